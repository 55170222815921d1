/- A part of the proof that EngineNil returns true. This part: runs of the picture machine, checked by the kernel; no conditions. -/
import Derived.Test.YtmiojdppkooikaaGreatDoorRun2
namespace Go.Proofs.YtmiojdppkooikaaGreatDoor.Abs
open Go
noncomputable def lit3 : Lit := { fn := 319, nx0 := 1793, args := [.agg #[.int .i64 (.ofNat 1), .slice (some ⟨1776, 0, none⟩) 1 0, .slice (some ⟨1778, 0, none⟩) 4 0]], L0 := [(1776, .cells (T.ofList [.int .i64 (.ofNat 1), .int .i64 (.ofNat 1), .string (bs [])]) 3 8594587651), (1778, .cells (T.ofList [.int .i64 (.ofNat 2), .int .i64 (.ofNat 0), .int .i64 (.ofNat 1), .int .i64 (.ofNat 0), .int .i64 (.ofNat 22), .int .i64 (.ofNat 0), .int .i64 (.ofNat 31), .int .i64 (.ofNat 0)]) 8 8598061058)], v := .tuple #[.slice (some ⟨1869, 0, none⟩) 4 0, .int .i64 (.ofNat 0), .int .i64 (.ofNat 0)], L1 := [(1776, .cells (T.ofList [.int .i64 (.ofNat 1), .int .i64 (.ofNat 1), .string (bs [])]) 3 8594587651), (1778, .cells (T.ofList [.int .i64 (.ofNat 2), .int .i64 (.ofNat 0), .int .i64 (.ofNat 1), .int .i64 (.ofNat 0), .int .i64 (.ofNat 22), .int .i64 (.ofNat 0), .int .i64 (.ofNat 31), .int .i64 (.ofNat 0)]) 8 8598061058), (1869, .cells (T.ofList [.int .i64 (.ofNat 0), .int .i64 (.ofNat 1), .int .i64 (.ofNat 2), .int .i64 (.ofNat 0)]) 4 8590131201)], nx1 := 1870 }
set_option maxRecDepth 1000000 in
theorem lit3_run : runCallA PP KK pl3 (okLit lit3) 100000 12 lit3.fn lit3.args (putAll lit3.L0 .leaf) lit3.nx0 = true := by kernel_rfl
noncomputable def ls3 : T Lit := ls2.set 1793 lit3
noncomputable def pl4 : T Plug := pl3.set 319 (.sum (pLits NN ls3))
end Go.Proofs.YtmiojdppkooikaaGreatDoor.Abs
