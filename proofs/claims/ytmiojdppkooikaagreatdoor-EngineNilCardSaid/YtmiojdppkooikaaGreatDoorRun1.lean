/- A part of the proof that EngineNil returns true. This part: runs of the picture machine, checked by the kernel; no conditions. -/
import Derived.Test.YtmiojdppkooikaaGreatDoorRun0
namespace Go.Proofs.YtmiojdppkooikaaGreatDoor.Abs
open Go
noncomputable def lit1 : Lit := { fn := 319, nx0 := 657, args := [.agg #[.int .i64 (.ofNat 1), .slice (some ⟨640, 0, none⟩) 1 0, .slice (some ⟨642, 0, none⟩) 4 0]], L0 := [(640, .cells (T.ofList [.int .i64 (.ofNat 1), .int .i64 (.ofNat 1), .string (bs [])]) 3 8594587651), (642, .cells (T.ofList [.int .i64 (.ofNat 2), .int .i64 (.ofNat 0), .int .i64 (.ofNat 1), .int .i64 (.ofNat 0), .int .i64 (.ofNat 22), .int .i64 (.ofNat 0), .int .i64 (.ofNat 31), .int .i64 (.ofNat 0)]) 8 8598061058)], v := .tuple #[.slice (some ⟨733, 0, none⟩) 4 0, .int .i64 (.ofNat 0), .int .i64 (.ofNat 0)], L1 := [(640, .cells (T.ofList [.int .i64 (.ofNat 1), .int .i64 (.ofNat 1), .string (bs [])]) 3 8594587651), (642, .cells (T.ofList [.int .i64 (.ofNat 2), .int .i64 (.ofNat 0), .int .i64 (.ofNat 1), .int .i64 (.ofNat 0), .int .i64 (.ofNat 22), .int .i64 (.ofNat 0), .int .i64 (.ofNat 31), .int .i64 (.ofNat 0)]) 8 8598061058), (733, .cells (T.ofList [.int .i64 (.ofNat 0), .int .i64 (.ofNat 1), .int .i64 (.ofNat 2), .int .i64 (.ofNat 0)]) 4 8590131201)], nx1 := 734 }
set_option maxRecDepth 1000000 in
theorem lit1_run : runCallA PP KK pl1 (okLit lit1) 100000 12 lit1.fn lit1.args (putAll lit1.L0 .leaf) lit1.nx0 = true := by kernel_rfl
noncomputable def ls1 : T Lit := ls0.set 657 lit1
noncomputable def pl2 : T Plug := pl1.set 319 (.sum (pLits NN ls1))
end Go.Proofs.YtmiojdppkooikaaGreatDoor.Abs
