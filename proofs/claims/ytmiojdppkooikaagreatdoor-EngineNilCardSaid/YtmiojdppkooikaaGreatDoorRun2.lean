/- A part of the proof that EngineNil returns true. This part: runs of the picture machine, checked by the kernel; no conditions. -/
import Derived.Test.YtmiojdppkooikaaGreatDoorRun1
namespace Go.Proofs.YtmiojdppkooikaaGreatDoor.Abs
open Go
noncomputable def lit2 : Lit := { fn := 319, nx0 := 1225, args := [.agg #[.int .i64 (.ofNat 1), .slice (some ⟨1208, 0, none⟩) 1 0, .slice (some ⟨1210, 0, none⟩) 4 0]], L0 := [(1208, .cells (T.ofList [.int .i64 (.ofNat 1), .int .i64 (.ofNat 1), .string (bs [])]) 3 8594587651), (1210, .cells (T.ofList [.int .i64 (.ofNat 2), .int .i64 (.ofNat 0), .int .i64 (.ofNat 1), .int .i64 (.ofNat 0), .int .i64 (.ofNat 22), .int .i64 (.ofNat 0), .int .i64 (.ofNat 31), .int .i64 (.ofNat 0)]) 8 8598061058)], v := .tuple #[.slice (some ⟨1301, 0, none⟩) 4 0, .int .i64 (.ofNat 0), .int .i64 (.ofNat 0)], L1 := [(1208, .cells (T.ofList [.int .i64 (.ofNat 1), .int .i64 (.ofNat 1), .string (bs [])]) 3 8594587651), (1210, .cells (T.ofList [.int .i64 (.ofNat 2), .int .i64 (.ofNat 0), .int .i64 (.ofNat 1), .int .i64 (.ofNat 0), .int .i64 (.ofNat 22), .int .i64 (.ofNat 0), .int .i64 (.ofNat 31), .int .i64 (.ofNat 0)]) 8 8598061058), (1301, .cells (T.ofList [.int .i64 (.ofNat 0), .int .i64 (.ofNat 1), .int .i64 (.ofNat 2), .int .i64 (.ofNat 0)]) 4 8590131201)], nx1 := 1302 }
set_option maxRecDepth 1000000 in
theorem lit2_run : runCallA PP KK pl2 (okLit lit2) 100000 12 lit2.fn lit2.args (putAll lit2.L0 .leaf) lit2.nx0 = true := by kernel_rfl
noncomputable def ls2 : T Lit := ls1.set 1225 lit2
noncomputable def pl3 : T Plug := pl2.set 319 (.sum (pLits NN ls2))
end Go.Proofs.YtmiojdppkooikaaGreatDoor.Abs
