/- A part of the proof that EngineNil returns true. This part: runs of the picture machine, checked by the kernel; no conditions. -/
import Derived.Test.YtmiojdppkooikaaGreatDoorRun5
namespace Go.Proofs.YtmiojdppkooikaaGreatDoor.Abs
open Go
noncomputable def lit6 : Lit := { fn := 319, nx0 := 3380, args := [.agg #[.int .i64 (.ofNat 1), .slice (some ⟨3368, 0, none⟩) 1 0, .slice (some ⟨3370, 0, none⟩) 4 0]], L0 := [(3368, .cells (T.ofList [.int .i64 (.ofNat 1), .int .i64 (.ofNat 1), .string (bs [])]) 3 8594587651), (3370, .cells (T.ofList [.int .i64 (.ofNat 2), .int .i64 (.ofNat 0), .int .i64 (.ofNat 1), .int .i64 (.ofNat 0), .int .i64 (.ofNat 22), .int .i64 (.ofNat 0), .int .i64 (.ofNat 31), .int .i64 (.ofNat 0)]) 8 8598061058)], v := .tuple #[.slice (some ⟨3456, 0, none⟩) 4 0, .int .i64 (.ofNat 0), .int .i64 (.ofNat 0)], L1 := [(3368, .cells (T.ofList [.int .i64 (.ofNat 1), .int .i64 (.ofNat 1), .string (bs [])]) 3 8594587651), (3370, .cells (T.ofList [.int .i64 (.ofNat 2), .int .i64 (.ofNat 0), .int .i64 (.ofNat 1), .int .i64 (.ofNat 0), .int .i64 (.ofNat 22), .int .i64 (.ofNat 0), .int .i64 (.ofNat 31), .int .i64 (.ofNat 0)]) 8 8598061058), (3456, .cells (T.ofList [.int .i64 (.ofNat 0), .int .i64 (.ofNat 1), .int .i64 (.ofNat 2), .int .i64 (.ofNat 0)]) 4 8590131201)], nx1 := 3457 }
set_option maxRecDepth 1000000 in
theorem lit6_run : runCallA PP KK pl6 (okLit lit6) 100000 12 lit6.fn lit6.args (putAll lit6.L0 .leaf) lit6.nx0 = true := by kernel_rfl
noncomputable def ls6 : T Lit := ls3.set 3380 lit6
noncomputable def pl7 : T Plug := pl6.set 319 (.sum (pLits NN ls6))
end Go.Proofs.YtmiojdppkooikaaGreatDoor.Abs
