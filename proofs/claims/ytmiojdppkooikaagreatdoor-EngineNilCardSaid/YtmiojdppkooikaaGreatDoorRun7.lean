/- A part of the proof that EngineNil returns true. This part: runs of the picture machine, checked by the kernel; no conditions. -/
import Derived.Test.YtmiojdppkooikaaGreatDoorRun6
namespace Go.Proofs.YtmiojdppkooikaaGreatDoor.Abs
open Go
noncomputable def lit7 : Lit := { fn := 319, nx0 := 3776, args := [.agg #[.int .i64 (.ofNat 1), .slice (some ⟨3764, 0, none⟩) 1 0, .slice (some ⟨3766, 0, none⟩) 4 0]], L0 := [(3764, .cells (T.ofList [.int .i64 (.ofNat 1), .int .i64 (.ofNat 1), .string (bs [])]) 3 8594587651), (3766, .cells (T.ofList [.int .i64 (.ofNat 2), .int .i64 (.ofNat 0), .int .i64 (.ofNat 1), .int .i64 (.ofNat 0), .int .i64 (.ofNat 22), .int .i64 (.ofNat 0), .int .i64 (.ofNat 31), .int .i64 (.ofNat 0)]) 8 8598061058)], v := .tuple #[.slice (some ⟨3852, 0, none⟩) 4 0, .int .i64 (.ofNat 0), .int .i64 (.ofNat 0)], L1 := [(3764, .cells (T.ofList [.int .i64 (.ofNat 1), .int .i64 (.ofNat 1), .string (bs [])]) 3 8594587651), (3766, .cells (T.ofList [.int .i64 (.ofNat 2), .int .i64 (.ofNat 0), .int .i64 (.ofNat 1), .int .i64 (.ofNat 0), .int .i64 (.ofNat 22), .int .i64 (.ofNat 0), .int .i64 (.ofNat 31), .int .i64 (.ofNat 0)]) 8 8598061058), (3852, .cells (T.ofList [.int .i64 (.ofNat 0), .int .i64 (.ofNat 1), .int .i64 (.ofNat 2), .int .i64 (.ofNat 0)]) 4 8590131201)], nx1 := 3853 }
set_option maxRecDepth 1000000 in
theorem lit7_run : runCallA PP KK pl7 (okLit lit7) 100000 12 lit7.fn lit7.args (putAll lit7.L0 .leaf) lit7.nx0 = true := by kernel_rfl
noncomputable def ls7 : T Lit := ls6.set 3776 lit7
noncomputable def pl8 : T Plug := pl7.set 319 (.sum (pLits NN ls7))
end Go.Proofs.YtmiojdppkooikaaGreatDoor.Abs
