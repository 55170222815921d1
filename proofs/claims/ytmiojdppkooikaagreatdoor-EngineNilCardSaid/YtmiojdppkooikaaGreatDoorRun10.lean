/- A part of the proof that EngineNil returns true. This part: runs of the picture machine, checked by the kernel; no conditions. -/
import Derived.Test.YtmiojdppkooikaaGreatDoorRun9
namespace Go.Proofs.YtmiojdppkooikaaGreatDoor.Abs
open Go
noncomputable def lit10 : Lit := { fn := 98, nx0 := 4550, args := [.func (.func 168) #[] #[.pointer (some ⟨4549, 0, none⟩)]], L0 := [(308, .map [⟨.int .i64 (.ofNat 0), .agg #[.int .i64 (.ofNat 0), .int .i64 (.ofNat 1), .int .i64 (.ofNat 0), .int .i64 (.ofNat 3), .slice none 0 0], 0⟩, ⟨.int .i64 (.ofNat 1), .agg #[.int .i64 (.ofNat 1), .int .i64 (.ofNat 1), .int .i64 (.ofNat 0), .int .i64 (.ofNat 3), .slice none 0 0], 1⟩] 2), (4549, .cells (T.ofList [.map (some 308)]) 1 4294967476)], v := .slice (some ⟨4557, 0, none⟩) 2 0, L1 := [(308, .map [⟨.int .i64 (.ofNat 0), .agg #[.int .i64 (.ofNat 0), .int .i64 (.ofNat 1), .int .i64 (.ofNat 0), .int .i64 (.ofNat 3), .slice none 0 0], 0⟩, ⟨.int .i64 (.ofNat 1), .agg #[.int .i64 (.ofNat 1), .int .i64 (.ofNat 1), .int .i64 (.ofNat 0), .int .i64 (.ofNat 3), .slice none 0 0], 1⟩] 2), (4549, .cells (T.ofList [.map (some 308)]) 1 4294967476), (4557, .cells (T.ofList [.int .i64 (.ofNat 0), .int .i64 (.ofNat 1)]) 2 8590065665)], nx1 := 4603 }
set_option maxRecDepth 1000000 in
theorem lit10_run : runCallA PP KK pl10 (okLit lit10) 100000 12 lit10.fn lit10.args (putAll lit10.L0 .leaf) lit10.nx0 = true := by kernel_rfl
noncomputable def ls10 : T Lit := ls4.set 4550 lit10
noncomputable def pl11 : T Plug := pl10.set 98 (.sum (pLits NN ls10))
end Go.Proofs.YtmiojdppkooikaaGreatDoor.Abs
