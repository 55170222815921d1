/- A part of the proof that EngineNil returns true. This part: runs of the picture machine, checked by the kernel; no conditions. -/
import Derived.Test.YtmiojdppkooikaaGreatDoorRun8
namespace Go.Proofs.YtmiojdppkooikaaGreatDoor.Abs
open Go
noncomputable def lit9 : Lit := { fn := 101, nx0 := 4461, args := [.map (some 276)], L0 := [(276, .map [⟨.string (bs [97]), .agg #[.int .i64 (.ofNat 1), .int .i64 (.ofNat 1), .string (bs [])], 0⟩, ⟨.string (bs [98]), .agg #[.int .i64 (.ofNat 1), .int .i64 (.ofNat 1), .string (bs [])], 1⟩] 2)], v := .slice (some ⟨4467, 0, none⟩) 2 0, L1 := [(276, .map [⟨.string (bs [97]), .agg #[.int .i64 (.ofNat 1), .int .i64 (.ofNat 1), .string (bs [])], 0⟩, ⟨.string (bs [98]), .agg #[.int .i64 (.ofNat 1), .int .i64 (.ofNat 1), .string (bs [])], 1⟩] 2), (4467, .cells (T.ofList [.string (bs [97]), .int .i64 (.ofNat 1), .int .i64 (.ofNat 1), .string (bs []), .string (bs [98]), .int .i64 (.ofNat 1), .int .i64 (.ofNat 1), .string (bs [])]) 8 8594718724)], nx1 := 4519 }
set_option maxRecDepth 1000000 in
theorem lit9_run : runCallA PP KK pl9 (okLit lit9) 100000 12 lit9.fn lit9.args (putAll lit9.L0 .leaf) lit9.nx0 = true := by kernel_rfl
noncomputable def ls9 : T Lit := (.leaf : T Lit).set 4461 lit9
noncomputable def pl10 : T Plug := pl9.set 101 (.sum (pLits NN ls9))
end Go.Proofs.YtmiojdppkooikaaGreatDoor.Abs
