/- A part of the proof that EngineNil returns true. This part: runs of the picture machine, checked by the kernel; no conditions. -/
import Derived.Test.YtmiojdppkooikaaGreatDoorRun3
namespace Go.Proofs.YtmiojdppkooikaaGreatDoor.Abs
open Go
noncomputable def lit4 : Lit := { fn := 98, nx0 := 3056, args := [.func (.func 383) #[] #[.pointer (some ⟨3055, 0, none⟩)]], L0 := [(304, .map [⟨.int .i64 (.ofNat 0), .slice (some ⟨2642, 0, none⟩) 1 0, 0⟩, ⟨.int .i64 (.ofNat 1), .slice (some ⟨3015, 0, none⟩) 1 0, 1⟩] 2), (2642, .cells (T.ofList [.string (bs [97]), .bool true]) 2 8612741122), (3015, .cells (T.ofList [.string (bs [98]), .bool true]) 2 8612741122), (3055, .cells (T.ofList [.map (some 304)]) 1 4294967640)], v := .slice (some ⟨3063, 0, none⟩) 2 0, L1 := [(304, .map [⟨.int .i64 (.ofNat 0), .slice (some ⟨2642, 0, none⟩) 1 0, 0⟩, ⟨.int .i64 (.ofNat 1), .slice (some ⟨3015, 0, none⟩) 1 0, 1⟩] 2), (2642, .cells (T.ofList [.string (bs [97]), .bool true]) 2 8612741122), (3015, .cells (T.ofList [.string (bs [98]), .bool true]) 2 8612741122), (3055, .cells (T.ofList [.map (some 304)]) 1 4294967640), (3063, .cells (T.ofList [.int .i64 (.ofNat 0), .int .i64 (.ofNat 1)]) 2 8590065665)], nx1 := 3109 }
set_option maxRecDepth 1000000 in
theorem lit4_run : runCallA PP KK pl4 (okLit lit4) 100000 12 lit4.fn lit4.args (putAll lit4.L0 .leaf) lit4.nx0 = true := by kernel_rfl
noncomputable def ls4 : T Lit := (.leaf : T Lit).set 3056 lit4
noncomputable def pl5 : T Plug := pl4.set 98 (.sum (pLits NN ls4))
end Go.Proofs.YtmiojdppkooikaaGreatDoor.Abs
