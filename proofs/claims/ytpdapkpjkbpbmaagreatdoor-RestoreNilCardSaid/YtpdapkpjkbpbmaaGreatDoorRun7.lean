/- A part of the proof that RestoreNil returns true. This part: runs of the picture machine, checked by the kernel; no conditions. -/
import Derived.Test.YtpdapkpjkbpbmaaGreatDoorRun6
namespace Go.Proofs.YtpdapkpjkbpbmaaGreatDoor.Abs
open Go
noncomputable def lit14 : Lit := { fn := 8, nx0 := 17, args := [], L0 := [], v := .bool true, L1 := [], nx1 := 8370 }
set_option maxRecDepth 1000000 in
theorem lit14_run : okRun lit14 (runCall PP KK pl14 100000 lit14.fn lit14.args (putAll lit14.L0 .leaf) lit14.nx0) = true := by kernel_rfl
noncomputable def ls14 : T Lit := (.leaf : T Lit).set 17 lit14
noncomputable def pl15 : T Plug := pl14.set 8 (.sum (pLits NN ls14))
end Go.Proofs.YtpdapkpjkbpbmaaGreatDoor.Abs
