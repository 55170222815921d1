/- A part of the proof that EngineNil returns true. This part: runs of the picture machine, checked by the kernel; no conditions. -/
import Derived.Test.YtmiojdppkooikaaGreatDoorRun10
namespace Go.Proofs.YtmiojdppkooikaaGreatDoor.Abs
open Go
noncomputable def lit11 : Lit := { fn := 4, nx0 := 12, args := [], L0 := [], v := .bool true, L1 := [], nx1 := 4611 }
set_option maxRecDepth 1000000 in
theorem lit11_run : runCallA PP KK pl11 (okLit lit11) 100000 12 lit11.fn lit11.args (putAll lit11.L0 .leaf) lit11.nx0 = true := by kernel_rfl
noncomputable def ls11 : T Lit := (.leaf : T Lit).set 12 lit11
noncomputable def pl12 : T Plug := pl11.set 4 (.sum (pLits NN ls11))
end Go.Proofs.YtmiojdppkooikaaGreatDoor.Abs
