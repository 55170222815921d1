/- A part of the proof that EngineNil returns true. This part: runs of the picture machine, checked by the kernel; no conditions. -/
import Derived.Test.YtmiojdppkooikaaGreatDoorAbsF
import Derived.Test.YtmiojdppkooikaaGreatDoorProg
import Derived.KernelRfl
namespace Go.Proofs.YtmiojdppkooikaaGreatDoor.Abs
open Go
def bs (l : List Nat) : ByteArray := ⟨⟨l.map UInt8.ofNat⟩⟩
def u8l (l : List Nat) : List UInt8 := l.map UInt8.ofNat
noncomputable def someOf (l : List (Nat × Value)) : T Value := List.rec (motive := fun _ => T Value → T Value) (fun t => t) (fun x _ ih t => ih (t.set x.1 x.2)) l .leaf
noncomputable def PP : Program := Tryz.prog
noncomputable def KK : Ctx := ctxOf PP
noncomputable def NN : Nat := 12
noncomputable def TS : Nat := 383
noncomputable def TB : Nat := 5
noncomputable def pl0 : T Plug := (((((T.leaf : T Plug).set 393 (.ext pIndexByteString)).set 328 (.sum (pCopyCheck NN TS))).set 260 (.sum (pString NN TS TB))).set 299 (.ext pCmp))
end Go.Proofs.YtmiojdppkooikaaGreatDoor.Abs
