/- A part of the proof that RestoreNil returns true. This part: runs of the picture machine, checked by the kernel; no conditions. -/
import Derived.Test.YtpdapkpjkbpbmaaGreatDoorAbsF
import Derived.Test.YtpdapkpjkbpbmaaGreatDoorRows
import Derived.KernelRfl
namespace Go.Proofs.YtpdapkpjkbpbmaaGreatDoor.Abs
open Go
def bs (l : List Nat) : ByteArray := ⟨⟨l.map UInt8.ofNat⟩⟩
noncomputable def someOf (l : List (Nat × Value)) : T Value := List.rec (motive := fun _ => T Value → T Value) (fun t => t) (fun x _ ih t => ih (t.set x.1 x.2)) l .leaf
noncomputable def PP : Program := Tryz.prog
noncomputable def KK : Ctx := ctxOf PP
noncomputable def NN : Nat := 14
noncomputable def pl0 : T Plug := ((((T.leaf : T Plug).set 259 (.ext pIndexByteString)).set 216 (.ext pCountString)).set 103 (.sum (pWord NN 0 1))).set 104 (.sum (pWord NN 1 0))
end Go.Proofs.YtpdapkpjkbpbmaaGreatDoor.Abs
