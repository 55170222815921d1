/- It is proved here that RestoreNil returns true. Conditions: the package variables that the row lists hold what the program's own start-up code lays in them (the card ties that to the text). -/
import Derived.Test.YtpdapkpjkbpbmaaGreatDoorRun7
import Derived.Test.YtpdapkpjkbpbmaaGreatDoorCards
import Derived.Test.YtpdapkpjkbpbmaaGreatDoorTie
import Derived.WalkKit
import Derived.ProofKit
import Derived.OpenShut
import Derived.LaidMore
import Derived.Deep.DeepHandedRow
import Derived.Deep.DeepWitnessRowRef
import Derived.Conc.MuLone
import Derived.Test.YtpdapkpjkbpbmaaGreatDoorFacts
namespace Go.Proofs.YtpdapkpjkbpbmaaGreatDoor.Abs
open Go
abbrev muLink : Go.Conc.Locks.MuLink := { lock := 62, unlock := 63, ilock := 103, iunlock := 104, lockSlow := 158, unlockSlow := 161, disable := 154, enable := 156, acquire := 157, relMerge := 159, cas32 := 155, add32 := 160, tMutex := 124, tIMutex := 122, tPMutex := 193, tPIMutex := 253, tPI32 := 255, tUP := 257, tNoCopy := 119, tU32 := 120 }
theorem muLib : Go.Conc.Locks.MuLib Tryz.prog muLink :=
  ⟨Tryz.func62, Tryz.func63, Tryz.func103, Tryz.func104, Tryz.func154, Tryz.func156, Tryz.func157, Tryz.func159, Tryz.func155, Tryz.func160, Tryz.underlying122, Tryz.runUnderlying122, Tryz.sizeOf122, Tryz.isAgg122, Tryz.zeroValue122, Tryz.underlying124, Tryz.runUnderlying124, Tryz.sizeOf124, Tryz.isAgg124, Tryz.zeroValue124, Tryz.underlying193, Tryz.runUnderlying193, Tryz.sizeOf193, Tryz.isAgg193, Tryz.zeroValue193, Tryz.underlying253, Tryz.runUnderlying253, Tryz.sizeOf253, Tryz.isAgg253, Tryz.zeroValue253, Tryz.underlying255, Tryz.runUnderlying255, Tryz.sizeOf255, Tryz.isAgg255, Tryz.zeroValue255, Tryz.underlying257, Tryz.runUnderlying257, Tryz.sizeOf257, Tryz.isAgg257, Tryz.zeroValue257, Tryz.underlying119, Tryz.runUnderlying119, Tryz.sizeOf119, Tryz.isAgg119, Tryz.zeroValue119, Tryz.underlying21, Tryz.runUnderlying21, Tryz.sizeOf21, Tryz.isAgg21, Tryz.zeroValue21, (by kernel_rfl)⟩
theorem PPN : (envOf PP).N = NN := by kernel_rfl
theorem ext259 : ExternAt PP 259 Extern.BytealgIndexByte.indexByte := ⟨Tryz.f259, Tryz.func259, by kernel_rfl, by kernel_rfl, by kernel_rfl, by kernel_rfl⟩
theorem ext216 : ExternAt PP 216 Extern.BytealgCount.count := ⟨Tryz.f216, Tryz.func216, by kernel_rfl, by kernel_rfl, by kernel_rfl, by kernel_rfl⟩
theorem lock_ok : PlugOK PP 103 (.sum (pWord NN 0 1)) := by
  rw [← PPN]
  exact pWord_ok (fun a w h1 h2 => Go.MuLone.ilock_free muLib a w h1 h2) (fun args w => Go.MuLone.run_callFunc_enter Tryz.func103 (by kernel_rfl) rfl args w)
theorem unlock_ok : PlugOK PP 104 (.sum (pWord NN 1 0)) := by
  rw [← PPN]
  exact pWord_ok (fun a w h1 h2 => Go.MuLone.iunlock_held muLib a w h1 h2) (fun args w => Go.MuLone.run_callFunc_enter Tryz.func104 (by kernel_rfl) rfl args w)
theorem pl0_ok : PlugsOK PP pl0 := PlugsOK.set (PlugsOK.set (PlugsOK.set (PlugsOK.set (PlugsOK.leaf _) (pIndexByteString_ok ext259)) (pCountString_ok ext216)) lock_ok) unlock_ok
theorem lit_ok {pl : T Plug} (hpl : PlugsOK PP pl) (L : Lit) (hr : okRun L (runCall PP KK pl 100000 L.fn L.args (putAll L.L0 .leaf) L.nx0) = true) {g : Nat} (hg : L.fn = g) : PlugOK PP g (.sum (pLit NN L)) := by
  subst hg
  have := pLit_ok hpl L 100000 hr
  rw [PPN] at this
  exact this
theorem lits_leaf {g : Nat} : ∀ n L, (T.leaf : T Lit).get n = some L → PlugOK PP g (.sum (pLit NN L)) := fun n L h => by simp at h
theorem lits_add {g : Nat} {ls : T Lit} (h : ∀ n L, ls.get n = some L → PlugOK PP g (.sum (pLit NN L))) {k0 : Nat} {L0 : Lit} (h0 : PlugOK PP g (.sum (pLit NN L0))) : ∀ n L, (ls.set k0 L0).get n = some L → PlugOK PP g (.sum (pLit NN L)) := fun n L e => by
  rw [T.get_set] at e
  split at e
  · cases e; exact h0
  · exact h n L e
theorem lits_plug {g : Nat} {ls : T Lit} (h : ∀ n L, ls.get n = some L → PlugOK PP g (.sum (pLit NN L))) : PlugOK PP g (.sum (pLits NN ls)) := by
  rw [← PPN]
  exact pLits_ok (by rw [PPN]; exact h)
theorem ls0_ok : ∀ n L, ls0.get n = some L → PlugOK PP 276 (.sum (pLit NN L)) := lits_add lits_leaf (lit_ok pl0_ok lit0 lit0_run rfl)
theorem pl1_ok : PlugsOK PP pl1 := PlugsOK.set pl0_ok (lits_plug ls0_ok)
theorem ls1_ok : ∀ n L, ls1.get n = some L → PlugOK PP 24 (.sum (pLit NN L)) := lits_add lits_leaf (lit_ok pl1_ok lit1 lit1_run rfl)
theorem pl2_ok : PlugsOK PP pl2 := PlugsOK.set pl1_ok (lits_plug ls1_ok)
theorem ls2_ok : ∀ n L, ls2.get n = some L → PlugOK PP 56 (.sum (pLit NN L)) := lits_add lits_leaf (lit_ok pl2_ok lit2 lit2_run rfl)
theorem pl3_ok : PlugsOK PP pl3 := PlugsOK.set pl2_ok (lits_plug ls2_ok)
theorem ls3_ok : ∀ n L, ls3.get n = some L → PlugOK PP 56 (.sum (pLit NN L)) := lits_add ls2_ok (lit_ok pl3_ok lit3 lit3_run rfl)
theorem pl4_ok : PlugsOK PP pl4 := PlugsOK.set pl3_ok (lits_plug ls3_ok)
theorem ls4_ok : ∀ n L, ls4.get n = some L → PlugOK PP 276 (.sum (pLit NN L)) := lits_add ls0_ok (lit_ok pl4_ok lit4 lit4_run rfl)
theorem pl5_ok : PlugsOK PP pl5 := PlugsOK.set pl4_ok (lits_plug ls4_ok)
theorem ls5_ok : ∀ n L, ls5.get n = some L → PlugOK PP 48 (.sum (pLit NN L)) := lits_add lits_leaf (lit_ok pl5_ok lit5 lit5_run rfl)
theorem pl6_ok : PlugsOK PP pl6 := PlugsOK.set pl5_ok (lits_plug ls5_ok)
theorem ls6_ok : ∀ n L, ls6.get n = some L → PlugOK PP 56 (.sum (pLit NN L)) := lits_add ls3_ok (lit_ok pl6_ok lit6 lit6_run rfl)
theorem pl7_ok : PlugsOK PP pl7 := PlugsOK.set pl6_ok (lits_plug ls6_ok)
theorem ls7_ok : ∀ n L, ls7.get n = some L → PlugOK PP 24 (.sum (pLit NN L)) := lits_add ls1_ok (lit_ok pl7_ok lit7 lit7_run rfl)
theorem pl8_ok : PlugsOK PP pl8 := PlugsOK.set pl7_ok (lits_plug ls7_ok)
theorem ls8_ok : ∀ n L, ls8.get n = some L → PlugOK PP 48 (.sum (pLit NN L)) := lits_add ls5_ok (lit_ok pl8_ok lit8 lit8_run rfl)
theorem pl9_ok : PlugsOK PP pl9 := PlugsOK.set pl8_ok (lits_plug ls8_ok)
theorem ls9_ok : ∀ n L, ls9.get n = some L → PlugOK PP 34 (.sum (pLit NN L)) := lits_add lits_leaf (lit_ok pl9_ok lit9 lit9_run rfl)
theorem pl10_ok : PlugsOK PP pl10 := PlugsOK.set pl9_ok (lits_plug ls9_ok)
theorem ls10_ok : ∀ n L, ls10.get n = some L → PlugOK PP 6 (.sum (pLit NN L)) := lits_add lits_leaf (lit_ok pl10_ok lit10 lit10_run rfl)
theorem pl11_ok : PlugsOK PP pl11 := PlugsOK.set pl10_ok (lits_plug ls10_ok)
theorem ls11_ok : ∀ n L, ls11.get n = some L → PlugOK PP 96 (.sum (pLit NN L)) := lits_add lits_leaf (lit_ok pl11_ok lit11 lit11_run rfl)
theorem pl12_ok : PlugsOK PP pl12 := PlugsOK.set pl11_ok (lits_plug ls11_ok)
theorem ls12_ok : ∀ n L, ls12.get n = some L → PlugOK PP 95 (.sum (pLit NN L)) := lits_add lits_leaf (lit_ok pl12_ok lit12 lit12_run rfl)
theorem pl13_ok : PlugsOK PP pl13 := PlugsOK.set pl12_ok (lits_plug ls12_ok)
theorem ls13_ok : ∀ n L, ls13.get n = some L → PlugOK PP 56 (.sum (pLit NN L)) := lits_add ls6_ok (lit_ok pl13_ok lit13 lit13_run rfl)
theorem pl14_ok : PlugsOK PP pl14 := PlugsOK.set pl13_ok (lits_plug ls13_ok)
theorem ls14_ok : ∀ n L, ls14.get n = some L → PlugOK PP 8 (.sum (pLit NN L)) := lits_add lits_leaf (lit_ok pl14_ok lit14 lit14_run rfl)
theorem pl15_ok : PlugsOK PP pl15 := PlugsOK.set pl14_ok (lits_plug ls14_ok)

/-- the walk of the law itself: in the picture. -/
theorem top_run : (match runCall PP KK pl15 100000 3 [] .leaf 14 with
  | .done v _ _ => veq 8 v (.bool true)
  | _ => false) = true := by kernel_rfl
theorem start_SI {W : World} (hW : 14 ≤ W.heap.size) : SI (envOf PP).N (fun _ => False) W (fun b => if b < 14 then some ⟨b, 0, 0⟩ else none) .leaf 14 W := by
  rw [PPN]
  show SI 14 (fun _ => False) W (fun b => if b < 14 then some ⟨b, 0, 0⟩ else none) .leaf 14 W
  refine ⟨fun b o p h => by simp at h, fun b₁ b₂ o₁ o₂ p₁ p₂ h => by simp at h, fun b p h => ?_, fun b p h => ?_, fun b o p _ h => by simp at h, fun b h => ⟨0, by simp [h]⟩, Nat.le_refl _, ⟨Nat.le_refl _, fun _ _ _ => rfl, rfl, rfl, rfl⟩⟩
  · split at h
    · cases h; simp only; omega
    · cases h
  · split at h
    · assumption
    · cases h
theorem top_calls {W : World} (hpl : PlugsOK PP pl15) (hW : 14 ≤ W.heap.size) : Calls PP 3 #[] W fun e W' => e = .returned (.bool true) ∧ W.keptBut W' (fun _ => False) := by
  intro cs
  have h := top_run
  split at h
  case h_2 => cases h
  rename_i v h' nx' hrun
  obtain ⟨_, g2⟩ := runCall_ok hpl (start_SI hW) (AR.nil _) hrun
  obtain ⟨c, w', v', ρ', k1, k2, k3, k4, k5, k6⟩ := g2 cs
  have hv := veq_ok _ _ _ h
  subst hv
  have hv' : v' = .bool true := by cases k4; rfl
  subst hv'
  refine ⟨.returned (.bool true), w', c, ⟨rfl, k3.same.os, k3.same.output, fun i hi => ?_⟩, k1, k5, k6⟩
  have := k3.same.heap i hi (fun h => h)
  rw [this]
  cases W.heap[i]? with
  | none => rfl
  | some o => cases o <;> simp
end Go.Proofs.YtpdapkpjkbpbmaaGreatDoor.Abs
namespace Go.Proofs.YtpdapkpjkbpbmaaGreatDoor
open Go.ChangeShapes Go.WideShapes Go.ChangeAt Go.RowKit
theorem own : ownKnob Tryz.prog.godebug = none := by kernel_rfl
noncomputable def firstCells : Array Value := match Go.Pinned.utf8First with
  | .agg l => (l.map fun d => match d with
    | .lit (.int k n) => Value.int k n
    | _ => undef).toArray
  | _ => #[]
noncomputable def laidWorld (os : Os) : World :=
  { World.doorLaid Tryz.prog 91 os with heap := (World.doorLaid Tryz.prog 91 os).heap.modify 2 fun o => match o with
      | .cells _ t frozen => .cells firstCells t frozen
      | o => o }
theorem laid_met (os : Os) : laidMetH Tryz.prog Rows.restoreNilRow.laid ((laidWorld os).forCall (fun _ _ => 0) ⟨#[], #[], []⟩).memory :=
  laidMetH_of_parts3 (fuel := 8) (laidMet_of_run' 8 (by kernel_rfl) (by kernel_rfl)) (by kernel_rfl) (by kernel_rfl)
theorem reads (os : Os) {H : Type} (enc : TypeId × Value → H) : ∃ places, DataW.whole enc Tryz.prog ((laidWorld os).forCall (fun _ _ => 0) ⟨#[], #[], []⟩).memory Tryz.f3.params.toList Rows.restoreNilSpec.vars false #[].toList 8 = some ([], [], places) :=
  ⟨[], by kernel_rfl⟩
theorem size_of_shaped {W : World} (h : W.ShapedOpen Tryz.prog) : 14 ≤ W.heap.size := by
  have h1 : Tryz.prog.globals.size = 9 := by kernel_rfl
  have h2 : (begin Tryz.prog (fun _ _ => 0) default).world.heap.size = 14 := by kernel_rfl
  obtain ⟨o, _, e, _⟩ := h.2 13 (by rw [h1]; decide) (by rw [h2]; decide)
  have := (Array.getElem?_eq_some_iff.1 e).1
  omega
theorem contract (H : Type) (enc : TypeId × Value → H) (W : World) (args : Array Value) (ds gs : List (DataW H)) (before : List MemPlace)
    (hW : DataW.Whole enc Tryz.prog Tryz.f3.params.toList Rows.restoreNilSpec.vars false W args.toList ds gs before) (hs : W.ShapedOpen Tryz.prog) :
    Calls Tryz.prog 3 args W fun e W' => ∃ v, e = .returned v ∧ Rows.restoreNilSpec.post enc Tryz.prog Tryz.f3 false true false false W args v W' := by
  have hW' := hW
  obtain ⟨p, q, hA0, hV, rfl, hfz, hnd⟩ := hW
  have hA : DataW.TrodAll enc Tryz.prog W 0 (fun _ => true) true Tryz.f3.params.toList args.toList ds p := hA0
  rw [Tryz.params3] at hA
  obtain ⟨ha, rfl, rfl⟩ := trodAll_nil hA
  obtain rfl : args = #[] := by cases args; simp_all
  obtain ⟨rfl, rfl⟩ := trodVars_none hV
  refine (Abs.top_calls Abs.pl15_ok (size_of_shaped hs)).mono fun e W' ⟨he, hk⟩ => ?_
  subst he
  refine ⟨_, rfl, [], [], [], [], [], [], hW', ?_, ?_, rfl, ?_, fun h => by cases h⟩
  · exact trodAll_mk1 (shut_bool Tryz.underlying4 true)
  · exact trodAll_mk0
  · exact World.keptBut_mono (fun p hp => hp.elim) hk
set_option maxRecDepth 100000 in
theorem lifted (os : Os) (started : os.Started) (H : Type) (enc : TypeId × Value → H) (F : Stop.Interp) :
    ReturnsInHanded {} Tryz.checked os 3 .any ((OpenSpec.ofChange Rows.restoreNilSpec).preRow enc Tryz.prog Tryz.f3 Rows.restoreNilRow.domain false Rows.restoreNilRow.laid) (((OpenSpec.ofChange Rows.restoreNilSpec).at F).post enc Tryz.prog Tryz.f3 false true false false) := by
  obtain ⟨places, hx⟩ := reads os enc
  refine returnsInHanded_of_row (C := Tryz.checked) (s := OpenSpec.ofChange Rows.restoreNilSpec) own started (by kernel_rfl) Tryz.func3
    (witness_row_atRef (enc := enc) (C := Tryz.checked) false (laidWorld os) #[] rfl (by kernel_rfl) (by kernel_rfl) (by kernel_rfl)
      (OpenSpec.preRow_of_cond 8 hx (by kernel_rfl) (fun k hk => by cases hk) (by kernel_rfl) (laid_met os))) ?_
  intro W base args ds gs before hval hW _ _ _ hL hs _
  exact contract H enc W args ds gs before hW hs
theorem named3 : Tryz.pinned.checked.prog.funcNamed Rows.restoreNilRow.func = some 3 := by kernel_rfl
theorem said : Rows.RestoreNilSaid :=
  OpenClaim.holds_of_cond 3 Tryz.f3 rfl rfl rfl rfl rfl rfl rfl ⟨rfl, rfl, rfl, rfl, rfl⟩ rfl rfl rfl rfl rfl named3 Tryz.func3 closed
    (of_decide_eq_true (by kernel_rfl)) (by unfold Func.isWrapper; first | (rw [if_pos (by decide +kernel)]; kernel_rfl) | (rw [if_neg (by decide +kernel)]; exact ⟨rfl, rfl⟩))
    (fun os started H enc _ F => by rw [OpenClaim.pre_eq_preRow]; exact lifted os started H enc F)
theorem plain (f : FuncId) (fn : Func) (hf : Tryz.pinned.checked.prog.funcNamed "tranche/tranchelaw24.RestoreNil" = some f) (hfn : Tryz.pinned.checked.prog.funcs[f]? = some fn) :
    true = Tryz.pinned.checked.prog.looks [] ∧ ∀ (j : Nat) t, fn.params[j]? = some t → Tryz.pinned.checked.prog.wantsStandIn t = false := by
  obtain rfl : f = 3 := Option.some.inj ((show Tryz.prog.funcNamed "tranche/tranchelaw24.RestoreNil" = some 3 by kernel_rfl).symm.trans hf) |>.symm
  obtain rfl : fn = Tryz.f3 := (Option.some.inj (Tryz.func3.symm.trans hfn)).symm
  refine ⟨by kernel_rfl, fun j t ht => ?_⟩
  rw [Tryz.params3] at ht
  simp at ht
theorem restoreNil_holds : Rows.RestoreNilCardSaid :=
  Claim7.holds_tied_plain_at .later [] _ _ _ _ said (fun _ h => by cases h) (by kernel_rfl) (fun _ h => by cases h) restoreNil_row_tie rfl ⟨rfl, rfl⟩ (by kernel_rfl) rfl plain (by kernel_rfl)
end Go.Proofs.YtpdapkpjkbpbmaaGreatDoor
#print axioms Go.Proofs.YtpdapkpjkbpbmaaGreatDoor.restoreNil_holds
