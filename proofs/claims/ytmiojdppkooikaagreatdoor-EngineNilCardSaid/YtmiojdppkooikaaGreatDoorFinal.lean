/- It is proved here that EngineNil returns true. Conditions: the package variables that the row lists hold what the program's own start-up code lays in them (the card ties that to the text). -/
import Derived.Test.YtmiojdppkooikaaGreatDoorRun11
import Derived.Test.YtmiojdppkooikaaGreatDoorCards
import Derived.Test.YtmiojdppkooikaaGreatDoorTie
import Derived.Test.YtmiojdppkooikaaGreatDoorFacts
import Derived.WalkKit
import Derived.ProofKit
import Derived.OpenShut
import Derived.LaidMore
import Derived.Deep.DeepHandedRow
import Derived.Deep.DeepWitnessRowRef
import Derived.Conc.MuLone
import Derived.Shelf.RegionOpenPlain
import Derived.Lib.Builder
import Derived.Lib.UnsafeStr
import Derived.Lib.Walk
namespace Go.Proofs.YtmiojdppkooikaaGreatDoor.Abs
open Go
theorem PPN : (envOf PP).N = NN := by kernel_rfl
theorem ext0 : ExternAt PP 393 Extern.BytealgIndexByte.indexByte := ⟨Tryz.f393, Tryz.func393, by kernel_rfl, by kernel_rfl, by kernel_rfl, by kernel_rfl⟩
set_option maxRecDepth 100000 in
/-- strings.Builder's two functions, walked. -/
theorem bw_used (b : Nat) (w : World) (h0 : w.cell? ⟨b, 0, none⟩ = some (.pointer (some ⟨b, 0, none⟩))) :
    Calls Tryz.prog 328 #[.pointer (some ⟨b, 0, none⟩)] w fun e w' => e = .returned (.tuple #[]) ∧ w' = w := by
  obtain ⟨j, hj, _⟩ := Option.map_eq_some_iff.1 (show (Tryz.prog.info? 383).map (·.size) = some 2 by kernel_rfl)
  go_enter Tryz.func328, Tryz.ntmps328
  go_wp2
  rw [Lib.run_neq_ptr_same w _ Tryz.underlying381 hj]
  go_wp2
  go_end0
  exact ⟨rfl, rfl⟩
set_option maxRecDepth 100000 in
theorem bw_fresh (b : Nat) (w : World) (h0 : w.cell? ⟨b, 0, none⟩ = some (.pointer none)) (hsh : w.shape? b = some (383, 2)) (hfz : w.frozen? ⟨b, 0, none⟩ = false) :
    Calls Tryz.prog 328 #[.pointer (some ⟨b, 0, none⟩)] w fun e w' => e = .returned (.tuple #[]) ∧ w' = w.setCell ⟨b, 0, none⟩ (.pointer (some ⟨b, 0, none⟩)) := by
  obtain ⟨j, hj, hjs⟩ := Option.map_eq_some_iff.1 (show (Tryz.prog.info? 383).map (·.size) = some 2 by kernel_rfl)
  have hlies : liesAt Tryz.prog Tryz.prog.depth 383 (2 / Tryz.prog.cellsOf 383) 0 383 1 = true := by kernel_rfl
  go_enter Tryz.func328, Tryz.ntmps328
  go_wp2
  rw [Lib.run_to_unsafe w ⟨b, 0, none⟩ Tryz.underlying381 Tryz.underlying474 hj (by rw [hjs]; decide) hsh (Nat.zero_lt_succ 1)]
  simp only [Result.andThen]
  rw [Oper.upon_value]
  go_wp2
  rw [run_callFunc_extern Tryz.func369 (by kernel_rfl) (by kernel_rfl) (by kernel_rfl) (e := Extern.AbiNoEscape.same) (by kernel_rfl)]
  rw [Lib.run_noEscape]
  simp only [Result.andThen]
  rw [Oper.upon_value]
  go_wp2
  rw [Lib.run_from_unsafe w ⟨b, 0, none⟩ Tryz.underlying474 Tryz.underlying381 hj hsh hlies]
  simp only [Result.andThen]
  rw [Oper.upon_value]
  go_wp2
  go_end0
  exact ⟨rfl, rfl⟩
set_option maxHeartbeats 1000000 in
set_option maxRecDepth 100000 in
theorem bw_empty (b : Nat) (w : World) (h1 : w.cell? ⟨b, 1, none⟩ = some (.slice none 0 0)) :
    Calls Tryz.prog 260 #[.pointer (some ⟨b, 0, none⟩)] w fun e w' => e = .returned (.string ⟨#[]⟩) ∧ w' = w.drew := by
  have c1 : w.drew.cell? ⟨b, 1, none⟩ = some (.slice none 0 0) := h1
  have hUS := fun W q => Lib.run_unsafeString_none (P := Tryz.prog) W 441 3 9 q
  have hSD : (Builtin.unsafeSliceData_ #[37] 441 #[.slice none 0 0]).run Tryz.prog w.drew = .ok (.pointer none) w.drew := rfl
  have mixed : Tryz.prog.follows Departure.mixedOrders = true := by kernel_rfl
  go_enter Tryz.func260, Tryz.ntmps260
  go_wp2
  go_region_o
  all_goals (go_wp2; go_ret; exact ⟨rfl, rfl⟩)
set_option maxHeartbeats 1000000 in
set_option maxRecDepth 100000 in
theorem bw_row (b g S cap : Nat) (l : List UInt8) (w : World) (hc0 : cap ≠ 0) (h1 : w.cell? ⟨b, 1, none⟩ = some (.slice (some ⟨g, S, none⟩) l.length cap))
    (hUS : (Builtin.unsafeString_ #[441, 3] 9 #[.pointer (some ⟨g, S, none⟩), .int .i64 l.length]).run Tryz.prog w.drew = .ok (.string ⟨l.toArray⟩) (w.drew.freeze ⟨g, S, none⟩ l.length)) :
    Calls Tryz.prog 260 #[.pointer (some ⟨b, 0, none⟩)] w fun e w' => e = .returned (.string ⟨l.toArray⟩) ∧ w' = w.drew.freeze ⟨g, S, none⟩ l.length := by
  have c1 : w.drew.cell? ⟨b, 1, none⟩ = some (.slice (some ⟨g, S, none⟩) l.length cap) := h1
  have hSD : (Builtin.unsafeSliceData_ #[37] 441 #[.slice (some ⟨g, S, none⟩) l.length cap]).run Tryz.prog w.drew = .ok (.pointer (some ⟨g, S, none⟩)) w.drew := Lib.run_unsafeSliceData_row _ _ _ _ _ _ hc0
  clear hc0
  have mixed : Tryz.prog.follows Departure.mixedOrders = true := by kernel_rfl
  go_enter Tryz.func260, Tryz.ntmps260
  go_wp2
  go_region_o
  all_goals (go_wp2; go_ret; exact ⟨rfl, rfl⟩)
theorem bw : BuilderWalks PP 328 260 TS TB where
  eC := fun args w => Go.MuLone.run_callFunc_enter Tryz.func328 (by kernel_rfl) rfl args w
  eS := fun args w => Go.MuLone.run_callFunc_enter Tryz.func260 (by kernel_rfl) rfl args w
  pt := ⟨441, Tryz.underlying441⟩
  one := by kernel_rfl
  used := bw_used
  fresh := bw_fresh
  empty := bw_empty
  row := fun b g S cap l w _ hc h1 h2 => bw_row b g S cap l w hc h1 (h2 _ _ _ Tryz.underlying441)
theorem cc_ok : PlugOK PP 328 (.sum (pCopyCheck NN TS)) := by
  rw [← PPN]
  exact pCopyCheck_ok bw
theorem str_ok : PlugOK PP 260 (.sum (pString NN TS TB)) := by
  rw [← PPN]
  exact pString_ok bw
theorem ext6 : ExternAt PP 299 Extern.BytealgCompare.compare := ⟨Tryz.f299, Tryz.func299, by kernel_rfl, by kernel_rfl, by kernel_rfl, by kernel_rfl⟩
theorem pl0_ok : PlugsOK PP pl0 := PlugsOK.set (PlugsOK.set (PlugsOK.set (PlugsOK.set (PlugsOK.leaf _) (pIndexByteString_ok ext0)) cc_ok) str_ok) (pCmp_ok ext6)
theorem lit_ok {pl : T Plug} (hpl : PlugsOK PP pl) (L : Lit) (hr : runCallA PP KK pl (okLit L) 100000 12 L.fn L.args (putAll L.L0 .leaf) L.nx0 = true) {g : Nat} (hg : L.fn = g) : PlugOK PP g (.sum (pLit NN L)) := by
  subst hg
  have := pLit_okA hpl L 100000 12 hr
  rw [PPN] at this
  exact this
theorem lits_leaf {g : Nat} : ∀ n L, (T.leaf : T Lit).get n = some L → PlugOK PP g (.sum (pLit NN L)) := fun n L h => by simp at h
theorem lits_add {g : Nat} {ls : T Lit} (h : ∀ n L, ls.get n = some L → PlugOK PP g (.sum (pLit NN L))) {k0 : Nat} {L0 : Lit} (h0 : PlugOK PP g (.sum (pLit NN L0))) : ∀ n L, (ls.set k0 L0).get n = some L → PlugOK PP g (.sum (pLit NN L)) := fun n L e => by
  rw [T.get_set] at e
  split at e
  · cases e; exact h0
  · exact h n L e
theorem lits_plug {g : Nat} {ls : T Lit} (h : ∀ n L, ls.get n = some L → PlugOK PP g (.sum (pLit NN L))) : PlugOK PP g (.sum (pLits NN ls)) := by
  rw [← PPN]
  exact pLits_ok (by rw [PPN]; exact h)
theorem ls0_ok : ∀ n L, ls0.get n = some L → PlugOK PP 319 (.sum (pLit NN L)) := lits_add lits_leaf (lit_ok pl0_ok lit0 lit0_run rfl)
theorem pl1_ok : PlugsOK PP pl1 := PlugsOK.set pl0_ok (lits_plug ls0_ok)
theorem ls1_ok : ∀ n L, ls1.get n = some L → PlugOK PP 319 (.sum (pLit NN L)) := lits_add ls0_ok (lit_ok pl1_ok lit1 lit1_run rfl)
theorem pl2_ok : PlugsOK PP pl2 := PlugsOK.set pl1_ok (lits_plug ls1_ok)
theorem ls2_ok : ∀ n L, ls2.get n = some L → PlugOK PP 319 (.sum (pLit NN L)) := lits_add ls1_ok (lit_ok pl2_ok lit2 lit2_run rfl)
theorem pl3_ok : PlugsOK PP pl3 := PlugsOK.set pl2_ok (lits_plug ls2_ok)
theorem ls3_ok : ∀ n L, ls3.get n = some L → PlugOK PP 319 (.sum (pLit NN L)) := lits_add ls2_ok (lit_ok pl3_ok lit3 lit3_run rfl)
theorem pl4_ok : PlugsOK PP pl4 := PlugsOK.set pl3_ok (lits_plug ls3_ok)
theorem ls4_ok : ∀ n L, ls4.get n = some L → PlugOK PP 98 (.sum (pLit NN L)) := lits_add lits_leaf (lit_ok pl4_ok lit4 lit4_run rfl)
theorem pl5_ok : PlugsOK PP pl5 := PlugsOK.set pl4_ok (lits_plug ls4_ok)
theorem ls5_ok : ∀ n L, ls5.get n = some L → PlugOK PP 42 (.sum (pLit NN L)) := lits_add lits_leaf (lit_ok pl5_ok lit5 lit5_run rfl)
theorem pl6_ok : PlugsOK PP pl6 := PlugsOK.set pl5_ok (lits_plug ls5_ok)
theorem ls6_ok : ∀ n L, ls6.get n = some L → PlugOK PP 319 (.sum (pLit NN L)) := lits_add ls3_ok (lit_ok pl6_ok lit6 lit6_run rfl)
theorem pl7_ok : PlugsOK PP pl7 := PlugsOK.set pl6_ok (lits_plug ls6_ok)
theorem ls7_ok : ∀ n L, ls7.get n = some L → PlugOK PP 319 (.sum (pLit NN L)) := lits_add ls6_ok (lit_ok pl7_ok lit7 lit7_run rfl)
theorem pl8_ok : PlugsOK PP pl8 := PlugsOK.set pl7_ok (lits_plug ls7_ok)
theorem ls8_ok : ∀ n L, ls8.get n = some L → PlugOK PP 47 (.sum (pLit NN L)) := lits_add lits_leaf (lit_ok pl8_ok lit8 lit8_run rfl)
theorem pl9_ok : PlugsOK PP pl9 := PlugsOK.set pl8_ok (lits_plug ls8_ok)
theorem ls9_ok : ∀ n L, ls9.get n = some L → PlugOK PP 101 (.sum (pLit NN L)) := lits_add lits_leaf (lit_ok pl9_ok lit9 lit9_run rfl)
theorem pl10_ok : PlugsOK PP pl10 := PlugsOK.set pl9_ok (lits_plug ls9_ok)
theorem ls10_ok : ∀ n L, ls10.get n = some L → PlugOK PP 98 (.sum (pLit NN L)) := lits_add ls4_ok (lit_ok pl10_ok lit10 lit10_run rfl)
theorem pl11_ok : PlugsOK PP pl11 := PlugsOK.set pl10_ok (lits_plug ls10_ok)
theorem ls11_ok : ∀ n L, ls11.get n = some L → PlugOK PP 4 (.sum (pLit NN L)) := lits_add lits_leaf (lit_ok pl11_ok lit11 lit11_run rfl)
theorem pl12_ok : PlugsOK PP pl12 := PlugsOK.set pl11_ok (lits_plug ls11_ok)

/-- the walk of the law itself: in the picture. -/
theorem top_run : runCallA PP KK pl12 (fun v _ _ => veq 8 v (.bool true)) 100000 12 3 [] .leaf NN = true := by kernel_rfl
theorem top_calls {W : World} (hW : NN ≤ W.heap.size) : Calls PP 3 #[] W fun e W' => e = .returned (.bool true) ∧ W.keptBut W' (fun _ => False) := by
  intro cs
  have hs := start_laid hW [] (fun x hx => by simp at hx) (fun x hx => by simp at hx)
  rw [← PPN] at hs
  obtain ⟨_, g2⟩ := runCallA_ok pl12_ok (h := .leaf) hs (AR.nil _) (by rw [PPN]; exact top_run)
  obtain ⟨v, h', nx', c, w', v', ρ', g0, k1, k2, k3, k4, k5, k6⟩ := g2 cs
  have hv := veq_ok _ _ _ g0
  subst hv
  have hv' : v' = .bool true := by cases k4; rfl
  subst hv'
  refine ⟨.returned (.bool true), w', c, ⟨rfl, k3.same.os, k3.same.output, fun i hi => ?_⟩, k1, k5, k6⟩
  have := k3.same.heap i hi (fun h => h)
  rw [this]
  cases W.heap[i]? with
  | none => rfl
  | some o => cases o <;> simp
end Go.Proofs.YtmiojdppkooikaaGreatDoor.Abs
namespace Go.Proofs.YtmiojdppkooikaaGreatDoor
open Go.ChangeShapes Go.WideShapes Go.ChangeAt Go.RowKit
theorem own : ownKnob Tryz.prog.godebug = none := by kernel_rfl
noncomputable def laidWorld (os : Os) : World := World.doorLaid Tryz.prog 81 os
theorem laid_met (os : Os) : laidMetH Tryz.prog Rows.engineNilRow.laid ((laidWorld os).forCall (fun _ _ => 0) ⟨#[], #[], []⟩).memory :=
  laidMetH_of_parts3 (fuel := 8) (laidMet_of_run' 8 (by kernel_rfl) (by kernel_rfl)) (by kernel_rfl) (by kernel_rfl)
theorem reads (os : Os) {H : Type} (enc : TypeId × Value → H) : ∃ places, DataW.whole enc Tryz.prog ((laidWorld os).forCall (fun _ _ => 0) ⟨#[], #[], []⟩).memory Tryz.f3.params.toList Rows.engineNilSpec.vars false #[].toList 8 = some ([], [], places) :=
  ⟨[], by kernel_rfl⟩
theorem size_of_shaped {W : World} (h : W.ShapedOpen Tryz.prog) : Abs.NN ≤ W.heap.size := by
  have h1 : Tryz.prog.globals.size = 7 := by kernel_rfl
  have h2 : (begin Tryz.prog (fun _ _ => 0) default).world.heap.size = 12 := by kernel_rfl
  obtain ⟨o, _, e, _⟩ := h.2 11 (by rw [h1]; decide) (by rw [h2]; decide)
  have := (Array.getElem?_eq_some_iff.1 e).1
  show 12 ≤ W.heap.size
  omega
theorem contract (H : Type) (enc : TypeId × Value → H) (W : World) (args : Array Value) (ds gs : List (DataW H)) (before : List MemPlace)
    (hW : DataW.Whole enc Tryz.prog Tryz.f3.params.toList Rows.engineNilSpec.vars false W args.toList ds gs before) (hs : W.ShapedOpen Tryz.prog) :
    Calls Tryz.prog 3 args W fun e W' => ∃ v, e = .returned v ∧ Rows.engineNilSpec.post enc Tryz.prog Tryz.f3 false true false false W args v W' := by
  have hW' := hW
  obtain ⟨p, q, hA0, hV, rfl, hfz, hnd⟩ := hW
  have hA : DataW.TrodAll enc Tryz.prog W 0 (fun _ => true) true Tryz.f3.params.toList args.toList ds p := hA0
  rw [Tryz.params3] at hA
  obtain ⟨ha, rfl, rfl⟩ := trodAll_nil hA
  obtain rfl : args = #[] := by cases args; simp_all
  obtain ⟨rfl, rfl⟩ := trodVars_none hV
  refine (Abs.top_calls (size_of_shaped hs)).mono fun e W' ⟨he, hk⟩ => ?_
  subst he
  refine ⟨_, rfl, [], [], [], [], [], [], hW', ?_, ?_, rfl, ?_, fun h => by cases h⟩
  · exact trodAll_mk1 (shut_bool Tryz.underlying4 true)
  · exact trodAll_mk0
  · exact World.keptBut_mono (fun p hp => hp.elim) hk
set_option maxRecDepth 100000 in
theorem lifted (os : Os) (started : os.Started) (H : Type) (enc : TypeId × Value → H) (F : Stop.Interp) :
    ReturnsInHanded {} Tryz.checked os 3 .any ((OpenSpec.ofChange Rows.engineNilSpec).preRow enc Tryz.prog Tryz.f3 Rows.engineNilRow.domain false Rows.engineNilRow.laid) (((OpenSpec.ofChange Rows.engineNilSpec).at F).post enc Tryz.prog Tryz.f3 false true false false) := by
  obtain ⟨places, hx⟩ := reads os enc
  refine returnsInHanded_of_row (C := Tryz.checked) (s := OpenSpec.ofChange Rows.engineNilSpec) own started (by kernel_rfl) Tryz.func3
    (witness_row_atRef (enc := enc) (C := Tryz.checked) false (laidWorld os) #[] rfl (by kernel_rfl) (by kernel_rfl) (by kernel_rfl)
      (OpenSpec.preRow_of_cond 8 hx (by kernel_rfl) (fun k hk => by cases hk) (by kernel_rfl) (laid_met os))) ?_
  intro W base args ds gs before hval hW _ _ _ hL hs _
  exact contract H enc W args ds gs before hW hs
theorem named0 : Tryz.pinned.checked.prog.funcNamed Rows.engineNilRow.func = some 3 := by kernel_rfl
theorem said : Rows.EngineNilSaid :=
  OpenClaim.holds_of_cond 3 Tryz.f3 rfl rfl rfl rfl rfl rfl rfl ⟨rfl, rfl, rfl, rfl, rfl⟩ rfl rfl rfl rfl rfl named0 Tryz.func3 closed
    (of_decide_eq_true (by kernel_rfl)) (by unfold Func.isWrapper; first | (rw [if_pos (by decide +kernel)]; kernel_rfl) | (rw [if_neg (by decide +kernel)]; exact ⟨rfl, rfl⟩))
    (fun os started H enc _ F => by rw [OpenClaim.pre_eq_preRow]; exact lifted os started H enc F)
end Go.Proofs.YtmiojdppkooikaaGreatDoor
