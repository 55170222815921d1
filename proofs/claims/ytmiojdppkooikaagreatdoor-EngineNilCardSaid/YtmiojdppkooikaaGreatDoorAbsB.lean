/- A part of the proof that EngineNil returns true. This part: a machine that computes on pictures of Go memory, each of whose steps is shown to be matched by the model; no conditions. -/
import Derived.Test.YtmiojdppkooikaaGreatDoorAbsA
import Derived.Orders
namespace Go.Proofs.YtmiojdppkooikaaGreatDoor.Abs
open Go

inductive QR where
  | val (v : Value)
  | new (o : AObj) (v : Value)
  | dead (v : Value)
  | fail

/-- WHAT THE MODEL DOES WHERE THE PICTURE SAYS r. -/
def QV (P : Program) (s : Sem Value) (ρ : Ren) (id : Nat) (w : World) : QR → Prop
  | .dead v => ∃ v' q b p, s.run P w = .ok v' w ∧ ρ b = some p ∧ q.B = p.B ∧ ∀ ρ', Ext ρ ρ' → ρ' id = some q → VR ρ' v v'
  | .val v => ∃ v', s.run P w = .ok v' w ∧ VR ρ v v'
  | .new ob v => ∃ v' c d p, s.run P w = .ok v' { w with heap := w.heap.push c, drawn := d } ∧ p.B = w.heap.size ∧
      ∀ ρ', Ext ρ ρ' → ρ' id = some p → OR ρ' p ob c ∧ VR ρ' v v'
  | .fail => True

/-- a Sem that asks nothing of the world. -/
def pureRun {α : Type} (P : Program) : Sem α → Option α
  | .pure a => some a
  | .program k => pureRun P (k P)
  | .mark _ k => pureRun P k
  | _ => none
theorem pureRun_ok {α : Type} {P : Program} {s : Sem α} {a : α} (h : pureRun P s = some a) (w : World) : s.run P w = .ok a w := by
  induction s with
  | pure b => simp only [pureRun, Option.some.injEq] at h; subst h; rfl
  | program k ih => simp only [pureRun] at h; simp only [Sem.run]; exact ih P h
  | mark m k ih => simp only [pureRun] at h; simp only [Sem.run]; exact ih h
  | _ => simp [pureRun] at h
theorem pureV_eq {ρ : Ren} {n : Nat} {v v' : Value} (hp : pureV n v = true) (h : VR ρ v v') : v' = v := by
  induction h generalizing n with
  | bool b => rfl
  | int k n => rfl
  | float k n => rfl
  | complex k a b => rfl
  | string s => rfl
  | pnil => rfl
  | ptr h => cases n <;> simp [pureV] at hp
  | snil => rfl
  | slc h hc hn => cases n <;> simp [pureV] at hp
  | mnil => rfl
  | mp h => cases n <;> simp [pureV] at hp
  | cnil => rfl
  | func fn a c a' c' hf ha hc _ _ iA iC =>
    cases n with
    | zero => simp [pureV] at hp
    | succ n =>
      cases fn with
      | func f =>
        simp only [pureV, Bool.and_eq_true, List.all_eq_true] at hp
        have e1 : a' = a := Array.ext ha.symm fun i h1 h2 => iA i h2 h1 (hp.1 _ (by simp))
        have e2 : c' = c := Array.ext hc.symm fun i h1 h2 => iC i h2 h1 (hp.2 _ (by simp))
        rw [e1, e2]
      | _ => simp [pureV] at hp
  | yield h => cases n <;> simp [pureV] at hp
  | nilFunc => rfl
  | nilIface => rfl
  | iface t _ ih =>
    cases n with
    | zero => simp [pureV] at hp
    | succ n => rw [ih (n := n) (by simpa only [pureV] using hp)]
  | agg a a' ha _ ih =>
    cases n with
    | zero => simp [pureV] at hp
    | succ n =>
      have hp' : a.toList.all (pureV n) = true := by simpa only [pureV] using hp
      rw [List.all_eq_true] at hp'
      have e1 : a' = a := Array.ext ha.symm fun i h1 h2 => ih i h2 h1 (hp' _ (by simp))
      rw [e1]
  | tuple a a' ha _ ih =>
    cases n with
    | zero => simp [pureV] at hp
    | succ n =>
      have hp' : a.toList.all (pureV n) = true := by simpa only [pureV] using hp
      rw [List.all_eq_true] at hp'
      have e1 : a' = a := Array.ext ha.symm fun i h1 h2 => ih i h2 h1 (hp' _ (by simp))
      rw [e1]

section
variable {P : Program} {N : Nat} {U : Nat → Prop} {ws : World} {ρ : Ren} {h : T AObj} {nx : Nat} {w : World} {id : Nat}

/- ---------- loads ---------- -/
noncomputable def qLoad (E : Env) (h : T AObj) (ty : Nat) (a : Value) : QR :=
  match a with
  | .pointer (some ⟨b, o, none⟩) =>
    match h.get b with
    | some (.cells t n _) =>
      match E.ti ty with
      | some x =>
        match x.agg with
        | true => match Nat.ble (Nat.add o x.size) n with
          | true => match getN t x.size o with
            | some l => .val (.agg ⟨l⟩)
            | none => .fail
          | false => .fail
        | false => match Nat.blt o n with
          | true => match t.get o with
            | some v => .val v
            | none => .fail
          | false => .fail
      | none => .fail
    | _ => .fail
  | _ => .fail
theorem loadVar_ok (s : SI N U ws ρ h nx w) {b o : Nat} {p : Pl} (hp : ρ b = some p) {t : T Value} {n es : Nat} (hg : h.get b = some (.cells t n es)) {ty : Nat} {x : TI} (hx : TyOK P ty x) :
    (∀ l, x.agg = true → o + x.size ≤ n → getN t x.size o = some l → ∃ v', (loadVar ty ⟨p.B, p.S + o, none⟩).run P w = .ok v' w ∧ VR ρ (.agg ⟨l⟩) v') ∧
    (∀ v, x.agg = false → o < n → t.get o = some v → ∃ v', (loadVar ty ⟨p.B, p.S + o, none⟩).run P w = .ok v' w ∧ VR ρ v v') := by
  obtain ⟨c, hc, ho⟩ := s.rel b _ p hg hp
  refine ⟨fun l ha hn hl => ?_, fun v ha hn hv => ?_⟩
  · obtain ⟨l', hr, hlen, hrun⟩ := loads_ok (P := P) hc ho hl hn
    refine ⟨.agg l'.toArray, ?_, VR.agg_iff.2 ⟨_, rfl, AR.of_LR hr⟩⟩
    unfold loadVar
    simp only [Sem.run_bind, hx.run_isAgg, Result.andThen_ok, ha, if_true, hx.run_size, hrun, Sem.run_pure]
  · obtain ⟨C, elem, fz, rfl, h1, _, h3, _, _⟩ := ho
    obtain ⟨v', e, r⟩ := h3 o v hn hv
    refine ⟨v', ?_, r⟩
    unfold loadVar
    simp only [Sem.run_bind, hx.run_isAgg, Result.andThen_ok, ha, Bool.false_eq_true, if_false]
    exact run_load_at hc e _
theorem qLoad_ok (s : SI N U ws ρ h nx w) {ty : Nat} {a a' : Value} (ha : VR ρ a a') : QV P (Instr.loadAt ty a') ρ id w (qLoad (envOf P) h ty a) := by
  unfold qLoad
  split
  case h_2 => trivial
  rename_i b o
  split
  case h_2 => trivial
  rename_i t n es hg
  split
  case h_2 => trivial
  rename_i x hx
  have hx := ti_ok hx
  cases ha with
  | ptr hp =>
    obtain ⟨L1, L2⟩ := loadVar_ok (P := P) (o := o) s hp hg hx
    have e : ∀ ρ' : Addr, (Instr.loadAt ty (.pointer (some ρ'))).run P w = (loadVar ty ρ').run P w := fun _ => rfl
    split
    · rename_i hag
      split
      · rename_i hle
        split
        · rename_i l hl
          obtain ⟨v', hr, hv⟩ := L1 l hag (Nat.le_of_ble_eq_true hle) hl
          exact ⟨v', by rw [e]; exact hr, hv⟩
        · trivial
      · trivial
    · rename_i hag
      split
      · rename_i hle
        split
        · rename_i v hv
          have hle : o < n := by simpa [Nat.blt_eq] using hle
          obtain ⟨v', hr, hv⟩ := L2 v hag hle hv
          exact ⟨v', by rw [e]; exact hr, hv⟩
        · trivial
      · trivial

/- ---------- new variables ---------- -/
noncomputable def objOf (l : List Value) (es : Nat) : AObj := .cells (T.ofList l) (lenF l) es
theorem OR_new {ρ : Ren} {l l' : List Value} (h : LR ρ l l') (B C : Nat) (elem : TypeId) : OR ρ ⟨B, 0, C⟩ (objOf l 0) (.cells l'.toArray elem) := by
  refine ⟨l'.toArray, elem, (0, 0), rfl, by simp [lenF_eq, h.length], by simp [esz_lt], fun i v hi hv => ?_, fun i _ _ => by simp, .inl (esz_lt (by decide)), TyR.low (by decide)⟩
  rw [T.get_ofList] at hv
  obtain ⟨v', e, r⟩ := h.get? hv
  exact ⟨v', by simpa using e, r⟩
theorem OR_new_ty {ρ : Ren} {l l' : List Value} (h : LR ρ l l') (B C : Nat) (elem : Nat) (hT : elem < 4294967296) : OR ρ ⟨B, 0, C⟩ (objOf l (4294967296 + elem)) (.cells l'.toArray elem) := by
  refine ⟨l'.toArray, elem, (0, 0), rfl, by simp [lenF_eq, h.length], by simp [esz_ty hT], fun i v hi hv => ?_, fun i _ _ => by simp, .inl (esz_ty hT), fun _ _ => ⟨rfl, by simp [lenF_eq, h.length], rfl⟩, fun h => by omega⟩
  rw [T.get_ofList] at hv
  obtain ⟨v', e, r⟩ := h.get? hv
  exact ⟨v', by simpa using e, r⟩
theorem OR_row {ρ : Ren} {l l' : List Value} (h : LR ρ l l') (B C es : Nat) (elem : TypeId) (rest : List Value) (h1 : l.length ≤ C * es) (h2 : C * es ≤ l.length + rest.length) (hlo : es < 65536) :
    OR ρ ⟨B, 0, C⟩ (objOf l (rowC elem es)) (.cells (l' ++ rest).toArray elem) := by
  have hl := h.length
  refine ⟨_, elem, (0, 0), rfl, by simp [lenF_eq]; omega, by rw [esz_row hlo]; simp; omega, fun i v hi hv => ?_, fun i _ _ => by simp, .inr (by rw [esz_row hlo]; simpa [lenF_eq] using h1), TyR.row hlo⟩
  rw [T.get_ofList] at hv
  obtain ⟨v', e, r⟩ := h.get? hv
  refine ⟨v', ?_, r⟩
  simp only [Nat.zero_add, List.getElem?_toArray]
  rw [List.getElem?_append_left (by rw [← hl]; simpa [lenF_eq] using hi)]
  exact e

theorem cells_LR {ρ : Ren} {v v' : Value} (h : VR ρ v v') : LR ρ v.cells.toList v'.cells.toList := by
  cases h with
  | agg a a' ha hA => exact AR.toList ⟨ha, hA⟩
  | bool b => exact .cons (.bool b) .nil
  | int k n => exact .cons (.int k n) .nil
  | float k n => exact .cons (.float k n) .nil
  | complex k a b => exact .cons (.complex k a b) .nil
  | string s => exact .cons (.string s) .nil
  | pnil => exact .cons .pnil .nil
  | ptr h => exact .cons (.ptr h) .nil
  | snil => exact .cons .snil .nil
  | slc h hc hn => exact .cons (.slc h hc hn) .nil
  | mnil => exact .cons .mnil .nil
  | mp h => exact .cons (.mp h) .nil
  | cnil => exact .cons .cnil .nil
  | func fn a c a' c' hf ha hc hA hC => exact .cons (.func fn a c a' c' hf ha hc hA hC) .nil
  | yield h => exact .cons (.yield h) .nil
  | nilFunc => exact .cons .nilFunc .nil
  | nilIface => exact .cons .nilIface .nil
  | iface t h => exact .cons (.iface t h) .nil
  | tuple a a' ha hA => exact .cons (.tuple a a' ha hA) .nil

noncomputable def qBox (id elem : Nat) (v : Value) : QR := match Nat.blt elem 4294967296 with
  | true => .new (objOf v.cells.toList (Nat.add 4294967296 elem)) (.pointer (some ⟨id, 0, none⟩))
  | false => .fail
theorem qBox_ok {elem : TypeId} {v v' : Value} (hv : VR ρ v v') : QV P (Instr.box elem v') ρ id w (qBox id elem v) := by
  unfold qBox
  split
  case h_2 => trivial
  rename_i hT
  rw [Nat.blt_eq] at hT
  refine ⟨.pointer (some ⟨w.heap.size, 0, none⟩), .cells v'.cells elem, w.drawn, ⟨w.heap.size, 0, 0⟩, rfl, rfl, fun ρ' he hi => ⟨?_, ?_⟩⟩
  · have := OR_new_ty (cells_LR (hv.mono he)) w.heap.size 0 elem hT
    simpa using this
  · exact VR.ptr (o := 0) hi
noncomputable def qAlloc (E : Env) (id : Nat) (elem : Nat) : QR :=
  match E.ti elem with
  | some x => match x.zero with
    | some z => qBox id elem z
    | none => .fail
  | none => .fail
theorem qAlloc_ok {elem : TypeId} : QV P (Instr.alloc elem true (.tuple #[])) ρ id w (qAlloc (envOf P) id elem) := by
  unfold qAlloc
  split
  case h_2 => trivial
  rename_i x hx
  have hx := ti_ok hx
  split
  case h_2 => trivial
  rename_i z hz
  have hb := qBox_ok (P := P) (ρ := ρ) (id := id) (w := w) (elem := elem) (pureV_VR ρ 3 z (hx.pure z hz))
  have e : (Instr.alloc elem true (.tuple #[])).run P w = (Instr.box elem z).run P w := by
    unfold Instr.alloc Instr.box
    simp only [Sem.run_bind, hx.run_zero hz, Result.andThen_ok]
  unfold qBox at hb ⊢
  split
  case h_2 => trivial
  rename_i hT
  rw [hT] at hb
  obtain ⟨v', c, d, p, hr, rest⟩ := hb
  exact ⟨v', c, d, p, by rw [e]; exact hr, rest⟩
end
end Go.Proofs.YtmiojdppkooikaaGreatDoor.Abs
namespace Go.Proofs.YtmiojdppkooikaaGreatDoor.Abs
open Go

/-- the n-th of a list. -/
noncomputable def nth {α : Type} (l : List α) : Nat → Option α :=
  List.rec (motive := fun _ => Nat → Option α) (fun _ => none) (fun x _ ih n => Nat.rec (motive := fun _ => Option α) (some x) (fun m _ => ih m) n) l
theorem nth_eq {α : Type} : ∀ (l : List α) (n : Nat), nth l n = l[n]?
  | [], n => by simp; rfl
  | x :: l, 0 => rfl
  | x :: l, n + 1 => by
    show nth l n = _
    rw [nth_eq l n]; rfl

section
variable {P : Program} {N : Nat} {U : Nat → Prop} {ws : World} {ρ : Ren} {h : T AObj} {nx : Nat} {w : World} {id : Nat}

/- ---------- a field's address ---------- -/
noncomputable def qFieldAddr (E : Env) (st : Nat) (a : Value) (f : Nat) : QR :=
  match a with
  | .pointer (some ⟨b, o, none⟩) =>
    match E.ti st with
    | some ⟨.struct fs, _, _, _, _, _, _⟩ =>
      match nth fs.toList f with
      | some fd =>
        match E.ti fd.type with
        | some x => match Nat.beq x.size 0 with
          | true => .fail
          | false => .val (.pointer (some ⟨b, Nat.add o fd.offset, none⟩))
        | none => .fail
      | none => .fail
    | _ => .fail
  | _ => .fail
theorem qFieldAddr_ok {st f : Nat} {a a' : Value} (ha : VR ρ a a') : QV P (Instr.fieldAt st a' f) ρ id w (qFieldAddr (envOf P) st a f) := by
  unfold qFieldAddr
  split
  case h_2 => trivial
  rename_i b o
  split
  case h_2 => trivial
  rename_i fs _ _ _ _ _ _ hst
  have hst := ti_ok hst
  split
  case h_2 => trivial
  rename_i fd hfd
  split
  case h_2 => trivial
  rename_i x hx
  have hx := ti_ok hx
  split
  · trivial
  · rename_i h0
    have h0 : x.size ≠ 0 := Nat.ne_of_beq_eq_false h0
    cases ha with
    | ptr hp =>
      rename_i p
      refine ⟨.pointer (some ⟨p.B, p.S + (o + fd.offset), none⟩), ?_, VR.ptr hp⟩
      rw [nth_eq] at hfd
      have hfd' : fs[f]? = some fd := by simpa using hfd
      unfold Instr.fieldAt
      simp only [Sem.run_bind, hst.run_und, Result.andThen_ok, hfd', Instr.sureAddr, Sem.run_pure]
      unfold fieldPlace
      simp only [Sem.run_bind, hx.run_size, Result.andThen_ok, h0, if_false, Sem.run_pure, add_mk, Nat.add_assoc]

/- ---------- an element's address ---------- -/
noncomputable def qIndexAddr (E : Env) (ty : Nat) (a : Value) (i : Value) : QR :=
  match i with
  | .int _ (.ofNat i) =>
    match E.ti ty with
    | some ⟨.array len elem, _, _, _, _, _, _⟩ =>
      match a with
      | .pointer (some ⟨b, o, none⟩) =>
        match Nat.blt i len with
        | true => match E.ti elem with
          | some x => .val (.pointer (some ⟨b, Nat.add o (Nat.mul i x.size), none⟩))
          | none => .fail
        | false => .fail
      | _ => .fail
    | some ⟨.slice elem, _, _, _, _, _, _⟩ =>
      match a with
      | .slice (some ⟨b, o, none⟩) len _ =>
        match Nat.blt i len with
        | true => match E.ti elem with
          | some x => .val (.pointer (some ⟨b, Nat.add o (Nat.mul i x.size), none⟩))
          | none => .fail
        | false => .fail
      | _ => .fail
    | _ => .fail
  | _ => .fail
theorem qIndexAddr_ok {ty : Nat} {a a' i i' : Value} (ha : VR ρ a a') (hi : VR ρ i i') : QV P (Instr.indexAt ty a' i') ρ id w (qIndexAddr (envOf P) ty a i) := by
  unfold qIndexAddr
  split
  case h_2 => trivial
  rename_i k i
  cases hi
  split
  · rename_i len elem _ _ _ _ _ _ hty
    have hty := ti_ok hty
    split
    case h_2 => trivial
    rename_i b o
    split
    case h_2 => trivial
    rename_i hlt
    have hlt : i < len := by simpa [Nat.blt_eq] using hlt
    split
    case h_2 => trivial
    rename_i x hx
    have hx := ti_ok hx
    cases ha with
    | ptr hp =>
      rename_i p
      refine ⟨.pointer (some ⟨p.B, p.S + (o + i * x.size), none⟩), ?_, VR.ptr hp⟩
      have h0 : (0 : Int) ≤ (i : Int) ∧ (i : Int) < (len : Int) := ⟨by omega, by omega⟩
      unfold Instr.indexAt
      simp only [asIntOf, pure_bind, Sem.run_bind, hty.run_und, Result.andThen_ok, Instr.sureAddr, Sem.run_pure, Int.ofNat_eq_natCast, h0, and_self, if_true, hx.run_size, Int.toNat_natCast, add_mk, Nat.add_assoc]
  · rename_i elem _ _ _ _ _ _ hty
    have hty := ti_ok hty
    split
    case h_2 => trivial
    rename_i b o len e
    split
    case h_2 => trivial
    rename_i hlt
    have hlt : i < len := by simpa [Nat.blt_eq] using hlt
    split
    case h_2 => trivial
    rename_i x hx
    have hx := ti_ok hx
    cases ha with
    | slc hp hc hn =>
      rename_i c p
      refine ⟨.pointer (some ⟨p.B, p.S + (o + i * x.size), none⟩), ?_, VR.ptr hp⟩
      have h0 : (0 : Int) ≤ (i : Int) ∧ (i : Int) < (len : Int) := ⟨by omega, by omega⟩
      unfold Instr.indexAt
      simp only [asIntOf, pure_bind, Sem.run_bind, hty.run_und, Result.andThen_ok, Sem.run_pure, Int.ofNat_eq_natCast, h0, and_self, if_true, hx.run_size, Int.toNat_natCast, add_mk, Nat.add_assoc]
  · trivial

/- ---------- nil checks, interfaces, tuples ---------- -/
noncomputable def qNil (v : Value) : QR :=
  match v with
  | .pointer (some _) => .val v
  | .func (.func _) _ _ => .val v
  | .func (.yield _) _ _ => .val v
  | .iface _ _ => .val v
  | _ => .fail
noncomputable def qExtract (v : Value) (i : Nat) : QR :=
  match v with
  | .tuple vs => match nth vs.toList i with
    | some x => .val x
    | none => .fail
  | _ => .fail
theorem qExtract_ok {v v' : Value} (hv : VR ρ v v') {i : Nat} : QV P (Instr.extract v' i) ρ id w (qExtract v i) := by
  unfold qExtract
  split
  case h_2 => trivial
  rename_i vs
  split
  case h_2 => trivial
  rename_i x hx
  obtain ⟨vs', rfl, hr⟩ := VR.tuple_iff.1 hv
  rw [nth_eq] at hx
  obtain ⟨x', hx', hr'⟩ := hr.get? (i := i) (v := x) (by simpa using hx)
  refine ⟨x', ?_, hr'⟩
  unfold Instr.extract
  simp [hx']
noncomputable def qMakeIface (E : Env) (t : Nat) (v : Value) : QR :=
  match E.ti t with
  | some x => match x.desc with
    | .interface _ => .fail
    | _ => .val (.iface t v)
  | none => .fail
theorem qMakeIface_ok {t : Nat} {v v' : Value} (hv : VR ρ v v') : QV P (Instr.makeInterface t v') ρ id w (qMakeIface (envOf P) t v) := by
  unfold qMakeIface
  split
  case h_2 => trivial
  rename_i x hx
  have hx := ti_ok hx
  split
  · trivial
  · rename_i hn
    refine ⟨_, ?_, .iface t hv⟩
    unfold Instr.makeInterface
    simp only [Sem.run_bind, hx.run_und, Result.andThen_ok]
    rfl

/- ---------- pieces ---------- -/
noncomputable def piece (cs : List Value) (off n : Nat) : List Value := (cs.drop off).take n
noncomputable def qPart (E : Env) (ty : Nat) (cs : List Value) (off : Nat) : QR :=
  match E.ti ty with
  | some x => match x.agg with
    | true => .val (.agg ⟨piece cs off x.size⟩)
    | false => match nth cs off with
      | some v => .val v
      | none => .fail
  | none => .fail
theorem extract_list (l : List Value) (a b : Nat) : (⟨l⟩ : Array Value).extract a b = ⟨(l.drop a).take (b - a)⟩ := by
  apply Array.ext'
  simp
theorem qPart_ok {ty : Nat} {cs cs' : Array Value} (hc : AR ρ cs cs') {off : Nat} : QV P (part ty cs' off) ρ id w (qPart (envOf P) ty cs.toList off) := by
  unfold qPart
  split
  case h_2 => trivial
  rename_i x hx
  have hx := ti_ok hx
  split
  · rename_i ha
    refine ⟨.agg (cs'.extract off (off + x.size)), ?_, VR.agg_iff.2 ⟨_, rfl, ?_⟩⟩
    · unfold part
      simp only [Sem.run_bind, hx.run_isAgg, Result.andThen_ok, ha, if_true, hx.run_size, Sem.run_pure]
    · have := AR.of_LR ((hc.toList.drop off).take x.size)
      have e := extract_list cs'.toList off (off + x.size)
      rw [show off + x.size - off = x.size by omega] at e
      simp only [Array.toArray_toList] at e
      rw [show cs'.extract off (off + x.size) = _ from e]
      exact this
  · rename_i ha
    split
    case h_2 => trivial
    rename_i v hv
    rw [nth_eq] at hv
    obtain ⟨v', e, r⟩ := hc.get? (i := off) (v := v) (by simpa using hv)
    refine ⟨v', ?_, r⟩
    unfold part
    simp only [Sem.run_bind, hx.run_isAgg, Result.andThen_ok, ha, Bool.false_eq_true, if_false, e, Sem.run_pure]
noncomputable def qField (E : Env) (ty : Nat) (v : Value) (f : Nat) : QR :=
  match v with
  | .agg cs =>
    match E.ti ty with
    | some ⟨.struct fs, _, _, _, _, _, _⟩ => match nth fs.toList f with
      | some fd => qPart E fd.type cs.toList fd.offset
      | none => .fail
    | _ => .fail
  | _ => .fail
theorem qField_ok {ty f : Nat} {v v' : Value} (hv : VR ρ v v') : QV P (Instr.field ty v' f) ρ id w (qField (envOf P) ty v f) := by
  unfold qField
  split
  case h_2 => trivial
  rename_i cs
  split
  case h_2 => trivial
  rename_i fs _ _ _ _ _ _ hty
  have hty := ti_ok hty
  split
  case h_2 => trivial
  rename_i fd hfd
  obtain ⟨cs', rfl, hr⟩ := VR.agg_iff.1 hv
  rw [nth_eq] at hfd
  have hfd' : fs[f]? = some fd := by simpa using hfd
  have hp := qPart_ok (P := P) (id := id) (w := w) (ty := fd.type) hr (off := fd.offset)
  have e : (Instr.field ty (.agg cs') f).run P w = (part fd.type cs' fd.offset).run P w := by
    unfold Instr.field
    simp only [Sem.run_bind, hty.run_und, Result.andThen_ok, hfd', asAgg, pure_bind]
  unfold QV at hp ⊢
  simp only [e]
  exact hp
noncomputable def qIndex (E : Env) (ty : Nat) (v i : Value) : QR :=
  match i with
  | .int _ (.ofNat i) =>
    match v with
    | .agg cs =>
      match E.ti ty with
      | some ⟨.array len elem, _, _, _, _, _, _⟩ => match Nat.blt i len with
        | true => match E.ti elem with
          | some x => qPart E elem cs.toList (Nat.mul i x.size)
          | none => .fail
        | false => .fail
      | _ => .fail
    | .string s =>
      match E.ti ty with
      | some ⟨.string, _, _, _, _, _, _⟩ => match nth (bL s) i with
        | some b => .val (.int .u8 (.ofNat b.toNat))
        | none => .fail
      | _ => .fail
    | _ => .fail
  | _ => .fail
theorem qIndex_ok {ty : Nat} {v v' i i' : Value} (hv : VR ρ v v') (hi : VR ρ i i') : QV P (Instr.index ty v' i') ρ id w (qIndex (envOf P) ty v i) := by
  unfold qIndex
  split
  case h_2 => trivial
  rename_i k i
  cases hi
  split
  · rename_i cs
    obtain ⟨cs', rfl, hr⟩ := VR.agg_iff.1 hv
    split
    case h_2 => trivial
    rename_i len elem _ _ _ _ _ _ hty
    have hty := ti_ok hty
    split
    case h_2 => trivial
    rename_i hlt
    have hlt : i < len := by simpa [Nat.blt_eq] using hlt
    split
    case h_2 => trivial
    rename_i x hx
    have hx := ti_ok hx
    have h0 : (0 : Int) ≤ (i : Int) ∧ (i : Int) < (len : Int) := ⟨by omega, by omega⟩
    have hp := qPart_ok (P := P) (id := id) (w := w) (ty := elem) hr (off := i * x.size)
    have e : (Instr.index ty (.agg cs') (.int k (.ofNat i))).run P w = (part elem cs' (i * x.size)).run P w := by
      unfold Instr.index
      simp only [asIntOf, pure_bind, Sem.run_bind, hty.run_und, Result.andThen_ok, Int.ofNat_eq_natCast, h0, and_self, if_true, hx.run_size, Int.toNat_natCast]
    unfold QV at hp ⊢
    simp only [e]
    exact hp
  · rename_i s
    cases hv
    split
    case h_2 => trivial
    rename_i hty
    have hty := ti_ok hty
    split
    case h_2 => trivial
    rename_i b hb
    rw [nth_eq] at hb
    refine ⟨_, ?_, .int _ _⟩
    have hlt : i < s.size := by
      have := (List.getElem?_eq_some_iff.1 hb).1
      rw [size_bL]; exact this
    have hb' : s[i]? = some b := by
      rw [ByteArray.getElem?_lt' s i hlt]
      have := (List.getElem?_eq_some_iff.1 hb).2
      rw [← this]; rfl
    unfold Instr.index
    simp only [asIntOf, pure_bind, Sem.run_bind, hty.run_und, Result.andThen_ok, Int.ofNat_eq_natCast, Int.toNat_natCast, hb', Int.natCast_nonneg, if_true, Sem.run_pure]
  · trivial
end
end Go.Proofs.YtmiojdppkooikaaGreatDoor.Abs
namespace Go.Proofs.YtmiojdppkooikaaGreatDoor.Abs
open Go

inductive OV (ρ : Ren) : Option Value → Option Value → Prop
  | none : OV ρ none none
  | some {v v' : Value} (h : VR ρ v v') : OV ρ (some v) (some v')

def bnd (d : Nat) : Option Value → Option Nat
  | none => some d
  | some (.int _ (.ofNat i)) => some i
  | _ => none
def isSome' {α : Type} : Option α → Bool
  | some _ => true
  | none => false
/-- the three bounds: (l, h, m). -/
noncomputable def bnds (len cap : Nat) (lo hi mx : Option Value) : Option (Nat × Nat × Nat) :=
  match bnd cap mx with
  | none => none
  | some M => match Nat.ble M cap with
    | false => none
    | true => match bnd len hi with
      | none => none
      | some H => match (match mx with | none => (match hi with | none => true | some _ => Nat.ble H cap) | some _ => (match hi with | none => false | some _ => Nat.ble H M)) with
        | false => none
        | true => match bnd 0 lo with
          | none => none
          | some L => match Nat.ble L H with
            | false => none
            | true => some (L, H, M)

section
variable {P : Program} {N : Nat} {U : Nat → Prop} {ws : World} {ρ : Ren} {h : T AObj} {nx : Nat} {w : World} {id : Nat}
theorem bound_ok {v v' : Value} (hv : VR ρ v v') {d i y : Nat} (hb : bnd d (some v) = some i) (hy : i ≤ y) (code : BoundsCode) : (Instr.sliceBound v' y code).run P w = .ok i w := by
  unfold bnd at hb
  split at hb
  · rename_i h; cases h
  · rename_i h
    cases hb
    cases h
    cases hv
    unfold Instr.sliceBound
    have h0 : (0 : Int) ≤ (i : Int) ∧ (i : Int) ≤ (y : Int) := ⟨by omega, by omega⟩
    simp only [asIntOf, pure_bind, Int.ofNat_eq_natCast, h0, and_self, if_true, Int.toNat_natCast, Sem.run_pure]
  · cases hb
theorem bounds_ok {isSlice : Bool} {len cap : Nat} {lo hi mx lo' hi' mx' : Option Value} (hl : OV ρ lo lo') (hh : OV ρ hi hi') (hm : OV ρ mx mx') {L H M : Nat}
    (hb : bnds len cap lo hi mx = some (L, H, M)) : (Instr.sliceBounds isSlice len cap lo' hi' mx').run P w = .ok (L, H, M) w ∧ L ≤ H ∧ (mx = none → M = cap) ∧ M ≤ cap ∧
      (H ≤ M ∨ (hi = none ∧ mx = none ∧ H = len)) := by
  unfold bnds at hb
  split at hb
  · cases hb
  rename_i M' hM
  split at hb
  · cases hb
  rename_i hMc
  have hMc := Nat.le_of_ble_eq_true hMc
  split at hb
  · cases hb
  rename_i H' hH
  split at hb
  · cases hb
  rename_i hcond
  split at hb
  · cases hb
  rename_i L' hL
  split at hb
  · cases hb
  rename_i hLH
  have hLH := Nat.le_of_ble_eq_true hLH
  cases hb
  have rl : ∀ code, ((match lo' with | some v => Instr.sliceBound v H code | none => pure 0) : Sem Nat).run P w = .ok L w := fun code => by
    cases hl with
    | none => simp only [bnd, Option.some.injEq] at hL; subst hL; rfl
    | some h => exact bound_ok h hL hLH code
  cases hm with
  | none =>
    have hMM : M = cap := by simpa [bnd] using hM.symm
    cases hh with
    | none =>
      have hHl : H = len := by simpa [bnd] using hH.symm
      refine ⟨?_, hLH, fun _ => hMM, hMc, .inr ⟨rfl, rfl, hHl⟩⟩
      subst hMM; subst hHl
      unfold Instr.sliceBounds
      simp only [pure_bind]
      have := rl (if (none : Option Value).isSome = true then BoundsCode.slice3C else BoundsCode.sliceB)
      cases lo' with
      | none => simp only [Sem.run_pure, Result.ok.injEq] at this; rw [this.1]; simp only [Sem.run_bind, Sem.run_pure, Result.andThen_ok]
      | some v => simp only [] at this; simp only [Sem.run_bind, this, Result.andThen_ok, Sem.run_pure]
    | some h1 =>
      have hle : H ≤ cap := Nat.le_of_ble_eq_true hcond
      refine ⟨?_, hLH, fun _ => hMM, hMc, .inl (by omega)⟩
      subst hMM
      unfold Instr.sliceBounds
      simp only [pure_bind, Sem.run_bind, Sem.run_pure, Result.andThen_ok, bound_ok h1 hH hle]
      have := rl (if (none : Option Value).isSome = true then BoundsCode.slice3C else BoundsCode.sliceB)
      cases lo' with
      | none => simp only [Sem.run_pure, Result.ok.injEq] at this; rw [this.1]; simp only [Sem.run_bind, Sem.run_pure, Result.andThen_ok]
      | some v => simp only [] at this; simp only [Sem.run_bind, this, Result.andThen_ok, Sem.run_pure]
  | some h2 =>
    cases hh with
    | none => cases hcond
    | some h1 =>
      have hle : H ≤ M := Nat.le_of_ble_eq_true hcond
      refine ⟨?_, hLH, fun e => (by cases e), hMc, .inl hle⟩
      unfold Instr.sliceBounds
      simp only [Sem.run_bind, bound_ok h2 hM hMc, Result.andThen_ok, bound_ok h1 hH hle, Sem.run_pure]
      have := rl BoundsCode.slice3C
      simp only [Option.isSome_some, if_true]
      cases lo' with
      | none => simp only [Sem.run_pure, Result.ok.injEq] at this; rw [this.1]; simp only [Sem.run_bind, Sem.run_pure, Result.andThen_ok]
      | some v => simp only [] at this; simp only [Sem.run_bind, this, Result.andThen_ok, Sem.run_pure]

/- ---------- s[l:h], s[l:h:m] ---------- -/
/-- of a slice whose capacity is known. -/
noncomputable def qSliceEx (b : Option Nat) (o len k sz : Nat) (lo hi mx : Option Value) : QR :=
  match bnds len k lo hi mx with
  | some (L, H, M) =>
    match Nat.ble H M with
    | true => match b with
      | some b => match Nat.beq M L with
        | true => .val (.slice (some ⟨b, o, none⟩) 0 1)
        | false => .val (.slice (some ⟨b, Nat.add o (Nat.mul L sz), none⟩) (Nat.sub H L) (Nat.add (Nat.mul 2 (Nat.sub M L)) 1))
      | none => .fail
    | false => .fail
  | none => .fail
/-- of a slice whose capacity is not: at least 'len'; kn: at least so much, by what the block is known to hold. -/
noncomputable def qSliceIn (id b o len off kn sz : Nat) (lo hi mx : Option Value) : QR :=
  match bnds len kn lo hi mx with
  | some (L, H, M) =>
    match mx with
    | some _ => match Nat.beq M L with
      | true => .val (.slice (some ⟨b, o, none⟩) 0 1)
      | false => .val (.slice (some ⟨b, Nat.add o (Nat.mul L sz), none⟩) (Nat.sub H L) (Nat.add (Nat.mul 2 (Nat.sub M L)) 1))
    | none => match Nat.ble H kn with
      | false => .fail
      | true => match Nat.beq L 0 with
        | true => .val (.slice (some ⟨b, o, none⟩) H (Nat.mul 2 off))
        | false => match Nat.blt L kn with
          | true => .val (.slice (some ⟨b, Nat.add o (Nat.mul L sz), none⟩) (Nat.sub H L) (Nat.mul 2 (Nat.add off L)))
          | false => .dead (.slice (some ⟨id, 0, none⟩) (Nat.sub H L) 0)
  | none => .fail
/-- what a block is known to hold, in elements behind the first 'off'. -/
noncomputable def known (h : T AObj) (b off sz len : Nat) : Nat :=
  match h.get b with
  | some (.cells _ n es) => match Nat.beq (esz es) sz with
    | true => match Nat.beq (esz es) 0 with
      | true => len
      | false => match Nat.ble len (Nat.sub (Nat.div n sz) off) with
        | true => Nat.sub (Nat.div n sz) off
        | false => len
    | false => len
  | _ => len
noncomputable def qSlice (E : Env) (h : T AObj) (id ty : Nat) (x : Value) (lo hi mx : Option Value) : QR :=
  match E.ti ty with
  | some ⟨.slice elem, _, _, _, _, _, _⟩ =>
    match x with
    | .slice none 0 0 => match E.ti elem with
      | some _ => match bnds 0 0 lo hi mx with
        | some (0, 0, 0) => .val (.slice none 0 0)
        | _ => .fail
      | none => .fail
    | .slice (some ⟨b, o, none⟩) len e =>
      match E.ti elem with
      | some t => match Nat.beq (Nat.mod e 2) 1 with
        | true => qSliceEx (some b) o len (Nat.div e 2) t.size lo hi mx
        | false => qSliceIn id b o len (Nat.div e 2) (known h b (Nat.div e 2) t.size len) t.size lo hi mx
      | none => .fail
    | _ => .fail
  | some ⟨.string, _, _, _, _, _, _⟩ =>
    match x with
    | .string s => match mx with
      | some _ => .fail
      | none => match bnds (lenF (bL s)) (lenF (bL s)) lo hi none with
        | some (L, H, _) => .val (.string (mkB (((bL s).drop L).take (Nat.sub H L))))
        | none => .fail
    | _ => .fail
  | some ⟨.array n elem, _, _, _, _, _, _⟩ =>
    match x with
    | .pointer (some ⟨b, o, none⟩) =>
      match E.ti elem with
      | some t => qSliceEx (some b) o n n t.size lo hi mx
      | none => .fail
    | _ => .fail
  | _ => .fail

theorem known_le (s : SI N U ws ρ h nx w) {b off sz len c : Nat} {p : Pl} (hp : ρ b = some p) (hc : c + off = p.C) (hl : len ≤ c) : len ≤ known h b off sz len ∧ known h b off sz len ≤ c := by
  unfold known
  split
  · rename_i t n es hg
    split
    · rename_i he
      split
      · exact ⟨Nat.le_refl _, hl⟩
      · rename_i h0
        have h0 : esz es ≠ 0 := Nat.ne_of_beq_eq_false h0
        split
        · rename_i hle
          have hle := Nat.le_of_ble_eq_true hle
          obtain ⟨c', hc', C, elem, fz, rfl, h1, h2, h3, h4, h5⟩ := s.rel b _ p hg hp
          refine ⟨hle, ?_⟩
          rcases h5.1 with h5 | h5
          · exact absurd h5 h0
          · have he := Nat.eq_of_beq_eq_true he
            rw [he] at h5 h0
            have : n / sz ≤ p.C := by
              calc n / sz ≤ p.C * sz / sz := Nat.div_le_div_right h5
                _ = p.C := Nat.mul_div_cancel _ (Nat.pos_of_ne_zero h0)
            show n / sz - off ≤ c
            omega
        · exact ⟨Nat.le_refl _, hl⟩
    · exact ⟨Nat.le_refl _, hl⟩
  · exact ⟨Nat.le_refl _, hl⟩

theorem qSliceEx_ok {b o len k sz : Nat} {lo hi mx lo' hi' mx' : Option Value} (hl : OV ρ lo lo') (hh : OV ρ hi hi') (hm : OV ρ mx mx') {p : Pl} (hp : ρ b = some p)
    {isSlice : Bool} {s : Sem Value}
    (hs : ∀ L H M, (Instr.sliceBounds isSlice len k lo' hi' mx').run P w = .ok (L, H, M) w →
      s.run P w = .ok (.slice (some (if M = L then ⟨p.B, p.S + o, none⟩ else ⟨p.B, p.S + (o + L * sz), none⟩)) (H - L) (M - L)) w) :
    QV P s ρ id w (qSliceEx (some b) o len k sz lo hi mx) := by
  unfold qSliceEx
  split
  case h_2 => trivial
  rename_i L H M hb
  obtain ⟨hr, hLH, _, _, _⟩ := bounds_ok (P := P) (w := w) (isSlice := isSlice) hl hh hm hb
  have hs := hs L H M hr
  split
  case h_2 => trivial
  rename_i hHM
  have hHM := Nat.le_of_ble_eq_true hHM
  simp only []
  split
  · rename_i hML
    have hML : M = L := Nat.eq_of_beq_eq_true hML
    rw [if_pos hML] at hs
    have e1 : H - L = 0 := by omega
    have e2 : M - L = 0 := by omega
    rw [e1, e2] at hs
    exact ⟨_, hs, VR.slc hp (by simp [capR]) (Nat.le_refl _)⟩
  · rename_i hML
    have hML : M ≠ L := Nat.ne_of_beq_eq_false hML
    rw [if_neg hML] at hs
    refine ⟨_, hs, VR.slc hp ?_ (show H - L ≤ M - L by omega)⟩
    show capR p.C (2 * (M - L) + 1) (M - L)
    unfold capR
    rw [if_pos (by omega)]; omega

theorem qSliceIn_ok {b o len off kn c sz : Nat} {lo hi mx lo' hi' mx' : Option Value} (hl : OV ρ lo lo') (hh : OV ρ hi hi') (hm : OV ρ mx mx') {p : Pl} (hp : ρ b = some p)
    (hc : c + off = p.C) (hk1 : len ≤ kn) (hk2 : kn ≤ c) {s : Sem Value}
    (hs : ∀ L H M, (Instr.sliceBounds true len c lo' hi' mx').run P w = .ok (L, H, M) w →
      s.run P w = .ok (.slice (some (if M = L then ⟨p.B, p.S + o, none⟩ else ⟨p.B, p.S + (o + L * sz), none⟩)) (H - L) (M - L)) w) :
    QV P s ρ id w (qSliceIn id b o len off kn sz lo hi mx) := by
  unfold qSliceIn
  split
  case h_2 => trivial
  rename_i L H M hb
  -- the same bounds hold at the capacity itself
  cases mx with
  | some m =>
    have hb' : bnds len c lo hi (some m) = some (L, H, M) := by
      unfold bnds at hb ⊢
      have e : bnd c (some m) = bnd kn (some m) := by unfold bnd; split <;> simp_all
      rw [e]
      revert hb
      cases bnd kn (some m) with
      | none => intro hb; exact hb
      | some M' =>
        simp only []
        intro hb
        cases hle : Nat.ble M' kn with
        | false => rw [hle] at hb; cases hb
        | true =>
          rw [hle] at hb
          have : Nat.ble M' c = true := Nat.ble_eq_true_of_le (Nat.le_trans (Nat.le_of_ble_eq_true hle) hk2)
          rw [this]; exact hb
    obtain ⟨hr, hLH, _, _, hHM⟩ := bounds_ok (P := P) (w := w) (isSlice := true) hl hh hm hb'
    have hHM : H ≤ M := by rcases hHM with h1 | ⟨_, h2, _⟩; exact h1; cases h2
    have hs := hs L H M hr
    simp only []
    split
    · rename_i hML
      have hML : M = L := Nat.eq_of_beq_eq_true hML
      rw [if_pos hML] at hs
      have e1 : H - L = 0 := by omega
      have e2 : M - L = 0 := by omega
      rw [e1, e2] at hs
      exact ⟨_, hs, VR.slc hp (by simp [capR]) (Nat.le_refl _)⟩
    · rename_i hML
      have hML : M ≠ L := Nat.ne_of_beq_eq_false hML
      rw [if_neg hML] at hs
      refine ⟨_, hs, VR.slc hp ?_ (show H - L ≤ M - L by omega)⟩
      show capR p.C (2 * (M - L) + 1) (M - L)
      unfold capR
      rw [if_pos (by omega)]; omega
  | none =>
    have hb' : bnds len c lo hi none = some (L, H, c) ∧ (H ≤ kn) := by
      unfold bnds at hb ⊢
      have b1 : ∀ d, bnd d (none : Option Value) = some d := fun _ => rfl
      rw [b1] at hb ⊢
      simp only [] at hb ⊢
      have e0 : ∀ x : Nat, Nat.ble x x = true := fun x => Nat.ble_eq_true_of_le (Nat.le_refl x)
      simp only [e0] at hb ⊢
      cases hH : bnd len hi with
      | none => rw [hH] at hb; cases hb
      | some H' =>
        rw [hH] at hb
        simp only [] at hb ⊢
        cases hi with
        | none =>
          have hHl : H' = len := by simpa [bnd] using hH.symm
          simp only [] at hb ⊢
          cases hL : bnd 0 lo with
          | none => rw [hL] at hb; cases hb
          | some L' =>
            rw [hL] at hb
            simp only [] at hb ⊢
            cases hLH : Nat.ble L' H' with
            | false => rw [hLH] at hb; cases hb
            | true =>
              rw [hLH] at hb
              simp only [Option.some.injEq, Prod.mk.injEq] at hb
              obtain ⟨rfl, rfl, rfl⟩ := hb
              exact ⟨rfl, by omega⟩
        | some hv =>
          simp only [] at hb ⊢
          cases hle : Nat.ble H' kn with
          | false => rw [hle] at hb; cases hb
          | true =>
            rw [hle] at hb
            have : Nat.ble H' c = true := Nat.ble_eq_true_of_le (Nat.le_trans (Nat.le_of_ble_eq_true hle) hk2)
            rw [this]
            simp only [] at hb ⊢
            cases hL : bnd 0 lo with
            | none => rw [hL] at hb; cases hb
            | some L' =>
              rw [hL] at hb
              simp only [] at hb ⊢
              cases hLH : Nat.ble L' H' with
              | false => rw [hLH] at hb; cases hb
              | true =>
                rw [hLH] at hb
                simp only [Option.some.injEq, Prod.mk.injEq] at hb
                obtain ⟨rfl, rfl, rfl⟩ := hb
                exact ⟨rfl, Nat.le_of_ble_eq_true hle⟩
    obtain ⟨hb', hHk⟩ := hb'
    obtain ⟨hr, hLH, _, _, _⟩ := bounds_ok (P := P) (w := w) (isSlice := true) hl hh hm hb'
    have hs := hs L H c hr
    simp only []
    split
    · trivial
    · split
      · rename_i h0
        have h0 : L = 0 := Nat.eq_of_beq_eq_true h0
        subst h0
        have e : (if c = 0 then (⟨p.B, p.S + o, none⟩ : Addr) else ⟨p.B, p.S + (o + 0 * sz), none⟩) = ⟨p.B, p.S + o, none⟩ := by split <;> simp
        rw [e] at hs
        refine ⟨_, hs, VR.slc hp ?_ (by omega)⟩
        show capR p.C (2 * off) (c - 0)
        unfold capR
        rw [if_neg (by omega)]; omega
      · split
        · rename_i hlt
          have hlt : L < kn := by simpa [Nat.blt_eq] using hlt
          rw [if_neg (by omega)] at hs
          refine ⟨_, hs, VR.slc hp ?_ (show H - L ≤ c - L by omega)⟩
          show capR p.C (2 * (off + L)) (c - L)
          unfold capR
          rw [if_neg (by omega)]; omega
        · rename_i hlt
          have hlt : ¬ L < kn := fun hh => by
            have : Nat.blt L kn = true := by simpa [Nat.blt_eq] using hh
            rw [this] at hlt; cases hlt
          have e1 : H - L = 0 := by omega
          refine ⟨_, ⟨p.B, p.S + (if c = L then o else o + L * sz), c - L⟩, b, p, hs, hp, rfl, fun ρ' he hi => ?_⟩
          have ea : (if c = L then (⟨p.B, p.S + o, none⟩ : Addr) else ⟨p.B, p.S + (o + L * sz), none⟩) = ⟨p.B, p.S + (if c = L then o else o + L * sz), none⟩ := by split <;> rfl
          rw [ea]
          have := VR.slc (ρ := ρ') (o := 0) (n := H - L) (e := 0) (c := c - L) hi (by unfold capR; simp) (by omega)
          exact this

theorem qSlice_ok (s : SI N U ws ρ h nx w) {ty : Nat} {x x' : Value} (hx : VR ρ x x') {lo hi mx lo' hi' mx' : Option Value} (hl : OV ρ lo lo') (hh : OV ρ hi hi') (hm : OV ρ mx mx') :
    QV P (Instr.sliceAt ty x' lo' hi' mx') ρ id w (qSlice (envOf P) h id ty x lo hi mx) := by
  unfold qSlice
  split
  · rename_i elem _ _ _ _ _ _ hty
    have hty := ti_ok hty
    have e0 : ∀ x', (Instr.sliceAt ty x' lo' hi' mx').run P w = (Instr.slice ty x' lo' hi' mx').run P w := fun x' => by
      unfold Instr.sliceAt
      simp only [Sem.run_bind, hty.run_und, Result.andThen_ok]
    split
    · split
      case h_2 => trivial
      rename_i t ht
      have ht := ti_ok ht
      split
      · rename_i hb
        cases hx
        obtain ⟨hr, _⟩ := bounds_ok (P := P) (w := w) (isSlice := true) hl hh hm hb
        refine ⟨.slice none 0 0, ?_, .snil⟩
        rw [e0]
        unfold Instr.slice
        simp only [Sem.run_bind, hty.run_und, Result.andThen_ok, hr, ht.run_size, Sem.run_pure]
        rfl
      · trivial
    · rename_i b o len e
      split
      case h_2 => trivial
      rename_i t ht
      have ht := ti_ok ht
      cases hx with
      | slc hp hc hn =>
        rename_i c p
        have hrun : ∀ L H M, (Instr.sliceBounds true len c lo' hi' mx').run P w = .ok (L, H, M) w →
            (Instr.sliceAt ty (.slice (some ⟨p.B, p.S + o, none⟩) len c) lo' hi' mx').run P w =
              .ok (.slice (some (if M = L then ⟨p.B, p.S + o, none⟩ else ⟨p.B, p.S + (o + L * t.size), none⟩)) (H - L) (M - L)) w := fun L H M hr => by
          rw [e0]
          unfold Instr.slice
          simp only [Sem.run_bind, hty.run_und, Result.andThen_ok, hr, ht.run_size, Sem.run_pure, Option.map_some, add_mk, Nat.add_assoc]
          split <;> rfl
        split
        · rename_i he
          have he : e % 2 = 1 := Nat.eq_of_beq_eq_true he
          have hck : c = e / 2 := by unfold capR at hc; rw [if_pos he] at hc; exact hc
          subst hck
          exact qSliceEx_ok hl hh hm hp hrun
        · rename_i he
          have he : ¬ e % 2 = 1 := Nat.ne_of_beq_eq_false he
          have hck : c + e / 2 = p.C := by unfold capR at hc; rw [if_neg he] at hc; exact hc
          obtain ⟨k1, k2⟩ := known_le (sz := t.size) s hp hck hn
          exact qSliceIn_ok hl hh hm hp hck k1 k2 hrun
    · trivial
  · rename_i hty
    have hty := ti_ok hty
    split
    case h_2 => trivial
    rename_i st
    cases hx
    split
    · trivial
    · cases hm
      split
      case h_2 => trivial
      rename_i L H M hb
      rw [lenF_eq, ← size_bL] at hb
      obtain ⟨hr, _⟩ := bounds_ok (P := P) (w := w) (isSlice := false) hl hh .none hb
      refine ⟨_, ?_, .string _⟩
      unfold Instr.sliceAt
      simp only [Sem.run_bind, hty.run_und, Result.andThen_ok]
      unfold Instr.slice
      simp only [Sem.run_bind, hty.run_und, Result.andThen_ok, Option.isSome_none, Bool.false_eq_true, if_false, hr, Sem.run_pure, extract_bL, pure_bind]
      rfl
  · rename_i n elem _ _ _ _ _ _ hty
    have hty := ti_ok hty
    split
    case h_2 => trivial
    rename_i b o
    split
    case h_2 => trivial
    rename_i t ht
    have ht := ti_ok ht
    cases hx with
    | ptr hp =>
      rename_i p
      refine qSliceEx_ok (isSlice := false) hl hh hm hp fun L H M hr => ?_
      unfold Instr.sliceAt
      simp only [Sem.run_bind, hty.run_und, Result.andThen_ok, Instr.sureAddr, Sem.run_pure, hr, ht.run_size, add_mk, Nat.add_assoc]
  · trivial
end
end Go.Proofs.YtmiojdppkooikaaGreatDoor.Abs
namespace Go.Proofs.YtmiojdppkooikaaGreatDoor.Abs
open Go

/- ---------- put together ---------- -/
inductive PR (ρ : Ren) : List (Nat × Value) → List (Nat × Value) → Prop
  | nil : PR ρ [] []
  | cons (i : Nat) {v v' : Value} {l l' : List (Nat × Value)} (h : VR ρ v v') (t : PR ρ l l') : PR ρ ((i, v) :: l) ((i, v') :: l')

noncomputable def splice (cs : List Value) (off : Nat) (vs : List Value) (n : Nat) : List Value := cs.take off ++ (vs ++ cs.drop (Nat.add off n))
/-- parts laid into cells; place i: (offset, size). -/
noncomputable def fillL (place : Nat → Option (Nat × Nat)) (ps : List (Nat × Value)) : List Value → Option (List Value) :=
  List.rec (motive := fun _ => List Value → Option (List Value)) (fun cs => some cs)
    (fun x _ ih cs => match place x.1 with
      | none => none
      | some (off, size) => match Nat.beq (lenF x.2.cells.toList) size with
        | false => none
        | true => match Nat.ble (Nat.add off size) (lenF cs) with
          | false => none
          | true => ih (splice cs off x.2.cells.toList size)) ps
theorem zipIdx_over : ∀ (l : List Value) (s off : Nat) (cs : Array Value),
    (l.zipIdx s).foldl (fun cs (x : Value × Nat) => cs.setIfInBounds (off + x.2) x.1) cs = over cs (off + s) l
  | [], _, _, _ => rfl
  | x :: l, s, off, cs => by
    rw [List.zipIdx_cons, List.foldl_cons, zipIdx_over l (s + 1) off]
    rfl
theorem over_toList (l : List Value) (C : Array Value) (o : Nat) (h : o + l.length ≤ C.size) : (over C o l).toList = C.toList.take o ++ (l ++ C.toList.drop (o + l.length)) := by
  apply List.ext_getElem?
  intro i
  rw [Array.getElem?_toList, over_get _ _ _ _ h]
  by_cases h1 : i < o
  · rw [if_neg (by omega), List.getElem?_append_left (by simp; omega), List.getElem?_take, if_pos h1, Array.getElem?_toList]
  · rw [List.getElem?_append_right (by simp; omega)]
    have hl : (C.toList.take o).length = o := by simp; omega
    rw [hl]
    by_cases h2 : i < o + l.length
    · rw [if_pos ⟨by omega, h2⟩, List.getElem?_append_left (by omega)]
    · rw [if_neg (by omega), List.getElem?_append_right (by omega), List.getElem?_drop, Array.getElem?_toList]
      congr 1; omega
theorem fillL_cons (place : Nat → Option (Nat × Nat)) (x : Nat × Value) (ps : List (Nat × Value)) (cs : List Value) :
    fillL place (x :: ps) cs = match place x.1 with
      | none => none
      | some (off, size) => match Nat.beq (lenF x.2.cells.toList) size with
        | false => none
        | true => match Nat.ble (Nat.add off size) (lenF cs) with
          | false => none
          | true => fillL place ps (splice cs off x.2.cells.toList size) := rfl
theorem fill_ok {ρ : Ren} {place place' : Nat → Option (Nat × Nat)} (hpl : ∀ i x, place i = some x → place' i = some x) :
    ∀ {ps ps' : List (Nat × Value)}, PR ρ ps ps' → ∀ {cs : List Value} {cs' : Array Value} {r : List Value}, LR ρ cs cs'.toList → fillL place ps cs = some r →
      ∃ r', Instr.fill place' cs' ps' = some r' ∧ LR ρ r r'.toList := by
  intro ps ps' h
  induction h with
  | nil =>
    intro cs cs' r hr hf
    have : some cs = some r := hf
    cases this
    exact ⟨cs', rfl, hr⟩
  | cons i hv ht ih =>
    rename_i v v' l l'
    intro cs cs' r hr hf
    rw [fillL_cons] at hf
    cases hp : place i with
    | none => simp only [hp] at hf; cases hf
    | some x =>
      obtain ⟨off, size⟩ := x
      simp only [hp] at hf
      cases hsz : Nat.beq (lenF v.cells.toList) size with
      | false => rw [hsz] at hf; cases hf
      | true =>
        rw [hsz] at hf
        simp only [] at hf
        cases hle : Nat.ble (Nat.add off size) (lenF cs) with
        | false => rw [hle] at hf; cases hf
        | true =>
          rw [hle] at hf
          simp only [] at hf
          have hsz : v.cells.toList.length = size := by have := Nat.eq_of_beq_eq_true hsz; rwa [lenF_eq] at this
          have hle : off + size ≤ cs.length := by have := Nat.le_of_ble_eq_true hle; rwa [lenF_eq] at this
          have hcl := cells_LR hv
          have hl1 := hcl.length
          have hl2 := hr.length
          have hsz' : v'.cells.size = size := by rw [← hsz, hl1]; simp
          have hcs' : off + size ≤ cs'.size := by rw [hl2] at hle; simpa using hle
          have hstep : Instr.fill place' cs' ((i, v') :: l') = Instr.fill place' (over cs' off v'.cells.toList) l' := by
            show (match place' i with
              | none => none
              | some (off, size) =>
                if v'.cells.size ≠ size || off + v'.cells.size > cs'.size then none
                else Instr.fill place' (v'.cells.zipIdx.foldl (fun cs (c, j) => cs.setIfInBounds (off + j) c) cs') l') = _
            rw [hpl i _ hp]
            have hc : (decide (v'.cells.size ≠ size) || decide (off + v'.cells.size > cs'.size)) = false := by
              simp [hsz']; omega
            simp only [hc, Bool.false_eq_true, if_false]
            congr 1
            rw [← Array.foldl_toList, Array.toList_zipIdx]
            exact zipIdx_over v'.cells.toList 0 off cs'
          rw [hstep]
          refine ih ?_ hf
          rw [over_toList _ _ _ (by simp [hsz']; omega)]
          unfold splice
          have : off + v'.cells.toList.length = off + size := by simp [hsz']
          rw [this]
          exact (hr.take off).append (hcl.append (hr.drop (off + size)))

section
variable {P : Program} {N : Nat} {U : Nat → Prop} {ws : World} {ρ : Ren} {h : T AObj} {nx : Nat} {w : World} {id : Nat}

noncomputable def qBuild (E : Env) (ty : Nat) (ps : List (Nat × Value)) : QR :=
  match E.ti ty with
  | some x =>
    match x.zero with
    | some z => match x.places with
      | some pl => match fillL (nth pl) ps z.cells.toList with
        | some r => .val (.agg ⟨r⟩)
        | none => .fail
      | none => match x.desc with
        | .array _ elem => match E.ti elem with
          | some y => match fillL (fun i => some (Nat.mul i y.size, y.size)) ps z.cells.toList with
            | some r => .val (.agg ⟨r⟩)
            | none => .fail
          | none => .fail
        | _ => .fail
    | none => .fail
  | none => .fail
theorem qBuild_ok {ty : Nat} {ps ps' : List (Nat × Value)} (hp : PR ρ ps ps') : QV P (Instr.build ty ⟨ps'⟩) ρ id w (qBuild (envOf P) ty ps) := by
  unfold qBuild
  split
  case h_2 => trivial
  rename_i x hx
  have hx := ti_ok hx
  split
  case h_2 => trivial
  rename_i z hz
  have hzr := cells_LR (pureV_VR ρ 3 z (hx.pure z hz))
  split
  · rename_i pl hpl
    obtain ⟨fs, hd, hm⟩ := hx.places pl hpl
    split
    case h_2 => trivial
    rename_i r hr
    obtain ⟨r', hf, hrr⟩ := fill_ok (place' := fun i => (pl.toArray)[i]?) (fun i y hy => by rw [nth_eq] at hy; simpa using hy) hp hzr hr
    refine ⟨.agg r', ?_, VR.agg_iff.2 ⟨r', rfl, by simpa using AR.of_LR hrr⟩⟩
    have hu := hx.run_und (w := w)
    rw [hd] at hu
    unfold Instr.build
    simp only [Sem.run_bind, hx.run_zero hz, Result.andThen_ok, hu, Array.mapM_eq_mapM_toList, Sem.run_map]
    have := run_places (P := P) w fs.toList pl hm
    have e : (fs.toList.mapM fun f => (do let a ← sizeOf f.type; pure (f.offset, a) : Sem (Nat × Nat))) = fs.toList.mapM fun f => Prod.mk f.offset <$> sizeOf f.type := by
      congr 1
    rw [e, this]
    simp only [Result.andThen_ok]
    rw [hf]
    rfl
  · split
    case h_2 => trivial
    rename_i n elem hd
    split
    case h_2 => trivial
    rename_i y hy
    have hy := ti_ok hy
    split
    case h_2 => trivial
    rename_i r hr
    obtain ⟨r', hf, hrr⟩ := fill_ok (place' := fun i => some (i * y.size, y.size)) (fun i x hx => hx) hp hzr hr
    refine ⟨.agg r', ?_, VR.agg_iff.2 ⟨r', rfl, by simpa using AR.of_LR hrr⟩⟩
    have hu := hx.run_und (w := w)
    rw [hd] at hu
    unfold Instr.build
    simp only [Sem.run_bind, hx.run_zero hz, Result.andThen_ok, hu, hy.run_size]
    rw [hf]
    rfl

/-- a value so many times. -/
noncomputable def reps (z : List Value) (n : Nat) : List Value := Nat.rec (motive := fun _ => List Value) [] (fun _ ih => z ++ ih) n
theorem reps_succ (z : List Value) (n : Nat) : reps z (n + 1) = z ++ reps z n := rfl
theorem reps_length (z : List Value) : ∀ n, (reps z n).length = n * z.length
  | 0 => by show ([] : List Value).length = _; simp
  | n + 1 => by rw [reps_succ, List.length_append, reps_length z n, Nat.succ_mul]; omega
theorem reps_get (z : List Value) : ∀ (n i : Nat), i < n * z.length → (reps z n)[i]? = z[i % z.length]?
  | 0, i, h => by simp at h
  | n + 1, i, h => by
    rw [reps_succ]
    by_cases hi : i < z.length
    · rw [List.getElem?_append_left hi, Nat.mod_eq_of_lt hi]
    · rw [List.getElem?_append_right (by omega), reps_get z n (i - z.length) (by rw [Nat.succ_mul] at h; omega)]
      congr 1
      rw [Nat.mod_eq_sub_mod (by omega : i ≥ z.length)]
theorem reps_array (z : Array Value) (n : Nat) : (Array.range (n * z.size)).map (fun i => z[i % z.size]!) = ⟨reps z.toList n⟩ := by
  apply Array.ext'
  apply List.ext_getElem?
  intro i
  rw [Array.getElem?_toList]
  by_cases hi : i < n * z.size
  · have e : (reps z.toList n)[i]? = z.toList[i % z.toList.length]? := reps_get _ _ _ (by simpa using hi)
    show _ = (reps z.toList n)[i]?
    rw [e]
    have hz : 0 < z.size := by
      rcases Nat.eq_zero_or_pos z.size with h0 | h0
      · rw [h0] at hi; simp at hi
      · exact h0
    have hm : i % z.size < z.size := Nat.mod_lt _ hz
    simp [hi, hm]
  · have h1 : (reps z.toList n)[i]? = none := by
      rw [List.getElem?_eq_none_iff, reps_length]; simp; omega
    show _ = (reps z.toList n)[i]?
    rw [h1]
    simp; omega
theorem LR.reps {ρ : Ren} {z z' : List Value} (hz : LR ρ z z') : ∀ n, LR ρ (Abs.reps z n) (Abs.reps z' n)
  | 0 => .nil
  | n + 1 => by rw [reps_succ, reps_succ]; exact hz.append (LR.reps hz n)

noncomputable def qBuildSlice (E : Env) (id ty len : Nat) (ps : List (Nat × Value)) : QR :=
  match E.ti ty with
  | some x =>
    match x.desc with
    | .slice elem => match E.ti elem with
      | some y => match y.zero with
        | some z => match Nat.beq (lenF z.cells.toList) y.size with
          | false => .fail
          | true => match Nat.ble (Nat.mul len y.size) 16777216 with
            | false => .fail
            | true => match fillL (fun i => some (Nat.mul i y.size, y.size)) ps (reps z.cells.toList len) with
              | some r => match Nat.beq (lenF r) (Nat.mul len y.size) with
                | true => .new (.cells (T.ofList r) (Nat.mul len y.size) (rowC elem y.size)) (.slice (some ⟨id, 0, none⟩) len (Nat.add (Nat.mul 2 len) 1))
                | false => .fail
              | none => .fail
        | none => .fail
      | none => .fail
    | _ => .fail
  | none => .fail
theorem qBuildSlice_ok {ty len : Nat} {ps ps' : List (Nat × Value)} (hp : PR ρ ps ps') : QV P (Instr.buildSlice ty len ⟨ps'⟩) ρ id w (qBuildSlice (envOf P) id ty len ps) := by
  unfold qBuildSlice
  split
  case h_2 => trivial
  rename_i x hx
  have hx := ti_ok hx
  split
  case h_2 => trivial
  rename_i elem hd
  split
  case h_2 => trivial
  rename_i y hy
  have hy := ti_ok hy
  split
  case h_2 => trivial
  rename_i z hz
  have hzr := cells_LR (pureV_VR ρ 3 z (hy.pure z hz))
  split
  · trivial
  rename_i hzs
  have hzs : z.cells.size = y.size := by have := Nat.eq_of_beq_eq_true hzs; rw [lenF_eq] at this; simpa using this
  split
  · trivial
  rename_i hle
  have hle : len * y.size ≤ 16777216 := Nat.le_of_ble_eq_true hle
  split
  case h_2 => trivial
  rename_i r hr
  split
  case h_2 => trivial
  rename_i hrl
  have hrl : r.length = len * y.size := by have := Nat.eq_of_beq_eq_true hrl; rwa [lenF_eq] at this
  obtain ⟨r', hf, hrr⟩ := fill_ok (place' := fun i => some (i * y.size, y.size)) (cs' := ⟨reps z.cells.toList len⟩) (fun i x hx => hx) hp (hzr.reps len) hr
  have hu := hx.run_und (w := w)
  rw [hd] at hu
  refine ⟨.slice (some ⟨w.heap.size, 0, none⟩) len len, .cells r' elem, w.drawn, ⟨w.heap.size, 0, len⟩, ?_, rfl, fun ρ' he hi => ⟨?_, ?_⟩⟩
  · unfold Instr.buildSlice
    have hn : ¬ (len * y.size > 2 ^ 24) := by omega
    have hpu : ∀ (α : Type) (a : α) (wo : World), (Sem.pure a : Sem α).run P wo = .ok a wo := fun _ _ _ => rfl
    simp only [Sem.run_bind, hu, Result.andThen_ok, hy.run_size, hn, if_false]
    by_cases h0 : len * y.size = 0
    · have hre : (⟨reps z.cells.toList len⟩ : Array Value) = (Array.range (len * y.size)).map fun x => (#[] : Array Value)[x % (#[] : Array Value).size]! := by
        rw [h0]
        apply Array.ext'
        have := reps_length z.cells.toList len
        have h2 : (reps z.cells.toList len).length = 0 := by rw [this]; simpa [hzs] using h0
        simpa using List.eq_nil_of_length_eq_zero h2
      simp only [h0, if_true, pure_bind, Sem.run_bind, Sem.run_pure, Result.andThen_ok]
      rw [h0] at hre
      rw [← hre, hf]
      simp only [newRow, Sem.run_bind, run_newObj, Result.andThen_ok, Sem.run_pure]
    · have hre : (⟨reps z.cells.toList len⟩ : Array Value) = (Array.range (len * y.size)).map fun x => z.cells[x % z.cells.size]! := by
        rw [← hzs]; exact (reps_array z.cells len).symm
      simp only [h0, if_false, Sem.run_bind, hy.run_zero hz, Result.andThen_ok, Sem.run_pure]
      rw [← hre, hf]
      simp only [newRow, Sem.run_bind, run_newObj, Result.andThen_ok, Sem.run_pure]
  · have := OR_row (hrr.mono he) w.heap.size len y.size elem [] (by omega) (by simp; omega) (hy.small z hz)
    have e : objOf r (rowC elem y.size) = .cells (T.ofList r) (Nat.mul len y.size) (rowC elem y.size) := by
      unfold objOf; rw [lenF_eq, hrl]; rfl
    rw [e] at this
    simpa using this
  · have := VR.slc (ρ := ρ') (o := 0) (n := len) (e := 2 * len + 1) (c := len) hi (by unfold capR; rw [if_pos (by omega)]; omega) (Nat.le_refl _)
    exact this

noncomputable def qMakeSlice (E : Env) (id ty : Nat) (l c : Value) : QR :=
  match l, c with
  | .int _ (.ofNat l), .int _ (.ofNat c) =>
    match E.ti ty with
    | some x =>
      match x.desc with
      | .slice elem => match E.ti elem with
        | some y => match y.zero with
          | some z => match Nat.beq (lenF z.cells.toList) y.size with
            | false => .fail
            | true => match Nat.ble l c with
              | false => .fail
              | true => match Nat.ble (Nat.mul y.bytes c) 281474976710656 with
                | false => .fail
                | true => match Nat.ble c 281474976710656 with
                  | false => .fail
                  | true => .new (.cells (T.ofList (reps z.cells.toList c)) (Nat.mul c y.size) (rowC elem y.size)) (.slice (some ⟨id, 0, none⟩) l (Nat.add (Nat.mul 2 c) 1))
          | none => .fail
        | none => .fail
      | _ => .fail
    | none => .fail
  | _, _ => .fail
theorem qMakeSlice_ok {ty : Nat} {l c l' c' : Value} (hl : VR ρ l l') (hc : VR ρ c c') : QV P (Instr.makeSlice ty l' c') ρ id w (qMakeSlice (envOf P) id ty l c) := by
  unfold qMakeSlice
  split
  case h_2 => trivial
  rename_i kl l kc c
  cases hl; cases hc
  split
  case h_2 => trivial
  rename_i x hx
  have hx := ti_ok hx
  split
  case h_2 => trivial
  rename_i elem hd
  split
  case h_2 => trivial
  rename_i y hy
  have hy := ti_ok hy
  split
  case h_2 => trivial
  rename_i z hz
  have hzr := cells_LR (pureV_VR ρ 3 z (hy.pure z hz))
  split
  · trivial
  rename_i hzs
  have hzs : z.cells.size = y.size := by have := Nat.eq_of_beq_eq_true hzs; rw [lenF_eq] at this; simpa using this
  split
  · trivial
  rename_i hlc
  have hlc : l ≤ c := Nat.le_of_ble_eq_true hlc
  split
  · trivial
  rename_i hb
  have hb : y.bytes * c ≤ 281474976710656 := Nat.le_of_ble_eq_true hb
  split
  · trivial
  rename_i hc2
  have hc2 : c ≤ 281474976710656 := Nat.le_of_ble_eq_true hc2
  have hu := hx.run_und (w := w)
  rw [hd] at hu
  obtain ⟨i, hi, hi1, hi2, hi3, hi4⟩ := hy.run_info (w := w)
  refine ⟨.slice (some ⟨w.heap.size, 0, none⟩) l c, .cells ⟨reps z.cells.toList c⟩ elem, w.drawn, ⟨w.heap.size, 0, c⟩, ?_, rfl, fun ρ' he hi => ⟨?_, ?_⟩⟩
  · have wl : IntKind.i64.wrap (l : Int) = l := wrap_of_inR (by simp [inR, blt_dec]; omega)
    have wc : IntKind.i64.wrap (c : Int) = c := wrap_of_inR (by simp [inR, blt_dec]; omega)
    have t1 : (decide ((c : Int) < 0) || decide ((i.bytes : Int) * (c : Int) > 2 ^ 48)) = false := by
      have : ¬ ((i.bytes : Int) * (c : Int) > 2 ^ 48) := by
        rw [hi2]
        have : ((y.bytes : Int) * (c : Int)) = ((y.bytes * c : Nat) : Int) := by simp
        rw [this]
        have : (2 : Int) ^ 48 = 281474976710656 := by decide
        rw [this]; omega
      simp [this]; omega
    unfold Instr.makeSlice
    have c0 : (decide ((l : Int) < 0)) = false := by simp
    have c1 : (decide ((l : Int) > (c : Int))) = false := by simp; omega
    simp only [Sem.run_bind, hu, Result.andThen_ok, asInt, asIntOf, pure_bind, Sem.run_pure, hi, Int.ofNat_eq_natCast, wl, wc, t1, c0, c1, Bool.or_self, Bool.false_eq_true, if_false, run_askRoom, hy.run_size, Int.toNat_natCast]
    by_cases h0 : c * y.size = 0
    · have hre : (⟨reps z.cells.toList c⟩ : Array Value) = (Array.range (c * y.size)).map fun x => (#[] : Array Value)[x % (#[] : Array Value).size]! := by
        rw [h0]
        apply Array.ext'
        have := reps_length z.cells.toList c
        have h2 : (reps z.cells.toList c).length = 0 := by rw [this]; simpa [hzs] using h0
        simpa using List.eq_nil_of_length_eq_zero h2
      simp only [h0, if_true, pure_bind, Sem.run_bind, Sem.run_pure, Result.andThen_ok, newRow, run_newObj]
      rw [h0] at hre
      rw [← hre]
    · have hre : (⟨reps z.cells.toList c⟩ : Array Value) = (Array.range (c * y.size)).map fun x => z.cells[x % z.cells.size]! := by
        rw [← hzs]; exact (reps_array z.cells c).symm
      simp only [h0, if_false, Sem.run_bind, hy.run_zero hz, Result.andThen_ok, Sem.run_pure, newRow, run_newObj]
      rw [← hre]
  · have hln : (reps z.cells.toList c).length = c * y.size := by rw [reps_length]; simp [hzs]
    have := OR_row (((hzr.reps c).mono he)) w.heap.size c y.size elem [] (by omega) (by simp; omega) (hy.small z hz)
    have e : objOf (reps z.cells.toList c) (rowC elem y.size) = .cells (T.ofList (reps z.cells.toList c)) (Nat.mul c y.size) (rowC elem y.size) := by
      unfold objOf; rw [lenF_eq, hln]; rfl
    rw [e] at this
    simpa using this
  · have := VR.slc (ρ := ρ') (o := 0) (n := l) (e := 2 * c + 1) (c := c) hi (by unfold capR; rw [if_pos (by omega)]; omega) hlc
    exact this
end
end Go.Proofs.YtmiojdppkooikaaGreatDoor.Abs
