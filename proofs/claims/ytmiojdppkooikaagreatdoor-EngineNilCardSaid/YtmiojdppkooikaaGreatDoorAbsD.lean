/- A part of the proof that EngineNil returns true. This part: a machine that computes on pictures of Go memory, each of whose steps is shown to be matched by the model; no conditions. -/
import Derived.Test.YtmiojdppkooikaaGreatDoorAbsC
namespace Go.Proofs.YtmiojdppkooikaaGreatDoor.Abs
open Go

/-- more is laid, and nothing beneath nx. -/
structure Ex (nx : Nat) (ρ ρ' : Ren) : Prop where
  ext : Ext ρ ρ'
  no : ∀ b, b < nx → ρ b = none → ρ' b = none
theorem Ex.refl (nx : Nat) (ρ : Ren) : Ex nx ρ ρ := ⟨Ext.refl ρ, fun _ _ h => h⟩
theorem Ex.upd {nx : Nat} {ρ : Ren} {p : Pl} (h : ρ nx = none) : Ex nx ρ (upd ρ nx p) := ⟨ext_upd h, fun b hb e => by
  unfold Abs.upd
  rw [if_neg (by omega)]; exact e⟩
theorem Ex.trans {nx nx' : Nat} {a b c : Ren} (h : Ex nx a b) (h' : Ex nx' b c) (hl : nx ≤ nx') : Ex nx a c :=
  ⟨h.1.trans h'.1, fun x hx e => h'.2 x (Nat.lt_of_lt_of_le hx hl) (h.2 x hx e)⟩

inductive ER where
  | val (v : Value) (h : T AObj) (nx : Nat)
  | skip (h : T AObj) (nx : Nat)
  | alts (l : List (Value × T AObj)) (nx : Nat)
  | fail

def EN (P : Program) (s : Sem Next) (N : Nat) (U : Nat → Prop) (ws : World) (ρ : Ren) (nx : Nat) (w : World) : ER → Prop
  | .val v h' nx' => ∃ v' w' ρ', s.run P w = .ok (.value v') w' ∧ Ex nx ρ ρ' ∧ SI N U ws ρ' h' nx' w' ∧ VR ρ' v v'
  | .skip h' nx' => ∃ w' ρ', s.run P w = .ok .skip w' ∧ Ex nx ρ ρ' ∧ SI N U ws ρ' h' nx' w'
  | .alts l nx' => ∃ v h' v' w' ρ', (v, h') ∈ l ∧ s.run P w = .ok (.value v') w' ∧ Ex nx ρ ρ' ∧ SI N U ws ρ' h' nx' w' ∧ VR ρ' v v'
  | .fail => True
def EV (P : Program) (s : Sem Value) (N : Nat) (U : Nat → Prop) (ws : World) (ρ : Ren) (nx : Nat) (w : World) : ER → Prop
  | .val v h' nx' => ∃ v' w' ρ', s.run P w = .ok v' w' ∧ Ex nx ρ ρ' ∧ SI N U ws ρ' h' nx' w' ∧ VR ρ' v v'
  | .skip _ _ => False
  | .alts l nx' => ∃ v h' v' w' ρ', (v, h') ∈ l ∧ s.run P w = .ok v' w' ∧ Ex nx ρ ρ' ∧ SI N U ws ρ' h' nx' w' ∧ VR ρ' v v'
  | .fail => True
theorem EN.of {P : Program} {s : Sem Value} {N : Nat} {U : Nat → Prop} {ws : World} {ρ : Ren} {nx : Nat} {w : World} {r : ER} (hq : EV P s N U ws ρ nx w r) : EN P (do pure (.value (← s))) N U ws ρ nx w r := by
  cases r with
  | val v h' nx' =>
    obtain ⟨v', w', ρ', h1, h2⟩ := hq
    exact ⟨v', w', ρ', by simp only [Sem.run_bind, h1, Result.andThen_ok, Sem.run_pure], h2⟩
  | skip h' nx' => exact hq.elim
  | alts l nx' =>
    obtain ⟨v, h', v', w', ρ', h0, h1, h2⟩ := hq
    exact ⟨v, h', v', w', ρ', h0, by simp only [Sem.run_bind, h1, Result.andThen_ok, Sem.run_pure], h2⟩
  | fail => trivial

/-- what a quiet result does to the picture. -/
noncomputable def quietly (h : T AObj) (nx : Nat) (r : QR) : ER :=
  match r with
  | .val v => .val v h nx
  | .new ob v => .val v (h.set nx ob) (Nat.add nx 1)
  | .dead v => match h.get nx with
    | none => .val v h (Nat.add nx 1)
    | some _ => .fail
  | .fail => .fail

section
variable {P : Program} {N : Nat} {U : Nat → Prop} {ws : World} {ρ : Ren} {h : T AObj} {nx : Nat} {w : World} {id : Nat}
theorem quietly_ok (s : SI N U ws ρ h nx w) {sem : Sem Next} {r : QR} (hq : QN P sem ρ nx w r) : EN P sem N U ws ρ nx w (quietly h nx r) := by
  have hnx := s.nx_none (Nat.le_refl nx)
  cases r with
  | val v =>
    obtain ⟨v', h1, h2⟩ := hq
    exact ⟨v', w, ρ, h1, Ex.refl nx ρ, s, h2⟩
  | new ob v =>
    obtain ⟨v', c, d, p, h1, h2, h3⟩ := hq
    have s1 := s.ghost hnx ob (Nat.le_succ nx)
    have he := ext_upd (p := p) hnx
    obtain ⟨ho, hv⟩ := h3 (upd ρ nx p) he (upd_self ρ nx p)
    have s2 := s1.born hnx (Nat.lt_succ_self nx) (T.get_set_self h nx ob) h2 ho d
    exact ⟨v', _, _, h1, Ex.upd hnx, s2, hv⟩
  | dead v =>
    obtain ⟨v', q, b, p, h1, h2, h3, h4⟩ := hq
    unfold quietly
    simp only []
    split
    · rename_i hg
      have s1 := s.nowhere q (by rw [h3]; exact s.bnd b p h2) hg
      exact ⟨v', w, _, h1, Ex.upd hnx, s1, h4 _ (ext_upd hnx) (upd_self ρ nx q)⟩
    · trivial
  | fail => trivial
end
end Go.Proofs.YtmiojdppkooikaaGreatDoor.Abs
namespace Go.Proofs.YtmiojdppkooikaaGreatDoor.Abs
open Go

section
variable {P : Program} {N : Nat} {U : Nat → Prop} {ws : World} {ρ : Ren} {h : T AObj} {nx : Nat} {w : World}

/- ---------- a store ---------- -/
/-- cells of a live block that may be written. -/
noncomputable def putCells (N : Nat) (h : T AObj) (b o : Nat) (l : List Value) : Option (T AObj) :=
  match Nat.ble N b with
  | true => match h.get b with
    | some (.cells t n es) => match Nat.ble (Nat.add o (lenF l)) n with
      | true => match oneCells l with
        | true => some (h.set b (.cells (setN l t o) n es))
        | false => none
      | false => none
    | _ => none
  | false => none
theorem putCells_ok (s : SI N U ws ρ h nx w) {b o : Nat} {l l' : List Value} (hl : LR ρ l l') {p : Pl} (hp : ρ b = some p) {h' : T AObj} (hput : putCells N h b o l = some h') :
    ∃ w', (storeCells ⟨p.B, p.S + o, none⟩ l').run P w = .ok () w' ∧ SI N U ws ρ h' nx w' := by
  unfold putCells at hput
  split at hput
  case h_2 => cases hput
  rename_i hN
  have hN := Nat.le_of_ble_eq_true hN
  split at hput
  case h_2 => cases hput
  rename_i t n es hg
  split at hput
  case h_2 => cases hput
  rename_i hle
  have hle := Nat.le_of_ble_eq_true hle
  rw [lenF_eq] at hle
  split at hput
  case h_2 => cases hput
  rename_i h1
  cases hput
  exact stores_ok s hN hg hp hl h1 hle
noncomputable def eStore (E : Env) (h : T AObj) (nx ty : Nat) (a v : Value) : ER :=
  match a with
  | .pointer (some ⟨b, o, none⟩) => match E.ti ty with
    | some x => match Nat.beq (lenF v.cells.toList) x.size with
      | true => match putCells E.N h b o v.cells.toList with
        | some h' => .skip h' nx
        | none => .fail
      | false => .fail
    | none => .fail
  | _ => .fail
theorem eStore_ok (s : SI (envOf P).N U ws ρ h nx w) {ty : Nat} {a a' v v' : Value} (ha : VR ρ a a') (hv : VR ρ v v') :
    EN P (do Instr.storeAt ty a' v'; pure .skip) (envOf P).N U ws ρ nx w (eStore (envOf P) h nx ty a v) := by
  unfold eStore
  split
  case h_2 => trivial
  rename_i b o
  split
  case h_2 => trivial
  rename_i x hx
  have hx := ti_ok hx
  split
  case h_2 => trivial
  rename_i hsz
  have hsz := Nat.eq_of_beq_eq_true hsz
  rw [lenF_eq] at hsz
  split
  case h_2 => trivial
  rename_i h' hput
  cases ha with
  | ptr hp =>
    rename_i p
    have hl := cells_LR hv
    obtain ⟨w', h1, h2⟩ := putCells_ok (P := P) s hl hp hput
    refine ⟨w', ρ, ?_, Ex.refl nx ρ, h2⟩
    have hsz' : v'.cells.size = x.size := by have := hl.length; rw [hsz] at this; simpa using this.symm
    unfold Instr.storeAt storeVar
    have : ¬ (v'.cells.size ≠ x.size) := by rw [hsz']; simp
    simp only [Instr.sureAddr, pure_bind, Sem.run_bind, hx.run_size, Result.andThen_ok, this, if_false, h1, Sem.run_pure]

/- ---------- append ---------- -/
theorem growBy_le (n : Nat) : ∀ (r c : Nat), Builtin.growBy n r c ≤ 2 ^ r * (c + 192)
  | 0, c => by simp [Builtin.growBy]
  | r + 1, c => by
    unfold Builtin.growBy
    split
    · have : 1 ≤ 2 ^ (r + 1) := Nat.one_le_two_pow
      calc c ≤ 1 * (c + 192) := by omega
        _ ≤ _ := Nat.mul_le_mul_right _ this
    · have ih := growBy_le n r (c + (c + 768) / 4)
      have h2 : c + (c + 768) / 4 + 192 ≤ 2 * (c + 192) := by omega
      calc _ ≤ _ := ih
        _ ≤ 2 ^ r * (2 * (c + 192)) := Nat.mul_le_mul_left _ h2
        _ = 2 ^ (r + 1) * (c + 192) := by rw [Nat.pow_succ]; rw [Nat.mul_assoc]
theorem nextcap_le {n c : Nat} (h : n ≤ 1048576) (hc : c < n) : Builtin.nextslicecap n c ≤ 33554432 := by
  unfold Builtin.nextslicecap
  split
  · omega
  · split
    · omega
    · have := growBy_le n 4 c
      omega

/-- what is appended: (how many, the cells). -/
noncomputable def added (h : T AObj) (size : Nat) (x : Value) : Option (Nat × List Value) :=
  match x with
  | .slice none n _ => match n with
    | 0 => some (0, [])
    | _ => none
  | .slice (some ⟨b, o, none⟩) n _ => match Nat.beq n 0 with
    | true => some (0, [])
    | false => match h.get b with
      | some (.cells t nb _) => match Nat.ble (Nat.add o (Nat.mul n size)) nb with
        | true => match getN t (Nat.mul n size) o with
          | some l => some (n, l)
          | none => none
        | false => none
      | _ => none
  | .string st => some (lenF (bL st), byteVals (bL st))
  | _ => none
/-- the second type is no whole number's. -/
noncomputable def plainAdd (E : Env) (zt : Option Nat) : Bool :=
  match zt with
  | none => true
  | some t => match E.ti t with
    | some d => match d.desc with
      | .int _ => false
      | _ => true
    | none => false
theorem zeroCells_reps (z : Array Value) (n : Nat) : Builtin.zeroCells z n = ⟨reps z.toList n⟩ := reps_array z n
theorem added_ok (s : SI N U ws ρ h nx w) {x x' : Value} (hx : VR ρ x x') {size n : Nat} {new : List Value} (ha : added h size x = some (n, new)) :
    ∃ new', LR ρ new new' ∧ (Builtin.lenOf x').run P w = .ok n w ∧ ∀ w', w'.heap = w.heap → (Builtin.firstCells size n x').run P w' = .ok new'.toArray w' := by
  unfold added at ha
  split at ha
  · split at ha
    · cases ha
      cases hx
      exact ⟨[], .nil, rfl, fun w' _ => rfl⟩
    · cases ha
  · rename_i b o n' _
    split at ha
    · rename_i h0
      have h0 := Nat.eq_of_beq_eq_true h0
      subst h0
      cases ha
      cases hx with
      | slc hp hc hn =>
        refine ⟨[], .nil, rfl, fun w' _ => ?_⟩
        simp only [Builtin.firstCells, Nat.zero_mul]
        rfl
    split at ha
    case h_2 => cases ha
    rename_i tt nb es hg
    split at ha
    case h_2 => cases ha
    rename_i hle
    have hle : o + n' * size ≤ nb := Nat.le_of_ble_eq_true hle
    split at ha
    case h_2 => cases ha
    rename_i l hl
    cases ha
    cases hx with
    | slc hp hc hn =>
      rename_i c p
      obtain ⟨ob, hob, hor⟩ := s.rel _ _ _ hg hp
      obtain ⟨l', h1, h2, h3⟩ := loads_all (P := P) hor hl hle
      exact ⟨l', h1, rfl, fun w' hw' => h3 w' (by rw [hw']; exact hob)⟩
  · rename_i st
    cases ha
    cases hx
    refine ⟨byteVals (bL st), LR.bytes ρ _, by rw [lenF_eq, ← size_bL]; rfl, fun w' _ => ?_⟩
    rw [lenF_eq, ← size_bL]
    simp only [Builtin.firstCells, Sem.run_pure]
    congr 1
    apply Array.ext'
    have : st.extract 0 st.size = st := by
      rw [extract_bL, size_bL]; simp [mkB_bL]
    rw [this]
    simp [byteVals_eq, bL]
  · cases ha

section
variable {ts : Array TypeId} {t : TypeId} {sTy elem : Nat} {zt : Option Nat} {st et : TI} {base : Option Addr} {sLen sCap n : Nat} {x' : Value}
/-- within the capacity. -/
theorem append_fits (h0 : ts[0]? = some sTy) (h1 : ts[1]? = zt) (hzt : plainAdd (envOf P) zt = true) (hst : TyOK P sTy st) (hsd : st.desc = .slice elem) (het : TyOK P elem et)
    (hn : (Builtin.lenOf x').run P w = .ok n w) {new' : List Value} (hnew : (Builtin.firstCells et.size n x').run P w = .ok new'.toArray w) (hfit : sLen + n ≤ sCap) :
    (Builtin.append_ ts t #[.slice base sLen sCap, x']).run P w =
      match base with
      | some a => ((storeCells (a.add (sLen * et.size)) new').run P w).andThen fun _ w' => .ok (.slice base (sLen + n) sCap) w'
      | none => .ok (.slice base (sLen + n) sCap) w := by
  have hu := hst.run_und (w := w)
  rw [hsd] at hu
  have g0 : (#[.slice base sLen sCap, x'] : Array Value)[0]? = some (.slice base sLen sCap) := rfl
  have g1 : (#[.slice base sLen sCap, x'] : Array Value)[1]? = some x' := rfl
  unfold Builtin.append_
  unfold plainAdd at hzt
  cases zt with
  | none =>
    simp only [h0, g0, g1, h1, Sem.run_bind, hu, Result.andThen_ok, het.run_size, pure_bind, Bool.false_eq_true, if_false, hn, hfit, if_true, Bool.not_false, hnew, List.toList_toArray]
    cases base <;> simp only [Sem.run_bind, Sem.run_pure]
  | some ty =>
    simp only [] at hzt
    split at hzt
    · rename_i d hd
      have hd := (ti_ok hd).run_und (w := w)
      generalize d.desc = dd at hd hzt
      cases dd <;> (first
        | (cases hzt; done)
        | (simp only [h0, g0, g1, h1, Sem.run_bind, hu, Result.andThen_ok, het.run_size, hd, pure_bind, Bool.false_eq_true, if_false, hn, hfit, if_true, Bool.not_false, hnew, List.toList_toArray]
           cases base <;> simp only [Sem.run_bind, Sem.run_pure]))
    · cases hzt
/-- beyond it. -/
theorem append_grows (h0 : ts[0]? = some sTy) (h1 : ts[1]? = zt) (hzt : plainAdd (envOf P) zt = true) (hst : TyOK P sTy st) (hsd : st.desc = .slice elem) (het : TyOK P elem et)
    {z : Value} (hz : et.zero = some z) (hb : et.bytes ≤ 65536) (hb0 : et.bytes ≠ 0) (hn : (Builtin.lenOf x').run P w = .ok n w) {new' : List Value}
    (hnew : ∀ w', w'.heap = w.heap → (Builtin.firstCells et.size n x').run P w' = .ok new'.toArray w') (hfit : ¬ (sLen + n ≤ sCap)) (hlim : sLen + n ≤ 1048576)
    {old' : List Value} (hold : ∀ w', w'.heap = w.heap → (Builtin.firstCells et.size sLen (.slice base sLen sCap)).run P w' = .ok old'.toArray w') :
    ∃ cap, sLen + n ≤ cap ∧ (Builtin.append_ ts t #[.slice base sLen sCap, x']).run P w =
      .ok (.slice (some ⟨w.heap.size, 0, none⟩) (sLen + n) cap)
        { w with heap := w.heap.push (.cells (old' ++ new' ++ reps z.cells.toList (cap - (sLen + n))).toArray elem), drawn := w.drawn + 1 } := by
  obtain ⟨cap, hcap, hch⟩ := chooseCap P (sLen + n) sCap elem w
  refine ⟨cap, hcap, ?_⟩
  have hu := hst.run_und (w := w)
  rw [hsd] at hu
  have g0 : (#[.slice base sLen sCap, x'] : Array Value)[0]? = some (.slice base sLen sCap) := rfl
  have g1 : (#[.slice base sLen sCap, x'] : Array Value)[1]? = some x' := rfl
  obtain ⟨i, hi, hi1, hi2, hi3, hi4⟩ := het.run_info (w := w)
  have hiw : ∀ w', (typeInfo elem).run P w' = .ok i w' := fun w' => by
    obtain ⟨i', hi', _⟩ := het.info
    unfold typeInfo at hi ⊢
    simp only [Sem.run_bind, run_program, Result.andThen_ok, hi'] at hi ⊢
    simp only [Sem.run_pure, Result.ok.injEq, and_true] at hi ⊢
    exact hi
  have c1 : ¬ (((sLen + n : Nat) : Int) > IntKind.i64.max ∧ (False ∨ i.bytes = 0)) := fun hh => by
    rcases hh.2 with h' | h'
    · exact h'
    · rw [hi2] at h'; exact hb0 h'
  have c1' : ¬ (((sLen + n : Nat) : Int) > IntKind.i64.max ∧ (false = true ∨ i.bytes = 0)) := fun hh => c1 ⟨hh.1, hh.2.imp (fun h => by cases h) id⟩
  have c2 : ¬ (Builtin.nextslicecap (sLen + n) sCap * i.bytes > 2 ^ 48) := by
    have := nextcap_le hlim (by omega : sCap < sLen + n)
    rw [hi2]
    have h2 : Builtin.nextslicecap (sLen + n) sCap * et.bytes ≤ 33554432 * 65536 := Nat.mul_le_mul this hb
    omega
  unfold Builtin.append_
  unfold plainAdd at hzt
  have hw1 : ({ w with drawn := w.drawn + 1 } : World).heap = w.heap := rfl
  cases zt with
  | none =>
    simp only [h0, g0, g1, h1, Sem.run_bind, hu, Result.andThen_ok, het.run_size, pure_bind, Bool.false_eq_true, if_false, hn, hfit, Bool.not_false, if_true, hiw, c1, c2, hch, run_askRoom, hold _ hw1, hnew _ hw1,
      het.run_zero hz, newRow, run_newObj, Sem.run_pure, zeroCells_reps]
    congr 2
    simp
  | some ty =>
    simp only [] at hzt
    split at hzt
    · rename_i d hd
      have hd := (ti_ok hd).run_und (w := w)
      generalize d.desc = dd at hd hzt
      cases dd <;> (first
        | (cases hzt; done)
        | (simp only [h0, g0, g1, h1, Sem.run_bind, hu, Result.andThen_ok, het.run_size, hd, pure_bind, Bool.false_eq_true, if_false, hn, hfit, if_true, Bool.not_false, hiw, c1, c2, hch, run_askRoom, hold _ hw1, hnew _ hw1,
             het.run_zero hz, newRow, run_newObj, Sem.run_pure, zeroCells_reps]
           congr 2
           simp))
    · cases hzt
theorem VR.int_inv' {ρ : Ren} {k : IntKind} {n : Int} {v : Value} (h : VR ρ (.int k n) v) : v = .int k n := by cases h; rfl
/-- a whole number in the second place: so many zeros. -/
theorem zeros_cells {z : Value} {size : Nat} (hs : size ≠ 0) (hz : et.zero = some z) (het : TyOK P elem et) (w' : World) :
    ((if n * size = 0 then pure #[] else do pure (Builtin.zeroCells (← zeroValue elem).cells n)) : Sem (Array Value)).run P w' = .ok (reps z.cells.toList n).toArray w' := by
  by_cases h : n = 0
  · subst h
    rw [if_pos (show 0 * size = 0 by simp)]
    rfl
  · rw [if_neg (show ¬ (n * size = 0) from fun e => (Nat.mul_eq_zero.1 e).elim h hs)]
    simp only [Sem.run_bind, het.run_zero hz, Result.andThen_ok, Sem.run_pure, zeroCells_reps]
theorem append_fitsZ {ty : Nat} {d : TI} {k k' : IntKind} (h0 : ts[0]? = some sTy) (h1 : ts[1]? = some ty) (hd : TyOK P ty d) (hdk : d.desc = .int k) (hst : TyOK P sTy st) (hsd : st.desc = .slice elem) (het : TyOK P elem et)
    {z : Value} (hz : et.zero = some z) (hzs : z.cells.toList.length = et.size) (hs : et.size ≠ 0) (hb : et.bytes ≤ 65536) (hn : n ≤ 1048576) (hfit : sLen + n ≤ sCap) :
    (Builtin.append_ ts t #[.slice base sLen sCap, .int k' n]).run P w =
      match base with
      | some a => ((storeCells (a.add (sLen * et.size)) (reps z.cells.toList n)).run P w).andThen fun _ w' => .ok (.slice base (sLen + n) sCap) w'
      | none => .ok (.slice base (sLen + n) sCap) w := by
  have hu := hst.run_und (w := w)
  rw [hsd] at hu
  have hud := hd.run_und (w := w)
  rw [hdk] at hud
  have g0 : (#[.slice base sLen sCap, .int k' n] : Array Value)[0]? = some (.slice base sLen sCap) := rfl
  have g1 : (#[.slice base sLen sCap, .int k' n] : Array Value)[1]? = some (.int k' n) := rfl
  obtain ⟨i, hi, hi1, hi2, hi3, hi4⟩ := het.run_info (w := w)
  have hw : IntKind.i64.wrap (n : Int) = n := wrap_of_inR (by simp [inR, blt_dec]; omega)
  have c0 : ¬ ((n : Int) < 0) := by omega
  have c1 : ¬ ((n : Int) * (i.bytes : Int) > 2 ^ 48) := by
    rw [hi2]
    have e : ((n : Int) * (et.bytes : Int)) = ((n * et.bytes : Nat) : Int) := by simp
    have h3 : n * et.bytes ≤ 1048576 * 65536 := Nat.mul_le_mul hn hb
    have : (2 : Int) ^ 48 = 281474976710656 := by decide
    rw [e, this]; omega
  have hzc := zeros_cells (P := P) (n := n) (w' := w) hs hz het
  unfold Builtin.append_
  simp only [h0, g0, g1, h1, Sem.run_bind, hu, Result.andThen_ok, het.run_size, hud, Sem.run_pure, if_true, asInt, asIntOf, pure_bind, hw, c0, c1, if_false, hi, Int.toNat_natCast, hfit, Bool.not_true, Bool.false_eq_true, hzc]
  cases base <;> simp only [Sem.run_bind, Sem.run_pure]
theorem append_growsZ {ty : Nat} {d : TI} {k k' : IntKind} (h0 : ts[0]? = some sTy) (h1 : ts[1]? = some ty) (hd : TyOK P ty d) (hdk : d.desc = .int k) (hst : TyOK P sTy st) (hsd : st.desc = .slice elem) (het : TyOK P elem et)
    {z : Value} (hz : et.zero = some z) (hzs : z.cells.toList.length = et.size) (hs : et.size ≠ 0) (hb : et.bytes ≤ 65536) (hn : n ≤ 1048576) (hfit : ¬ (sLen + n ≤ sCap)) (hlim : sLen + n ≤ 1048576)
    {old' : List Value} (hold : ∀ w', w'.heap = w.heap → (Builtin.firstCells et.size sLen (.slice base sLen sCap)).run P w' = .ok old'.toArray w') :
    ∃ cap, sLen + n ≤ cap ∧ (Builtin.append_ ts t #[.slice base sLen sCap, .int k' n]).run P w =
      .ok (.slice (some ⟨w.heap.size, 0, none⟩) (sLen + n) cap)
        { w with heap := w.heap.push (.cells (old' ++ reps z.cells.toList n ++ reps z.cells.toList (cap - (sLen + n))).toArray elem), drawn := w.drawn + 1 } := by
  obtain ⟨cap, hcap, hch⟩ := chooseCap P (sLen + n) sCap elem w
  refine ⟨cap, hcap, ?_⟩
  have hu := hst.run_und (w := w)
  rw [hsd] at hu
  have hud := hd.run_und (w := w)
  rw [hdk] at hud
  have g0 : (#[.slice base sLen sCap, .int k' n] : Array Value)[0]? = some (.slice base sLen sCap) := rfl
  have g1 : (#[.slice base sLen sCap, .int k' n] : Array Value)[1]? = some (.int k' n) := rfl
  obtain ⟨i, hi, hi1, hi2, hi3, hi4⟩ := het.run_info (w := w)
  have hiw : ∀ w', (typeInfo elem).run P w' = .ok i w' := fun w' => by
    obtain ⟨i', hi', _⟩ := het.info
    unfold typeInfo at hi ⊢
    simp only [Sem.run_bind, run_program, Result.andThen_ok, hi'] at hi ⊢
    simp only [Sem.run_pure, Result.ok.injEq, and_true] at hi ⊢
    exact hi
  have hw : IntKind.i64.wrap (n : Int) = n := wrap_of_inR (by simp [inR, blt_dec]; omega)
  have c0 : ¬ ((n : Int) < 0) := by omega
  have c1 : ¬ ((n : Int) * (i.bytes : Int) > 2 ^ 48) := by
    rw [hi2]
    have e : ((n : Int) * (et.bytes : Int)) = ((n * et.bytes : Nat) : Int) := by simp
    have h3 : n * et.bytes ≤ 1048576 * 65536 := Nat.mul_le_mul hn hb
    have : (2 : Int) ^ 48 = 281474976710656 := by decide
    rw [e, this]; omega
  have c3 : ¬ (((sLen + n : Nat) : Int) > IntKind.i64.max ∧ (True ∨ i.bytes = 0)) := fun hh => by
    have h1 := hh.1
    have : IntKind.i64.max = 9223372036854775807 := rfl
    omega
  have c2 : ¬ (Builtin.nextslicecap (sLen + n) sCap * i.bytes > 2 ^ 48) := by
    have := nextcap_le hlim (by omega : sCap < sLen + n)
    rw [hi2]
    have h2 : Builtin.nextslicecap (sLen + n) sCap * et.bytes ≤ 33554432 * 65536 := Nat.mul_le_mul this hb
    omega
  have hw1 : ({ w with drawn := w.drawn + 1 } : World).heap = w.heap := rfl
  have hzc := zeros_cells (P := P) (n := n) (w' := { w with drawn := w.drawn + 1 }) hs hz het
  unfold Builtin.append_
  simp only [h0, g0, g1, h1, Sem.run_bind, hu, Result.andThen_ok, het.run_size, hud, Sem.run_pure, if_true, asInt, asIntOf, pure_bind, hw, c0, c1, if_false, hi, Int.toNat_natCast, hfit, Bool.not_true, Bool.false_eq_true, hiw, c3, c2, hch, run_askRoom, hold _ hw1]
  rw [hzc]
  simp only [Result.andThen_ok, het.run_zero hz, newRow, run_newObj, Sem.run_bind, Sem.run_pure, zeroCells_reps]
  congr 2
  simp
/-- what is appended, of either kind. -/
noncomputable def addedZ (E : Env) (h : T AObj) (zt : Option Nat) (size : Nat) (z : List Value) (x : Value) : Option (Nat × List Value) :=
  match plainAdd E zt with
  | true => added h size x
  | false => match zt with
    | none => none
    | some ty => match E.ti ty with
      | some d => match d.desc with
        | .int _ => match x with
          | .int _ (.ofNat n) => match Nat.ble n 1048576 with
            | true => some (n, reps z n)
            | false => none
          | _ => none
        | _ => none
      | none => none
theorem addedZ_ok (s : SI N U ws ρ h nx w) {x : Value} (hx : VR ρ x x') {new : List Value} {z : Value} (ha : addedZ (envOf P) h zt et.size z.cells.toList x = some (n, new))
    (h0 : ts[0]? = some sTy) (h1 : ts[1]? = zt) (hst : TyOK P sTy st) (hsd : st.desc = .slice elem) (het : TyOK P elem et) (hz : et.zero = some z) (hzs : z.cells.toList.length = et.size) (hs : et.size ≠ 0) (hb : et.bytes ≤ 65536) (hb0 : et.bytes ≠ 0) :
    ∃ new', LR ρ new new' ∧
      (∀ (base : Option Addr) (sLen sCap : Nat), sLen + n ≤ sCap → (Builtin.append_ ts t #[.slice base sLen sCap, x']).run P w =
        match base with
        | some a => ((storeCells (a.add (sLen * et.size)) new').run P w).andThen fun _ w' => .ok (.slice base (sLen + n) sCap) w'
        | none => .ok (.slice base (sLen + n) sCap) w) ∧
      (∀ (base : Option Addr) (sLen sCap : Nat), ¬ (sLen + n ≤ sCap) → sLen + n ≤ 1048576 → ∀ old' : List Value, (∀ w', w'.heap = w.heap → (Builtin.firstCells et.size sLen (.slice base sLen sCap)).run P w' = .ok old'.toArray w') →
        ∃ cap, sLen + n ≤ cap ∧ (Builtin.append_ ts t #[.slice base sLen sCap, x']).run P w =
          .ok (.slice (some ⟨w.heap.size, 0, none⟩) (sLen + n) cap)
            { w with heap := w.heap.push (.cells (old' ++ new' ++ reps z.cells.toList (cap - (sLen + n))).toArray elem), drawn := w.drawn + 1 }) := by
  unfold addedZ at ha
  split at ha
  · rename_i hzt
    obtain ⟨new', hnr, hlen, hfirst⟩ := added_ok (P := P) s hx ha
    exact ⟨new', hnr, fun base sLen sCap hfit => append_fits h0 h1 hzt hst hsd het hlen (hfirst w rfl) hfit, fun base sLen sCap hfit hlim old' hold => append_grows h0 h1 hzt hst hsd het hz hb hb0 hlen hfirst hfit hlim hold⟩
  · split at ha
    · cases ha
    · rename_i ty
      split at ha
      case h_2 => cases ha
      rename_i d hd
      have hd := ti_ok hd
      split at ha
      case h_2 => cases ha
      rename_i k hdk
      split at ha
      case h_2 => cases ha
      rename_i k' m
      split at ha
      case h_2 => cases ha
      rename_i hm
      have hm := Nat.le_of_ble_eq_true hm
      cases ha
      have hx' := hx.int_inv'
      subst hx'
      have hzr := cells_LR (pureV_VR ρ 3 z (het.pure z hz))
      exact ⟨_, hzr.reps n, fun base sLen sCap hfit => append_fitsZ h0 h1 hd hdk hst hsd het hz hzs hs hb hm hfit, fun base sLen sCap hfit hlim old' hold => append_growsZ h0 h1 hd hdk hst hsd het hz hzs hs hb hm hfit hlim hold⟩
end
end
end Go.Proofs.YtmiojdppkooikaaGreatDoor.Abs
namespace Go.Proofs.YtmiojdppkooikaaGreatDoor.Abs
open Go

/-- a block's cells from a place on, so many, as a tree from 0 on. -/
noncomputable def oldTree (h : T AObj) (b o k : Nat) : Option (T Value) :=
  match h.get b with
  | some (.cells t nb _) => match Nat.ble (Nat.add o k) nb with
    | true => match o with
      | 0 => some t
      | _ => match getN t k o with
        | some l => some (T.ofList l)
        | none => none
    | false => none
  | _ => none
/-- a new row: what was, and what is appended. -/
noncomputable def rowObj (t0 : T Value) (new : List Value) (lenC need : Nat) (size elem : Nat) : AObj := .cells (setN new t0 lenC) (Nat.mul need size) (rowC elem size)
noncomputable def growTo (h : T AObj) (nx : Nat) (t0 : T Value) (new : List Value) (len n size elem : Nat) : ER :=
  match Nat.ble (Nat.add len n) 1048576 with
  | true => .val (.slice (some ⟨nx, 0, none⟩) (Nat.add len n) 0) (h.set nx (rowObj t0 new (Nat.mul len size) (Nat.add len n) size elem)) (Nat.add nx 1)
  | false => .fail
noncomputable def eAppend (E : Env) (h : T AObj) (nx sTy : Nat) (zt : Option Nat) (s x : Value) : ER :=
  match E.ti sTy with
  | some st => match st.desc with
    | .slice elem => match E.ti elem with
      | some et => match et.zero with
        | some z => match and (Nat.beq (lenF z.cells.toList) et.size) (and (Nat.ble et.bytes 65536) (and (Nat.blt 0 et.bytes) (Nat.blt 0 et.size))) with
          | false => .fail
          | true => match addedZ E h zt et.size z.cells.toList x with
            | none => .fail
            | some (n, new) => match Nat.beq (lenF new) (Nat.mul n et.size) with
              | false => .fail
              | true => match s with
                | .slice none 0 0 => match n with
                  | 0 => .val (.slice none 0 0) h nx
                  | _ => growTo h nx .leaf new 0 n et.size elem
                | .slice (some ⟨b, o, none⟩) len e =>
                  match Nat.beq (Nat.mod e 2) 1 with
                  | true => match Nat.ble (Nat.add len n) (Nat.div e 2) with
                    | true => inPlace b o len e n et.size new
                    | false => match oldTree h b o (Nat.mul len et.size) with
                      | some t0 => growTo h nx t0 new len n et.size elem
                      | none => .fail
                  | false => match Nat.ble (Nat.add len n) (known h b (Nat.div e 2) et.size len) with
                    | true => inPlace b o len e n et.size new
                    | false => match and (Nat.ble E.N b) (and (Nat.beq o (Nat.mul (Nat.div e 2) et.size)) (oneCells new)) with
                      | false => .fail
                      | true => match h.get b with
                        | some (.cells _ _ es) => match Nat.beq es (rowC elem et.size) with
                          | true => match oldTree h b o (Nat.mul len et.size) with
                            | some t0 => growTo (h.del b) nx t0 new len n et.size elem
                            | none => .fail
                          | false => .fail
                        | _ => .fail
                | _ => .fail
        | none => .fail
      | none => .fail
    | _ => .fail
  | none => .fail
where
  inPlace (b o len e n size : Nat) (new : List Value) : ER :=
    match putCells E.N h b (Nat.add o (Nat.mul len size)) new with
    | some h' => .val (.slice (some ⟨b, o, none⟩) (Nat.add len n) e) h' nx
    | none => .fail

section
variable {P : Program} {N : Nat} {U : Nat → Prop} {ws : World} {ρ : Ren} {h : T AObj} {nx : Nat} {w : World}
theorem oldTree_spec {b o k : Nat} {t0 : T Value} (hh : oldTree h b o k = some t0) :
    ∃ t nb es, h.get b = some (.cells t nb es) ∧ o + k ≤ nb ∧ ∀ j v, j < k → t0.get j = some v → t.get (o + j) = some v := by
  unfold oldTree at hh
  split at hh
  case h_2 => cases hh
  rename_i t nb es hg
  split at hh
  case h_2 => cases hh
  rename_i hle
  have hle : o + k ≤ nb := Nat.le_of_ble_eq_true hle
  split at hh
  · cases hh
    exact ⟨_, nb, es, hg, hle, fun j v _ hv => by rw [Nat.zero_add]; exact hv⟩
  · split at hh
    · rename_i l hl
      cases hh
      obtain ⟨h1, h2⟩ := getN_spec _ _ _ _ hl
      exact ⟨t, nb, es, hg, hle, fun j v _ hv => h2 j v (by rwa [T.get_ofList] at hv)⟩
    · cases hh
/-- the cells that lie there. -/
theorem cells_there {p : Pl} {t : T Value} {n es : Nat} {c : Obj} (ho : OR ρ p (.cells t n es) c) {o k : Nat} (hn : o + k ≤ n) :
    ∃ l' : List Value, l'.length = k ∧ (∀ j v, j < k → t.get (o + j) = some v → ∃ v', l'[j]? = some v' ∧ VR ρ v v') ∧
      ∀ w : World, w.heap[p.B]? = some c → (loadCells ⟨p.B, p.S + o, none⟩ k).run P w = .ok l'.toArray w := by
  obtain ⟨C, elem, fz, rfl, h1, _, h3, _, _⟩ := ho
  have hl : ((C.toList.drop (p.S + o)).take k).length = k := by simp; omega
  have hget : ∀ j, j < k → ((C.toList.drop (p.S + o)).take k)[j]? = C[p.S + (o + j)]? := fun j hj => by
    rw [List.getElem?_take, if_pos hj, List.getElem?_drop]
    simp [Nat.add_assoc]
  refine ⟨(C.toList.drop (p.S + o)).take k, hl, fun j v hj hv => ?_, fun w hw => ?_⟩
  · obtain ⟨v', e, r⟩ := h3 (o + j) v (by omega) hv
    exact ⟨v', by rw [hget j hj]; exact e, r⟩
  · have := run_loads_at (P := P) hw (p.S + o) ((C.toList.drop (p.S + o)).take k) (fun j v e => by
      have hj : j < k := by have := (List.getElem?_eq_some_iff.1 e).1; omega
      rw [hget j hj] at e; rw [Nat.add_assoc]; exact e)
    rw [hl] at this
    exact this
theorem OR_grown {ρ : Ren} {t0 : T Value} {new new' old' rest : List Value} {lenC need size cap B : Nat} {elem : TypeId} (hnew : LR ρ new new') (hol : old'.length = lenC)
    (hold : ∀ j v, j < lenC → t0.get j = some v → ∃ v', old'[j]? = some v' ∧ VR ρ v v') (hn : lenC + new.length = need * size) (hcap : need ≤ cap) (hrest : rest.length = (cap - need) * size) (hsz : size < 65536) :
    OR ρ ⟨B, 0, cap⟩ (rowObj t0 new lenC need size elem) (.cells (old' ++ new' ++ rest).toArray elem) := by
  have hl := hnew.length
  have hcs : cap * size = need * size + (cap - need) * size := by rw [← Nat.add_mul]; congr 1; omega
  have hnc : need * size ≤ cap * size := Nat.mul_le_mul_right _ hcap
  refine ⟨_, elem, (0, 0), rfl, ?_, ?_, fun i v hi hv => ?_, fun i _ _ => by simp, .inr (by rw [esz_row hsz]; exact hnc), TyR.row hsz⟩
  · simp only [List.size_toArray, List.length_append]
    show 0 + need * size ≤ _
    omega
  · simp only [List.size_toArray, List.length_append]
    show 0 + cap * esz (rowC elem size) ≤ _
    rw [esz_row hsz]
    omega
  · have hi : i < need * size := hi
    rw [setN_get] at hv
    simp only [Nat.zero_add, List.getElem?_toArray]
    rw [List.getElem?_append_left (by simp only [List.length_append]; omega)]
    split at hv
    · rename_i hin
      obtain ⟨v', e, r⟩ := hnew.get? hv
      refine ⟨v', ?_, r⟩
      rw [List.getElem?_append_right (by omega), hol]; exact e
    · rename_i hout
      have hi2 : i < lenC := by omega
      obtain ⟨v', e, r⟩ := hold i v hi2 hv
      exact ⟨v', by rw [List.getElem?_append_left (by omega)]; exact e, r⟩
theorem grow_ok (s : SI N U ws ρ h nx w) {t0 : T Value} {new new' old' : List Value} {len n size cap : Nat} {z : List Value} {elem : TypeId} (hnew : LR ρ new new') (hol : old'.length = len * size)
    (hold : ∀ j v, j < len * size → t0.get j = some v → ∃ v', old'[j]? = some v' ∧ VR ρ v v') (hnl : new.length = n * size) (hz : z.length = size) (hcap : len + n ≤ cap) (hsz : size < 65536) {sem : Sem Value}
    (hrun : sem.run P w = .ok (.slice (some ⟨w.heap.size, 0, none⟩) (len + n) cap)
      { w with heap := w.heap.push (.cells (old' ++ new' ++ reps z (cap - (len + n))).toArray elem), drawn := w.drawn + 1 }) :
    EV P sem N U ws ρ nx w (growTo h nx t0 new len n size elem) := by
  unfold growTo
  split
  case h_2 => trivial
  have hnx := s.nx_none (Nat.le_refl nx)
  have s1 := s.ghost hnx (rowObj t0 new (len * size) (len + n) size elem) (Nat.le_succ nx)
  let p : Pl := ⟨w.heap.size, 0, cap⟩
  have he := ext_upd (p := p) hnx
  have ho : OR (upd ρ nx p) p (rowObj t0 new (len * size) (len + n) size elem) (.cells (old' ++ new' ++ reps z (cap - (len + n))).toArray elem) :=
    OR_grown (hnew.mono he) hol (fun j v hj hv => let ⟨v', e, r⟩ := hold j v hj hv; ⟨v', e, r.mono he⟩) (by rw [hnl, ← Nat.add_mul]) hcap (by rw [reps_length, hz]) hsz
  have s2 := s1.born hnx (Nat.lt_succ_self nx) (T.get_set_self h nx _) rfl ho (w.drawn + 1)
  refine ⟨_, _, upd ρ nx p, hrun, Ex.upd hnx, s2, ?_⟩
  exact VR.slc (ρ := upd ρ nx p) (o := 0) (n := len + n) (e := 0) (c := cap) (upd_self ρ nx p) (by unfold capR; simp [p]) hcap

theorem eAppend_ok (s : SI (envOf P).N U ws ρ h nx w) {ts : Array TypeId} {t sTy : TypeId} {zt : Option Nat} (h0 : ts[0]? = some sTy) (h1 : ts[1]? = zt) {v v' x x' : Value} (hv : VR ρ v v') (hx : VR ρ x x') :
    EV P (Builtin.append_ ts t #[v', x']) (envOf P).N U ws ρ nx w (eAppend (envOf P) h nx sTy zt v x) := by
  unfold eAppend
  split
  case h_2 => trivial
  rename_i st hst
  have hst := ti_ok hst
  split
  case h_2 => trivial
  rename_i elem hsd
  split
  case h_2 => trivial
  rename_i et het
  have het := ti_ok het
  split
  case h_2 => trivial
  rename_i z hz
  split
  · trivial
  rename_i hconds
  simp only [Bool.and_eq_true] at hconds
  obtain ⟨hc1, hc2, hc3, hc4⟩ := hconds
  have hzs : z.cells.toList.length = et.size := by have := Nat.eq_of_beq_eq_true hc1; rwa [lenF_eq] at this
  have hb : et.bytes ≤ 65536 := Nat.le_of_ble_eq_true hc2
  have hsml : et.size < 65536 := het.small z hz
  have hb0 : et.bytes ≠ 0 := by have : 0 < et.bytes := by simpa [Nat.blt_eq] using hc3
                                omega
  have hs0 : 0 < et.size := by simpa [Nat.blt_eq] using hc4
  split
  · trivial
  rename_i n new hadd
  split
  · trivial
  rename_i hnl
  have hnl : new.length = n * et.size := by have := Nat.eq_of_beq_eq_true hnl; rwa [lenF_eq] at this
  obtain ⟨new', hnr, FITS, GROWS⟩ := addedZ_ok (t := t) s hx hadd h0 h1 hst hsd het hz hzs (by omega) hb hb0
  have inPlaceOK : ∀ {b o len e c : Nat} {p : Pl}, ρ b = some p → capR p.C e c → len + n ≤ c →
      EV P (Builtin.append_ ts t #[.slice (some ⟨p.B, p.S + o, none⟩) len c, x']) (envOf P).N U ws ρ nx w (eAppend.inPlace (envOf P) h nx b o len e n et.size new) := by
    intro b o len e c p hp hc hfit
    unfold eAppend.inPlace
    split
    case h_2 => trivial
    rename_i h' hput
    obtain ⟨w', hs1, hs2⟩ := putCells_ok (P := P) s hnr hp hput
    have hr := FITS (some ⟨p.B, p.S + o, none⟩) len c hfit
    have e1 : (⟨p.B, p.S + o, none⟩ : Addr).add (len * et.size) = ⟨p.B, p.S + (o + len * et.size), none⟩ := by rw [add_mk, Nat.add_assoc]
    simp only [e1] at hr
    have hs1 : (storeCells ⟨p.B, p.S + (o + len * et.size), none⟩ new').run P w = .ok () w' := hs1
    rw [hs1] at hr
    exact ⟨_, w', ρ, hr, Ex.refl nx ρ, hs2, VR.slc hp hc hfit⟩
  split
  · -- nil
    cases hv
    split
    · have hfit : (0 : Nat) + 0 ≤ 0 := by omega
      have hr := FITS (none) 0 0 hfit
      exact ⟨_, w, ρ, hr, Ex.refl nx ρ, s, .snil⟩
    · rename_i n' hn0
      by_cases hlim : 0 + n ≤ 1048576
      · have hfit : ¬ (0 + n ≤ 0) := by
          intro hh
          have : n = 0 := by omega
          exact hn0 this
        obtain ⟨cap, hcap, hr⟩ := GROWS (none) 0 0 hfit hlim ([]) (fun w' _ => rfl)
        exact grow_ok (t0 := .leaf) (len := 0) (z := z.cells.toList) s hnr (by simp) (fun j v hj => by omega) hnl hzs hcap hsml hr
      · unfold growTo
        have : Nat.ble (Nat.add 0 n) 1048576 = false := by
          cases hh : Nat.ble (Nat.add 0 n) 1048576 with
          | false => rfl
          | true => exact absurd (Nat.le_of_ble_eq_true hh) hlim
        rw [this]; trivial
  · rename_i b o len e
    cases hv with
    | slc hp hc hn =>
      rename_i c p
      have growOK : ∀ {t0 : T Value} {hh : T AObj}, SI (envOf P).N U ws ρ hh nx w → oldTree h b o (len * et.size) = some t0 → ¬ (len + n ≤ c) →
          EV P (Builtin.append_ ts t #[.slice (some ⟨p.B, p.S + o, none⟩) len c, x']) (envOf P).N U ws ρ nx w (growTo hh nx t0 new len n et.size elem) := by
        intro t0 hh s' hot hfit
        obtain ⟨tt, nb, es, hg, hle, hsub⟩ := oldTree_spec hot
        obtain ⟨ob, hob, hor⟩ := s.rel _ _ _ hg hp
        obtain ⟨old', ho1, ho2, ho3⟩ := cells_there (P := P) hor hle
        by_cases hlim : len + n ≤ 1048576
        · obtain ⟨cap, hcap, hr⟩ := GROWS (some ⟨p.B, p.S + o, none⟩) len c hfit hlim (old')
            (fun w' hw' => ho3 w' (by rw [hw']; exact hob))
          exact grow_ok (z := z.cells.toList) s' hnr ho1 (fun j v hj hv => ho2 j v hj (hsub j v hj hv)) hnl hzs hcap hsml hr
        · unfold growTo
          have : Nat.ble (Nat.add len n) 1048576 = false := by
            cases hh : Nat.ble (Nat.add len n) 1048576 with
            | false => rfl
            | true => exact absurd (Nat.le_of_ble_eq_true hh) hlim
          rw [this]; trivial
      split
      · rename_i he
        have he : e % 2 = 1 := Nat.eq_of_beq_eq_true he
        have hck : c = e / 2 := by have hc' := hc; unfold capR at hc'; rw [if_pos he] at hc'; exact hc'
        split
        · rename_i hfit
          have hfit : len + n ≤ e / 2 := Nat.le_of_ble_eq_true hfit
          exact inPlaceOK hp hc (by rw [hck]; exact hfit)
        · rename_i hfit
          have hfit : ¬ (len + n ≤ c) := fun hh => by
            have : Nat.ble (Nat.add len n) (Nat.div e 2) = true := Nat.ble_eq_true_of_le (by rw [hck] at hh; exact hh)
            rw [this] at hfit; cases hfit
          split
          · rename_i t0 hot
            exact growOK s hot hfit
          · trivial
      · rename_i he
        have he : ¬ e % 2 = 1 := Nat.ne_of_beq_eq_false he
        have hck : c + e / 2 = p.C := by have hc' := hc; unfold capR at hc'; rw [if_neg he] at hc'; exact hc'
        obtain ⟨k1, k2⟩ := known_le (sz := et.size) s hp hck hn
        split
        · rename_i hfit
          have hfit : len + n ≤ known h b (e / 2) et.size len := Nat.le_of_ble_eq_true hfit
          exact inPlaceOK hp hc (by omega)
        · split
          · trivial
          rename_i hconds
          simp only [Bool.and_eq_true] at hconds
          obtain ⟨hN, ho, h1c⟩ := hconds
          have hN := Nat.le_of_ble_eq_true hN
          have ho : o = e / 2 * et.size := Nat.eq_of_beq_eq_true ho
          split
          case h_2 => trivial
          rename_i tt nb es hg
          split
          case h_2 => trivial
          rename_i hes
          have hes := Nat.eq_of_beq_eq_true hes
          split
          case h_2 => trivial
          rename_i t0 hot
          by_cases hfit : len + n ≤ c
          · -- in place: the new picture lies in the old one's block
            obtain ⟨tt2, nb2, es2, hg2, hle, hsub⟩ := oldTree_spec hot
            have hle : o + len * et.size ≤ nb2 := hle
            rw [hg] at hg2
            cases hg2
            obtain ⟨ob, hob, hor⟩ := s.rel _ _ _ hg hp
            obtain ⟨C, el, fz, rfl, g1, g2, g3, g4, g5⟩ := hor
            have hlr := hnr.length
            have hr := FITS (some ⟨p.B, p.S + o, none⟩) len c hfit
            have e1 : (⟨p.B, p.S + o, none⟩ : Addr).add (len * et.size) = ⟨p.B, p.S + (o + len * et.size), none⟩ := by rw [add_mk, Nat.add_assoc]
            simp only [e1] at hr
            have hroom : p.S + (o + len * et.size) + new'.length ≤ C.size := by
              have e2 : o + len * et.size + new'.length = (e / 2 + (len + n)) * et.size := by
                rw [← hlr, hnl, ho, Nat.add_mul, Nat.add_mul]; omega
              have e3 : (e / 2 + (len + n)) * et.size ≤ p.C * et.size := Nat.mul_le_mul_right _ (by omega)
              rw [hes, esz_row hsml] at g2
              omega
            have hst2 := run_stores_at (P := P) new' 0 C w hob (p.S + (o + len * et.size)) (by omega) (fun j hj hj' => g4 j (by omega) hj') (hnr.oneCells (oneCells_spec _ h1c))
            rw [hst2] at hr
            unfold growTo
            split
            case h_2 => trivial
            let q : Pl := ⟨p.B, p.S + o, c⟩
            have hnx := s.nx_none (Nat.le_refl nx)
            have hex := ext_upd (p := q) hnx
            have hor2 : OR (upd ρ nx q) q (rowObj t0 new (len * et.size) (len + n) et.size elem) (.cells (over C (p.S + (o + len * et.size) + 0) new') el fz) := by
              refine ⟨_, el, fz, rfl, ?_, ?_, fun i u hi hu => ?_, fun i hi hi' => g4 i (by show p.S ≤ i; have : p.S + o ≤ i := hi; omega) (by rwa [over_size] at hi'), .inr (by show (len + n) * et.size ≤ c * esz (rowC elem et.size); rw [esz_row hsml]; exact Nat.mul_le_mul_right _ hfit), by have := g5.2; rw [hes] at this; exact this.same (by rw [esz_row hsml]; omega)⟩
              · rw [over_size]
                show p.S + o + (len + n) * et.size ≤ C.size
                have : (len + n) * et.size = len * et.size + new'.length := by rw [← hlr, hnl, Nat.add_mul]
                omega
              · rw [over_size]
                show p.S + o + c * esz (rowC elem et.size) ≤ C.size
                rw [esz_row hsml]
                have e3 : (e / 2 + c) * et.size = p.C * et.size := by rw [← hck]; congr 1; omega
                rw [Nat.add_mul] at e3
                rw [hes, esz_row hsml] at g2
                omega
              · have hi : i < (len + n) * et.size := hi
                rw [setN_get] at hu
                show ∃ v', (over C (p.S + (o + len * et.size) + 0) new')[p.S + o + i]? = some v' ∧ _
                rw [over_get _ _ _ _ (by omega)]
                split at hu
                · rename_i hin
                  obtain ⟨v', ev, r⟩ := hnr.get? hu
                  rw [if_pos (by omega)]
                  refine ⟨v', ?_, r.mono hex⟩
                  rw [show p.S + o + i - (p.S + (o + len * et.size) + 0) = i - len * et.size by omega]; exact ev
                · rename_i hout
                  have hi2 : i < len * et.size := by
                    have : (len + n) * et.size = len * et.size + new.length := by rw [hnl, Nat.add_mul]
                    omega
                  rw [if_neg (by omega)]
                  obtain ⟨v', ev, r⟩ := g3 (o + i) u (by omega) (hsub i u hi2 hu)
                  exact ⟨v', by rw [Nat.add_assoc]; exact ev, r.mono hex⟩
            have s2 := s.graft hN hg hp (q := q) rfl hor2
            refine ⟨_, _, upd ρ nx q, hr, Ex.upd hnx, s2, ?_⟩
            have := VR.slc (ρ := upd ρ nx q) (o := 0) (n := len + n) (e := 0) (c := c) (upd_self ρ nx q) (by unfold capR; simp [q]) hfit
            exact this
          · exact growOK (s.kill b) hot hfit
  · trivial
end
end Go.Proofs.YtmiojdppkooikaaGreatDoor.Abs
namespace Go.Proofs.YtmiojdppkooikaaGreatDoor.Abs
open Go

section
variable {P : Program} {N : Nat} {U : Nat → Prop} {ws : World} {ρ : Ren} {h : T AObj} {nx : Nat} {w : World}

/- ---------- copy ---------- -/
noncomputable def takeF {α : Type} (l : List α) : Nat → List α :=
  List.rec (motive := fun _ => Nat → List α) (fun _ => []) (fun x _ ih n => match n with
    | 0 => []
    | m + 1 => x :: ih m) l
theorem takeF_eq {α : Type} : ∀ (l : List α) (n : Nat), takeF l n = l.take n
  | [], n => by simp; rfl
  | x :: l, 0 => rfl
  | x :: l, n + 1 => by
    show x :: takeF l n = _
    rw [takeF_eq l n]; rfl
/-- the first so many cells of what is copied. -/
noncomputable def firsts (h : T AObj) (size : Nat) (x : Value) (dLen : Nat) : Option (Nat × List Value) :=
  match x with
  | .slice none 0 0 => some (0, [])
  | .slice (some ⟨b, o, none⟩) n _ => match h.get b with
    | some (.cells t nb _) => match Nat.ble (Nat.add o (Nat.mul (Nat.min n dLen) size)) nb with
      | true => match getN t (Nat.mul (Nat.min n dLen) size) o with
        | some l => some (Nat.min n dLen, l)
        | none => none
      | false => none
    | _ => none
  | .string st => some (Nat.min (lenF (bL st)) dLen, byteVals (takeF (bL st) (Nat.min (lenF (bL st)) dLen)))
  | _ => none
theorem firsts_ok (s : SI N U ws ρ h nx w) {x x' : Value} (hx : VR ρ x x') {size n dLen : Nat} {new : List Value} (ha : firsts h size x dLen = some (n, new)) :
    ∃ new' m, LR ρ new new' ∧ (Builtin.lenOf x').run P w = .ok m w ∧ n = Nat.min m dLen ∧ (Builtin.firstCells size n x').run P w = .ok new'.toArray w := by
  unfold firsts at ha
  split at ha
  · cases ha
    cases hx
    exact ⟨[], 0, .nil, rfl, by simp [Nat.min], rfl⟩
  · rename_i b o n' _
    split at ha
    case h_2 => cases ha
    rename_i tt nb es hg
    split at ha
    case h_2 => cases ha
    rename_i hle
    have hle : o + (Nat.min n' dLen) * size ≤ nb := Nat.le_of_ble_eq_true hle
    split at ha
    case h_2 => cases ha
    rename_i l hl
    cases ha
    cases hx with
    | slc hp hc hn =>
      obtain ⟨ob, hob, hor⟩ := s.rel _ _ _ hg hp
      obtain ⟨l', h1, h2, h3⟩ := loads_all (P := P) hor hl hle
      exact ⟨l', n', h1, rfl, rfl, h3 w hob⟩
  · rename_i st
    cases ha
    cases hx
    refine ⟨_, st.size, LR.bytes ρ _, rfl, by rw [lenF_eq, ← size_bL], ?_⟩
    simp only [Builtin.firstCells, Sem.run_pure]
    congr 1
    apply Array.ext'
    rw [extract_bL]
    simp [byteVals_eq, bL, mkB, takeF_eq]
  · cases ha
noncomputable def eCopy (E : Env) (h : T AObj) (nx dTy : Nat) (d x : Value) : ER :=
  match E.ti dTy with
  | some dt => match dt.desc with
    | .slice elem => match E.ti elem with
      | some et => match d with
        | .slice none 0 0 => match firsts h et.size x 0 with
          | some (n, _) => .val (.int .i64 (.ofNat n)) h nx
          | none => .fail
        | .slice (some ⟨b, o, none⟩) dLen _ => match firsts h et.size x dLen with
          | some (n, l) => match putCells E.N h b o l with
            | some h' => .val (.int .i64 (.ofNat n)) h' nx
            | none => .fail
          | none => .fail
        | _ => .fail
      | none => .fail
    | _ => .fail
  | none => .fail
theorem eCopy_ok (s : SI (envOf P).N U ws ρ h nx w) {ts : Array TypeId} {t dTy : TypeId} (h0 : ts[0]? = some dTy) {d d' x x' : Value} (hd : VR ρ d d') (hx : VR ρ x x') :
    EV P (Builtin.copy_ ts t #[d', x']) (envOf P).N U ws ρ nx w (eCopy (envOf P) h nx dTy d x) := by
  unfold eCopy
  split
  case h_2 => trivial
  rename_i dt hdt
  have hdt := ti_ok hdt
  split
  case h_2 => trivial
  rename_i elem hdd
  split
  case h_2 => trivial
  rename_i et het
  have het := ti_ok het
  have hu := hdt.run_und (w := w)
  rw [hdd] at hu
  have g0 : (#[d', x'] : Array Value)[0]? = some d' := rfl
  have g1 : (#[d', x'] : Array Value)[1]? = some x' := rfl
  split
  · cases hd
    split
    · rename_i n l hf
      obtain ⟨new', m, f1, f2, f3, f4⟩ := firsts_ok (P := P) s hx hf
      refine ⟨_, w, ρ, ?_, Ex.refl nx ρ, s, .int _ _⟩
      unfold Builtin.copy_
      subst f3
      simp only [h0, g0, g1, Sem.run_bind, hu, Result.andThen_ok, f2, het.run_size, f4, Sem.run_pure]
      rfl
    · trivial
  · rename_i b o dLen _
    split
    case h_2 => trivial
    rename_i n l hf
    obtain ⟨new', m, f1, f2, f3, f4⟩ := firsts_ok (P := P) s hx hf
    split
    case h_2 => trivial
    rename_i h' hput
    cases hd with
    | slc hp hc hn =>
      obtain ⟨w', g2, g3⟩ := putCells_ok (P := P) s f1 hp hput
      refine ⟨_, w', ρ, ?_, Ex.refl nx ρ, g3, .int _ _⟩
      unfold Builtin.copy_
      subst f3
      simp only [h0, g0, g1, Sem.run_bind, hu, Result.andThen_ok, f2, het.run_size, f4, g2, Sem.run_pure]
      rfl
  · trivial

/- ---------- maps ---------- -/
noncomputable def modL (es : List MapEntry) (f : MapEntry → MapEntry) : Nat → List MapEntry :=
  List.rec (motive := fun _ => Nat → List MapEntry) (fun _ => []) (fun e l ih i => match i with
    | 0 => f e :: l
    | j + 1 => e :: ih j) es
noncomputable def delL (es : List MapEntry) : Nat → List MapEntry :=
  List.rec (motive := fun _ => Nat → List MapEntry) (fun _ => []) (fun e l ih i => match i with
    | 0 => l
    | j + 1 => e :: ih j) es
theorem modL_eq (f : MapEntry → MapEntry) : ∀ (es : List MapEntry) (i : Nat), modL es f i = es.modify i f
  | [], i => by show [] = _; cases i <;> rfl
  | e :: l, 0 => rfl
  | e :: l, i + 1 => by show e :: modL l f i = _; rw [modL_eq f l i]; rfl
theorem delL_eq : ∀ (es : List MapEntry) (i : Nat), delL es i = es.eraseIdx i
  | [], i => by show [] = _; cases i <;> rfl
  | e :: l, 0 => rfl
  | e :: l, i + 1 => by show e :: delL l i = _; rw [delL_eq l i]; rfl
theorem EsR.modify {f f' : MapEntry → MapEntry} (hf : ∀ e e', EnR ρ e e' → EnR ρ (f e) (f' e')) : ∀ {es es' : List MapEntry}, EsR ρ es es' → ∀ i, EsR ρ (es.modify i f) (es'.modify i f') := by
  intro es es' h
  induction h with
  | nil => intro i; cases i <;> exact .nil
  | cons he ht ih =>
    intro i
    cases i with
    | zero => exact .cons (hf _ _ he) ht
    | succ i => exact .cons he (ih i)
theorem EsR.erase : ∀ {es es' : List MapEntry}, EsR ρ es es' → ∀ i, EsR ρ (es.eraseIdx i) (es'.eraseIdx i) := by
  intro es es' h
  induction h with
  | nil => intro i; cases i <;> exact .nil
  | cons he ht ih =>
    intro i
    cases i with
    | zero => exact ht
    | succ i => exact .cons he (ih i)
theorem EsR.append {l l' m m' : List MapEntry} (h : EsR ρ l l') (k : EsR ρ m m') : EsR ρ (l ++ m) (l' ++ m') := by
  induction h with
  | nil => exact k
  | cons h _ ih => exact .cons h ih
theorem EsR.get? {es es' : List MapEntry} (h : EsR ρ es es') : ∀ {i : Nat} {e : MapEntry}, es[i]? = some e → ∃ e', es'[i]? = some e' ∧ EnR ρ e e' := by
  induction h with
  | nil => intro i v h; simp at h
  | cons h _ ih =>
    intro i v e
    cases i with
    | zero => simp at e; subst e; exact ⟨_, by simp, h⟩
    | succ i => simp at e; simpa using ih e
/-- does the key stay as it is? -/
noncomputable def stays (d : TypeDesc) (old new : Value) : Bool :=
  match simpleKey d with
  | true => match sameS d old new with
    | some b => b
    | none => false
  | false => match pureV 3 old with
    | true => match pureV 3 new with
      | true => Instr.sameBits 10000 old new
      | false => false
    | false => false
theorem stays_ok {d : TypeDesc} {old new old' new' : Value} (ho : VR ρ old old') (hn : VR ρ new new') (h : stays d old new = true) :
    (Instr.keyThatStays old' new').run P w = .ok new' w := by
  have : Instr.sameBits 10000 old' new' = true := by
    unfold stays at h
    split at h
    · split at h
      · rename_i b hs
        have hs := sameS_ok ho hn hs
        subst h
        unfold Instr.sameNow at hs
        split at hs
        · split at hs
          · rename_i hk
            simp only [Option.some.injEq] at hs
            unfold Instr.sameBits
            simp [hk, hs]
          · cases hs
        · rename_i a b
          unfold Instr.sameBits
          simpa using hs
        · rename_i a b
          unfold Instr.sameBits
          simpa using hs
        · cases hs
      · cases h
    · split at h
      · rename_i h1
        split at h
        · rename_i h2
          rw [pureV_eq h1 ho, pureV_eq h2 hn]; exact h
        · cases h
      · cases h
  unfold Instr.keyThatStays
  rw [this]
  simp

theorem SI.setMap (s : SI N U ws ρ h nx w) {b : Nat} {p : Pl} (hN : N ≤ b) (hp : ρ b = some p) {es : List MapEntry} {clk : Nat} (hg : h.get b = some (.map es clk)) {es2 : List MapEntry} {es2' : Array MapEntry} {clk2 : Nat}
    (hr : EsR ρ es2 es2'.toList) :
    ∃ w', (setObj p.B (.map es2' clk2)).run P w = .ok () w' ∧ SI N U ws ρ (h.set b (.map es2 clk2)) nx w' := by
  obtain ⟨c, hc, h0, es', rfl, he⟩ := s.rel b _ p hg hp
  refine ⟨{ w with heap := w.heap.setIfInBounds p.B (.map es2' clk2) }, ?_, s.write hN hg hp ⟨h0, es2', rfl, hr⟩⟩
  simp only [setObj, Sem.run, hc]

noncomputable def eMapUpdate (P : Program) (E : Env) (h : T AObj) (nx ty : Nat) (m k v : Value) : ER :=
  match E.ti ty with
  | some x => match x.desc with
    | .map key _ => match E.ti key with
      | some kt => match m with
        | .map (some b) => match Nat.ble E.N b with
          | true => match h.get b with
            | some (.map es clk) => match keyOK P kt.desc false key k with
              | true => match aFind P kt.desc key k es with
                | some (some (i, _)) => match nth es i with
                  | some e => match stays kt.desc e.key k with
                    | true => .skip (h.set b (.map (modL es (fun e => { e with key := k, val := v }) i) clk)) nx
                    | false => .fail
                  | none => .fail
                | some none => .skip (h.set b (.map (es ++ [{ key := k, val := v, born := clk }]) (Nat.add clk 1))) nx
                | none => .fail
              | false => .fail
            | _ => .fail
          | false => .fail
        | _ => .fail
      | none => .fail
    | _ => .fail
  | none => .fail
theorem eMapUpdate_ok (s : SI (envOf P).N U ws ρ h nx w) {ty : Nat} {m m' k k' v v' : Value} (hm : VR ρ m m') (hk : VR ρ k k') (hv : VR ρ v v') :
    EN P (do Instr.mapUpdate ty m' k' v'; pure .skip) (envOf P).N U ws ρ nx w (eMapUpdate P (envOf P) h nx ty m k v) := by
  unfold eMapUpdate
  split
  case h_2 => trivial
  rename_i x hx
  have hx := ti_ok hx
  split
  case h_2 => trivial
  rename_i key elem hd
  split
  case h_2 => trivial
  rename_i kt hkt
  have hkt := ti_ok hkt
  split
  case h_2 => trivial
  rename_i b
  split
  case h_2 => trivial
  rename_i hN
  have hN := Nat.le_of_ble_eq_true hN
  split
  case h_2 => trivial
  rename_i es clk hg
  split
  case h_2 => trivial
  rename_i hck
  have hck := keyOK_ok hkt hk hck w
  have hu := hx.run_und (w := w)
  rw [hd] at hu
  cases hm with
  | mp hp =>
    rename_i p
    obtain ⟨es', g1, g2, g3⟩ := s.getMap (P := P) hp hg
    split
    · rename_i i v0 hf
      obtain ⟨r', f1, f2⟩ := aFind_ok hkt hk g2 hf w
      cases r' with
      | none => exact f2.elim
      | some iv =>
        obtain ⟨j, v0'⟩ := iv
        obtain ⟨rfl, _⟩ := f2
        split
        case h_2 => trivial
        rename_i e he
        rw [nth_eq] at he
        obtain ⟨e', he', her⟩ := g2.get? he
        split
        case h_2 => trivial
        rename_i hst
        have hst := stays_ok (P := P) (w := w) her.key hk hst
        have he2 : es'[i]? = some e' := by simpa using he'
        have hr2 : EsR ρ (modL es (fun e => { e with key := k, val := v }) i) (es'.modify i fun e => { e with key := k', val := v' }).toList := by
          rw [modL_eq, Array.toList_modify]
          refine EsR.modify ?_ g2 i
          intro e e' h
          exact ⟨hk, hv, h.born⟩
        obtain ⟨w', t1, t2⟩ := s.setMap (P := P) (clk2 := clk) hN hp hg hr2
        refine ⟨w', ρ, ?_, Ex.refl nx ρ, t2⟩
        unfold Instr.mapUpdate
        simp only [Sem.run_bind, hu, Result.andThen_ok, g3, hck, f1, he2, Option.map_some, Option.getD_some, hst, t1, Sem.run_pure]
    · rename_i hf
      obtain ⟨r', f1, f2⟩ := aFind_ok hkt hk g2 hf w
      cases r' with
      | some iv => exact f2.elim
      | none =>
        have hr2 : EsR ρ (es ++ [{ key := k, val := v, born := clk }]) (es'.push { key := k', val := v', born := clk }).toList := by
          rw [Array.toList_push]
          exact g2.append (.cons ⟨hk, hv, rfl⟩ .nil)
        obtain ⟨w', t1, t2⟩ := s.setMap (P := P) (clk2 := clk + 1) hN hp hg hr2
        refine ⟨w', ρ, ?_, Ex.refl nx ρ, t2⟩
        unfold Instr.mapUpdate
        simp only [Sem.run_bind, hu, Result.andThen_ok, g3, hck, f1, t1, Sem.run_pure]
    · trivial

noncomputable def eDelete (P : Program) (E : Env) (h : T AObj) (nx ty : Nat) (m k : Value) : ER :=
  match E.ti ty with
  | some x => match x.desc with
    | .map key _ => match E.ti key with
      | some kt => match m with
        | .map none => match keyOK P kt.desc true key k with
          | true => .val (.tuple #[]) h nx
          | false => .fail
        | .map (some b) => match Nat.ble E.N b with
          | true => match h.get b with
            | some (.map es clk) => match keyOK P kt.desc (isNilL es) key k with
              | true => match aFind P kt.desc key k es with
                | some (some (i, _)) => .val (.tuple #[]) (h.set b (.map (delL es i) clk)) nx
                | some none => .val (.tuple #[]) (h.set b (.map es clk)) nx
                | none => .fail
              | false => .fail
            | _ => .fail
          | false => .fail
        | _ => .fail
      | none => .fail
    | _ => .fail
  | none => .fail
theorem isNil_emp {es : List MapEntry} {es' : Array MapEntry} (he : EsR ρ es es'.toList) : es'.isEmpty = isNilL es := by
  have := he.length
  cases es with
  | nil =>
    have h1 : es'.size = 0 := by simp at this; simpa using this.symm
    simp [isNilL, Array.isEmpty, h1]
  | cons a l =>
    have h1 : es'.size ≠ 0 := by simp at this; omega
    simpa [isNilL, Array.isEmpty] using h1
theorem eDelete_ok (s : SI (envOf P).N U ws ρ h nx w) {ts : Array TypeId} {t ty : TypeId} (h0 : ts[0]? = some ty) {m m' k k' : Value} (hm : VR ρ m m') (hk : VR ρ k k') :
    EV P (Builtin.delete_ ts t #[m', k']) (envOf P).N U ws ρ nx w (eDelete P (envOf P) h nx ty m k) := by
  have g0 : (#[m', k'] : Array Value)[0]? = some m' := rfl
  have g1' : (#[m', k'] : Array Value)[1]? = some k' := rfl
  unfold eDelete
  split
  case h_2 => trivial
  rename_i x hx
  have hx := ti_ok hx
  split
  case h_2 => trivial
  rename_i key elem hd
  split
  case h_2 => trivial
  rename_i kt hkt
  have hkt := ti_ok hkt
  have hu := hx.run_und (w := w)
  rw [hd] at hu
  split
  · cases hm
    split
    case h_2 => trivial
    rename_i hck
    have hck := keyOK_ok hkt hk hck w
    refine ⟨_, w, ρ, ?_, Ex.refl nx ρ, s, VR.undef ρ⟩
    unfold Builtin.delete_
    simp only [h0, g0, g1', Sem.run_bind, hu, Result.andThen_ok, hck, Sem.run_pure]
    rfl
  · rename_i b
    split
    case h_2 => trivial
    rename_i hN
    have hN := Nat.le_of_ble_eq_true hN
    split
    case h_2 => trivial
    rename_i es clk hg
    split
    case h_2 => trivial
    rename_i hck
    have hck := keyOK_ok hkt hk hck w
    cases hm with
    | mp hp =>
      rename_i p
      obtain ⟨es', g1, g2, g3⟩ := s.getMap (P := P) hp hg
      have hemp := isNil_emp g2
      split
      · rename_i i v0 hf
        obtain ⟨r', f1, f2⟩ := aFind_ok hkt hk g2 hf w
        cases r' with
        | none => exact f2.elim
        | some iv =>
          obtain ⟨j, v0'⟩ := iv
          obtain ⟨rfl, _⟩ := f2
          have hr2 : EsR ρ (delL es i) (es'.eraseIdxIfInBounds i).toList := by
            rw [delL_eq, Array.toList_eraseIdxIfInBounds]
            exact g2.erase i
          obtain ⟨w', t1, t2⟩ := s.setMap (P := P) (clk2 := clk) hN hp hg hr2
          refine ⟨_, w', ρ, ?_, Ex.refl nx ρ, t2, VR.undef ρ⟩
          unfold Builtin.delete_
          simp only [h0, g0, g1', Sem.run_bind, hu, Result.andThen_ok, g3, hemp, hck, f1, t1, Sem.run_pure]
          rfl
      · rename_i hf
        obtain ⟨r', f1, f2⟩ := aFind_ok hkt hk g2 hf w
        cases r' with
        | some iv => exact f2.elim
        | none =>
          obtain ⟨w', t1, t2⟩ := s.setMap (P := P) (clk2 := clk) hN hp hg g2
          refine ⟨_, w', ρ, ?_, Ex.refl nx ρ, t2, VR.undef ρ⟩
          unfold Builtin.delete_
          simp only [h0, g0, g1', Sem.run_bind, hu, Result.andThen_ok, g3, hemp, hck, f1, t1, Sem.run_pure]
          rfl
      · trivial
  · trivial
end
end Go.Proofs.YtmiojdppkooikaaGreatDoor.Abs
namespace Go.Proofs.YtmiojdppkooikaaGreatDoor.Abs
open Go

noncomputable def hasN (l : List Nat) (n : Nat) : Bool := List.rec (motive := fun _ => Bool) false (fun x _ ih => match Nat.beq x n with
  | true => true
  | false => ih) l
theorem hasN_eq (n : Nat) : ∀ (l : List Nat), hasN l n = l.contains n
  | [] => rfl
  | x :: l => by
    show (match Nat.beq x n with | true => true | false => hasN l n) = _
    rw [hasN_eq n l]
    cases h : Nat.beq x n with
    | true => have := Nat.eq_of_beq_eq_true h; simp [this]
    | false =>
      have := Nat.ne_of_beq_eq_false h
      have h2 : ¬ n = x := fun e => this e.symm
      simp [h2]
noncomputable def filtE (p : Nat → Bool) (es : List MapEntry) : List MapEntry := List.rec (motive := fun _ => List MapEntry) [] (fun e _ ih => match p e.born with
  | true => e :: ih
  | false => ih) es
theorem filtE_EsR {ρ : Ren} {p : Nat → Bool} {q : MapEntry → Bool} : ∀ {es es' : List MapEntry}, EsR ρ es es' → (∀ e ∈ es', q e = p e.born) → EsR ρ (filtE p es) (es'.filter q) := by
  intro es es' h
  induction h with
  | nil => intro _; exact .nil
  | cons he ht ih =>
    rename_i e e' l l'
    intro hq
    have h1 := hq e' (by simp)
    show EsR ρ (match p e.born with | true => e :: filtE p l | false => filtE p l) _
    rw [List.filter_cons, h1, he.born]
    cases p e.born with
    | true => exact .cons he (ih fun x hx => hq x (by simp [hx]))
    | false => exact ih fun x hx => hq x (by simp [hx])
noncomputable def allE (p : Nat → Bool) (es : List MapEntry) : Bool := List.rec (motive := fun _ => Bool) true (fun e _ ih => match p e.born with
  | true => ih
  | false => false) es
theorem allE_eq {ρ : Ren} {p : Nat → Bool} {q : MapEntry → Bool} : ∀ {es es' : List MapEntry}, EsR ρ es es' → (∀ e ∈ es', q e = p e.born) → es'.all q = allE p es := by
  intro es es' h
  induction h with
  | nil => intro _; rfl
  | cons he ht ih =>
    rename_i e e' l l'
    intro hq
    have h1 := hq e' (by simp)
    show _ = (match p e.born with | true => allE p l | false => false)
    rw [List.all_cons, h1, he.born, ih fun x hx => hq x (by simp [hx])]
    cases p e.born <;> rfl

/-- one candidate more. -/
noncomputable def stepTo (h : T AObj) (b m since : Nat) (seen : Array Nat) (clk : Nat) (e : MapEntry) : Value × T AObj :=
  (.tuple #[.bool true, e.key, e.val], h.set b (.mIter (some m) since ⟨seen.toList ++ [e.born]⟩ clk))
noncomputable def mapE (f : MapEntry → Value × T AObj) (es : List MapEntry) : List (Value × T AObj) := List.rec (motive := fun _ => List (Value × T AObj)) [] (fun e _ ih => f e :: ih) es
theorem mapE_eq (f : MapEntry → Value × T AObj) : ∀ es, mapE f es = es.map f
  | [] => rfl
  | e :: es => by show f e :: mapE f es = _; rw [mapE_eq f es]; rfl
noncomputable def cands (h : T AObj) (b m since : Nat) (seen : Array Nat) (clk : Nat) (es : List MapEntry) : List (Value × T AObj) :=
  let left := filtE (fun n => not (hasN seen.toList n)) es
  let old := filtE (fun n => Nat.blt n since) left
  let new := filtE (fun n => Nat.ble since n) left
  match old with
  | [] => (.tuple #[.bool false], h) :: mapE (stepTo h b m since seen clk) new
  | _ :: _ => mapE (stepTo h b m since seen clk) (old ++ new)
noncomputable def oneOf (l : List (Value × T AObj)) (nx : Nat) : ER :=
  match l with
  | [] => .fail
  | x :: r => match r with
    | [] => .val x.1 x.2 nx
    | _ :: _ => .alts (x :: r) nx
noncomputable def eNext (N : Nat) (h : T AObj) (nx : Nat) (it : Value) (isString : Bool) : ER :=
  match isString with
  | true => .fail
  | false => match it with
    | .pointer (some ⟨b, 0, none⟩) => match Nat.ble N b with
      | true => match h.get b with
        | some (.mIter none _ _ _) => .val (.tuple #[.bool false]) h nx
        | some (.mIter (some m) since seen last) => match h.get m with
          | some (.map es clk) => match and (not (isNilL seen.toList)) (and (not (isNilL es)) (allE (fun n => Nat.ble last n) es)) with
            | true => .fail
            | false => oneOf (cands h b m since seen clk es) nx
          | _ => .fail
        | _ => .fail
      | false => .fail
    | _ => .fail

section
variable {P : Program} {N : Nat} {U : Nat → Prop} {ws : World} {ρ : Ren} {h : T AObj} {nx : Nat} {w : World}
theorem EsR.of_filter {es es' : List MapEntry} (he : EsR ρ es es') : es.length = es'.length := he.length
theorem oneOf_ok {sem : Sem Value} {l : List (Value × T AObj)} {v : Value} {h' : T AObj} (hm : (v, h') ∈ l) {v' : Value} {w' : World} (hr : sem.run P w = .ok v' w') (hs : SI N U ws ρ h' nx w') (hv : VR ρ v v') :
    EV P sem N U ws ρ nx w (oneOf l nx) := by
  unfold oneOf
  split
  · cases hm
  · rename_i x r
    split
    · have : (v, h') = x := by simpa using hm
      subst this
      exact ⟨v', w', ρ, hr, Ex.refl nx ρ, hs, hv⟩
    · exact ⟨v, h', v', w', ρ, hm, hr, Ex.refl nx ρ, hs, hv⟩
theorem eNext_ok (s : SI N U ws ρ h nx w) {it it' : Value} (hi : VR ρ it it') {isString : Bool} {t : TypeId} : EV P (Instr.next it' isString t) N U ws ρ nx w (eNext N h nx it isString) := by
  unfold eNext
  split
  · trivial
  split
  case h_2 => trivial
  rename_i b
  split
  case h_2 => trivial
  rename_i hN
  have hN := Nat.le_of_ble_eq_true hN
  cases hi with
  | ptr hp =>
    rename_i p
    split
    · rename_i since seen st hg
      obtain ⟨c, hc, h0, rfl⟩ := s.rel b _ p hg hp
      refine ⟨.tuple #[.bool false], w, ρ, ?_, Ex.refl nx ρ, s, VR.tuple_iff.2 ⟨_, rfl, AR.of_LR (.cons (.bool false) .nil)⟩⟩
      have e0 : p.S + 0 = 0 := by omega
      have hgo : (getObj p.B).run P w = .ok (.mapIter none since seen st) w := by simp only [getObj, Sem.run, hc]
      unfold Instr.next
      simp only [e0, Sem.run_bind, hgo, Result.andThen_ok]
      rfl
    · rename_i m since seen last hg
      split
      case h_2 => trivial
      rename_i es clk hm
      split
      · trivial
      rename_i hguard
      obtain ⟨h0, q, hq, hc, hgo⟩ := s.getIter (P := P) hp hg
      obtain ⟨es', g1, g2, g3⟩ := s.getMap (P := P) hq hm
      have e0 : p.S + 0 = 0 := by omega
      have hseen : seen.isEmpty = isNilL seen.toList := by
        obtain ⟨l⟩ := seen
        cases l <;> rfl
      have hall : (es'.all fun e => decide (e.born ≥ last)) = allE (fun n => Nat.ble last n) es := by
        rw [← Array.all_toList]
        exact allE_eq g2 fun e _ => by
          cases hb : Nat.ble last e.born with
          | true => simpa using Nat.le_of_ble_eq_true hb
          | false =>
            have : ¬ last ≤ e.born := fun hle => by rw [Nat.ble_eq_true_of_le hle] at hb; cases hb
            simpa using this
      have hg2 : (!seen.isEmpty && !es'.isEmpty && (es'.all fun e => decide (e.born ≥ last))) = false := by
        rw [hseen, isNil_emp g2, hall]
        rw [← hguard]
        cases isNilL seen.toList <;> cases isNilL es <;> rfl
      -- the candidates
      have hl : EsR ρ (filtE (fun n => not (hasN seen.toList n)) es) (es'.filter fun e => !seen.contains e.born).toList := by
        rw [Array.toList_filter]
        exact filtE_EsR g2 fun e _ => by rw [hasN_eq]; simp
      have ho : EsR ρ (filtE (fun n => Nat.blt n since) (filtE (fun n => not (hasN seen.toList n)) es)) ((es'.filter fun e => !seen.contains e.born).filter fun e => decide (e.born < since)).toList := by
        rw [Array.toList_filter]
        exact filtE_EsR hl fun e _ => by rw [blt_dec]
      have hn : EsR ρ (filtE (fun n => Nat.ble since n) (filtE (fun n => not (hasN seen.toList n)) es)) ((es'.filter fun e => !seen.contains e.born).filter fun e => decide (e.born ≥ since)).toList := by
        rw [Array.toList_filter]
        exact filtE_EsR hl fun e _ => by
          cases hb : Nat.ble since e.born with
          | true => simpa using Nat.le_of_ble_eq_true hb
          | false =>
            have : ¬ since ≤ e.born := fun hle => by rw [Nat.ble_eq_true_of_le hle] at hb; cases hb
            simpa using this
      generalize hL' : (es'.filter fun e => !seen.contains e.born) = L' at ho hn hl
      generalize hO' : (L'.filter fun e => decide (e.born < since)) = O' at ho
      generalize hW' : (L'.filter fun e => decide (e.born ≥ since)) = W' at hn
      have hrun : ∀ (cs : Array (Option MapEntry)), cs = (if O'.isEmpty then #[none] else #[]) ++ (O' ++ W').map some → 0 < cs.size →
          ∃ (k d : Nat) (c : Option MapEntry), cs[k]? = some c ∧ (Instr.next (.pointer (some ⟨p.B, p.S + 0, none⟩)) false t).run P w = (match c with
            | some e => ((setObj p.B (.mapIter (some q.B) since (seen.push e.born) clk)).run P { w with drawn := d }).andThen fun _ w' => .ok (.tuple #[.bool true, e.key, e.val]) w'
            | none => .ok (.tuple #[.bool false]) { w with drawn := d }) := by
        intro cs hcs hpos
        have hch : ∃ k d, k < cs.size ∧ (choose (.mapNext cs.size)).run P w = .ok k { w with drawn := d } := by
          rw [run_choose]
          by_cases hf : (Question.mapNext cs.size).forced = true
          · rw [if_pos hf]; exact ⟨0, w.drawn, hpos, rfl⟩
          · rw [if_neg hf]; exact ⟨_, w.drawn + 1, Nat.mod_lt _ hpos, rfl⟩
        obtain ⟨k, d, hk, hch⟩ := hch
        refine ⟨k, d, cs[k], by simp [hk], ?_⟩
        unfold Instr.next
        simp only [e0, Sem.run_bind, hgo, Result.andThen_ok, g3, hg2, Bool.false_eq_true, if_false, hL', hO', hW', ← hcs, hch]
        have : cs[k]? = some cs[k] := by simp [hk]
        rw [this]
        cases cs[k] with
        | none => rfl
        | some e =>
          simp only [Sem.run_bind, Sem.run_pure]
      have stepOK : ∀ (e e' : MapEntry) (d : Nat), EnR ρ e e' → ∃ w', (setObj p.B (.mapIter (some q.B) since (seen.push e'.born) clk)).run P { w with drawn := d } = .ok () w' ∧
          SI N U ws ρ (stepTo h b m since seen clk e).2 nx w' ∧ VR ρ (stepTo h b m since seen clk e).1 (.tuple #[.bool true, e'.key, e'.val]) := by
        intro e e' d her
        refine ⟨{ w with drawn := d, heap := w.heap.setIfInBounds p.B (.mapIter (some q.B) since (seen.push e'.born) clk) }, ?_, ?_, ?_⟩
        · simp only [setObj, Sem.run, hc]
        · have hs : (⟨seen.toList ++ [e.born]⟩ : Array Nat) = seen.push e'.born := by rw [her.born]; apply Array.ext'; simp
          have := (s.drew d).write hN hg hp (o' := .mIter (some m) since ⟨seen.toList ++ [e.born]⟩ clk) (c := .mapIter (some q.B) since (seen.push e'.born) clk) ⟨h0, q, hq, by rw [hs]⟩
          exact this
        · exact VR.tuple_iff.2 ⟨_, rfl, AR.of_LR (.cons (.bool true) (.cons her.key (.cons her.val .nil)))⟩
      unfold cands
      simp only []
      generalize filtE (fun n => Nat.blt n since) (filtE (fun n => not (hasN seen.toList n)) es) = O at ho
      generalize filtE (fun n => Nat.ble since n) (filtE (fun n => not (hasN seen.toList n)) es) = Wn at hn
      have hOl := ho.length
      split
      · have hO0 : O'.isEmpty = true := by simp at hOl; have : O'.size = 0 := by simpa using hOl.symm
                                           simp [Array.isEmpty, this]
        have hO1 : O' = #[] := by simpa using hO0
        obtain ⟨k, d, c, hk, hr⟩ := hrun _ rfl (by simp [hO0]; omega)
        simp only [hO0, if_true, hO1] at hk
        cases k with
        | zero =>
          have : c = none := by
            rw [Array.getElem?_append_left (by simp)] at hk
            simpa using hk.symm
          subst this
          exact oneOf_ok (List.mem_cons_self ..) hr (s.drew d) (VR.tuple_iff.2 ⟨_, rfl, AR.of_LR (.cons (.bool false) .nil)⟩)
        | succ k =>
          have hk2 : ∃ e', W'.toList[k]? = some e' ∧ c = some e' := by
            rw [Array.getElem?_append_right (by simp)] at hk
            simp at hk
            obtain ⟨e', h1, h2⟩ := hk
            exact ⟨e', by simpa using h1, h2.symm⟩
          obtain ⟨e', h1, rfl⟩ := hk2
          obtain ⟨e, he, her⟩ : ∃ e, Wn[k]? = some e ∧ EnR ρ e e' := by
            have hlen := hn.length
            have hk3 : k < Wn.length := by rw [hlen]; exact (List.getElem?_eq_some_iff.1 h1).1
            obtain ⟨e2, h2, h3⟩ := hn.get? (i := k) (e := Wn[k]) (by simp [hk3])
            rw [h1] at h2; cases h2
            exact ⟨Wn[k], by simp [hk3], h3⟩
          obtain ⟨w', s1, s2, s3⟩ := stepOK e e' d her
          simp only [] at hr
          rw [s1] at hr
          refine oneOf_ok (v := (stepTo h b m since seen clk e).1) (h' := (stepTo h b m since seen clk e).2) ?_ hr s2 s3
          rw [mapE_eq]
          exact List.mem_cons_of_mem _ (List.mem_map.2 ⟨e, List.mem_of_getElem? he, rfl⟩)
      · rename_i o1 ol
        have hO0 : O'.isEmpty = false := by
          have : O'.size ≠ 0 := by simp at hOl; omega
          simpa [Array.isEmpty] using this
        have hsz : 0 < ((O' ++ W').map some).size := by
          simp at hOl; simp; omega
        obtain ⟨k, d, c, hk, hr⟩ := hrun _ rfl (by simp only [hO0, Bool.false_eq_true, if_false]; simpa using hsz)
        simp only [hO0, Bool.false_eq_true, if_false, Array.empty_append] at hk
        have hk2 : ∃ e', (O'.toList ++ W'.toList)[k]? = some e' ∧ c = some e' := by
          rw [Array.getElem?_map] at hk
          cases hx : (O' ++ W')[k]? with
          | none => rw [hx] at hk; cases hk
          | some e' =>
            rw [hx] at hk
            refine ⟨e', ?_, by simpa using hk.symm⟩
            rw [← Array.toList_append, Array.getElem?_toList]; exact hx
        obtain ⟨e', h1, rfl⟩ := hk2
        have hon := ho.append hn
        obtain ⟨e, he, her⟩ : ∃ e, (o1 :: ol ++ Wn)[k]? = some e ∧ EnR ρ e e' := by
          have hlen := hon.length
          have hk3 : k < (o1 :: ol ++ Wn).length := by rw [hlen]; exact (List.getElem?_eq_some_iff.1 h1).1
          obtain ⟨e2, h2, h3⟩ := hon.get? (i := k) (e := (o1 :: ol ++ Wn)[k]) (by simp [hk3])
          rw [h1] at h2; cases h2
          exact ⟨(o1 :: ol ++ Wn)[k], by simp [hk3], h3⟩
        obtain ⟨w', s1, s2, s3⟩ := stepOK e e' d her
        simp only [] at hr
        rw [s1] at hr
        refine oneOf_ok (v := (stepTo h b m since seen clk e).1) (h' := (stepTo h b m since seen clk e).2) ?_ hr s2 s3
        rw [mapE_eq]
        exact List.mem_map.2 ⟨e, List.mem_of_getElem? he, rfl⟩
    · trivial
end
end Go.Proofs.YtmiojdppkooikaaGreatDoor.Abs
namespace Go.Proofs.YtmiojdppkooikaaGreatDoor.Abs
open Go

section
variable {P : Program} {N : Nat} {U : Nat → Prop} {ws : World} {ρ : Ren} {h : T AObj} {nx : Nat} {w : World}

noncomputable def eClear (E : Env) (h : T AObj) (nx ty : Nat) (x : Value) : ER :=
  match E.ti ty with
  | some d => match d.desc with
    | .slice elem => match x with
      | .slice none _ _ => .val (.tuple #[]) h nx
      | .slice (some ⟨b, o, none⟩) n _ => match n with
        | 0 => .val (.tuple #[]) h nx
        | m + 1 => match E.ti elem with
          | some et => match et.zero with
            | some z => match putCells E.N h b o (reps z.cells.toList (Nat.succ m)) with
              | some h' => .val (.tuple #[]) h' nx
              | none => .fail
            | none => .fail
          | none => .fail
      | _ => .fail
    | _ => .fail
  | none => .fail
theorem eClear_ok (s : SI (envOf P).N U ws ρ h nx w) {ts : Array TypeId} {t ty : TypeId} (h0 : ts[0]? = some ty) {x x' : Value} (hx : VR ρ x x') :
    EV P (Builtin.clear_ ts t #[x']) (envOf P).N U ws ρ nx w (eClear (envOf P) h nx ty x) := by
  have g0 : (#[x'] : Array Value)[0]? = some x' := rfl
  unfold eClear
  split
  case h_2 => trivial
  rename_i d hd
  have hd := ti_ok hd
  split
  case h_2 => trivial
  rename_i elem hdd
  have hu := hd.run_und (w := w)
  rw [hdd] at hu
  split
  · cases hx
    refine ⟨_, w, ρ, ?_, Ex.refl nx ρ, s, VR.undef ρ⟩
    unfold Builtin.clear_
    simp only [h0, g0, Sem.run_bind, hu, Result.andThen_ok]
    rfl
  · rename_i b o n _
    cases hx with
    | slc hp hc hn =>
      split
      · refine ⟨_, w, ρ, ?_, Ex.refl nx ρ, s, VR.undef ρ⟩
        unfold Builtin.clear_
        simp only [h0, g0, Sem.run_bind, hu, Result.andThen_ok]
        rfl
      · rename_i m
        split
        case h_2 => trivial
        rename_i et het
        have het := ti_ok het
        split
        case h_2 => trivial
        rename_i z hz
        split
        case h_2 => trivial
        rename_i h' hput
        have hzr := (cells_LR (pureV_VR ρ 3 z (het.pure z hz))).reps (m + 1)
        obtain ⟨w', g2, g3⟩ := putCells_ok (P := P) s hzr hp hput
        refine ⟨_, w', ρ, ?_, Ex.refl nx ρ, g3, VR.undef ρ⟩
        unfold Builtin.clear_
        simp only [h0, g0, Sem.run_bind, hu, Result.andThen_ok, het.run_zero hz, zeroCells_reps]
        rw [g2]
        rfl
  · trivial

noncomputable def eBuiltin (P : Program) (E : Env) (h : T AObj) (nx : Nat) (t : T Value) (c : Call) (b : Builtin) : ER :=
  match b with
  | .append => match c.args.toList with
    | [s, x] => match c.argTypes.toList with
      | [sTy, xTy] => eAppend E h nx sTy (some xTy) (aev t s) (aev t x)
      | [sTy] => eAppend E h nx sTy none (aev t s) (aev t x)
      | _ => .fail
    | _ => .fail
  | .copy => match c.args.toList with
    | [d, x] => match c.argTypes.toList with
      | dTy :: _ => eCopy E h nx dTy (aev t d) (aev t x)
      | _ => .fail
    | _ => .fail
  | .delete => match c.args.toList with
    | [m, k] => match c.argTypes.toList with
      | ty :: _ => eDelete P E h nx ty (aev t m) (aev t k)
      | _ => .fail
    | _ => .fail
  | .clear => match c.args.toList with
    | [x] => match c.argTypes.toList with
      | ty :: _ => eClear E h nx ty (aev t x)
      | _ => .fail
    | _ => .fail
  | b => quietly h nx (qBuiltin E h t c b)
/-- an operation that runs no Go function. -/
noncomputable def xop (P : Program) (E : Env) (h : T AObj) (nx : Nat) (t : T Value) (op : Op) : ER :=
  match op with
  | .store ty a x => eStore E h nx ty (aev t a) (aev t x)
  | .mapUpdate ty m k x => eMapUpdate P E h nx ty (aev t m) (aev t k) (aev t x)
  | .insert ty m k x => eMapUpdate P E h nx ty (aev t m) (aev t k) (aev t x)
  | .next it s => eNext E.N h nx (aev t it) s
  | .call c => match c.callee with
    | .builtin b => eBuiltin P E h nx t c b
    | _ => .fail
  | op => quietly h nx (qop P E h nx t op)
theorem map2 (f : Operand → Value) (x y : Operand) : (⟨[x, y]⟩ : Array Operand).map f = #[f x, f y] := by simp
theorem map1 (f : Operand → Value) (x : Operand) : (⟨[x]⟩ : Array Operand).map f = #[f x] := by simp
theorem xop_ok (s : SI (envOf P).N U ws ρ h nx w) {t : T Value} {n : Nat} {a : Act} (ht : TmR ρ t n a.tmps) {o : Oper} (hk : okOp (envOf P).N o.op = true) :
    EN P (execOp a.eval o) (envOf P).N U ws ρ nx w (xop P (envOf P) h nx t o.op) := by
  have quiet : EN P (execOp a.eval o) (envOf P).N U ws ρ nx w (quietly h nx (qop P (envOf P) h nx t o.op)) := quietly_ok s (qop_ok s ht hk)
  obtain ⟨dst, op, ty, pos, after, guard⟩ := o
  have hm := okOp_mem hk
  have ev : ∀ x ∈ op.operands, VR ρ (aev t x) (a.eval x) := fun x hx => aev_VR s ht (hm x hx)
  cases op
  case store ty x v => exact eStore_ok s (ev x (by simp [Op.operands])) (ev v (by simp [Op.operands]))
  case mapUpdate ty m k x => exact eMapUpdate_ok s (ev m (by simp [Op.operands])) (ev k (by simp [Op.operands])) (ev x (by simp [Op.operands]))
  case insert ty m k x => exact eMapUpdate_ok s (ev m (by simp [Op.operands])) (ev k (by simp [Op.operands])) (ev x (by simp [Op.operands]))
  case next it isS => exact EN.of (eNext_ok s (ev it (by simp [Op.operands])))
  case call c =>
    obtain ⟨callee, args, argTypes⟩ := c
    cases callee with
    | builtin b =>
      obtain ⟨args⟩ := args
      obtain ⟨argTypes⟩ := argTypes
      cases b <;> simp only [xop, eBuiltin] <;> try exact quiet
      case append =>
        split
        · rename_i x y
          split
          · rename_i sTy xTy
            show EN P (do pure (.value (← Builtin.append_ ⟨[sTy, xTy]⟩ ty ((⟨[x, y]⟩ : Array Operand).map a.eval)))) (envOf P).N U ws ρ nx w _
            rw [map2]
            exact EN.of (eAppend_ok s (ts := ⟨[sTy, xTy]⟩) rfl rfl (ev x (by simp [Op.operands, Call.operands])) (ev y (by simp [Op.operands, Call.operands])))
          · rename_i sTy
            show EN P (do pure (.value (← Builtin.append_ ⟨[sTy]⟩ ty ((⟨[x, y]⟩ : Array Operand).map a.eval)))) (envOf P).N U ws ρ nx w _
            rw [map2]
            exact EN.of (eAppend_ok s (ts := ⟨[sTy]⟩) rfl rfl (ev x (by simp [Op.operands, Call.operands])) (ev y (by simp [Op.operands, Call.operands])))
          · trivial
        · trivial
      case copy =>
        split
        · rename_i x y
          split
          · rename_i dTy l
            show EN P (do pure (.value (← Builtin.copy_ ⟨dTy :: l⟩ ty ((⟨[x, y]⟩ : Array Operand).map a.eval)))) (envOf P).N U ws ρ nx w _
            rw [map2]
            exact EN.of (eCopy_ok s (ts := ⟨dTy :: l⟩) rfl (ev x (by simp [Op.operands, Call.operands])) (ev y (by simp [Op.operands, Call.operands])))
          · trivial
        · trivial
      case delete =>
        split
        · rename_i x y
          split
          · rename_i dTy l
            show EN P (do pure (.value (← Builtin.delete_ ⟨dTy :: l⟩ ty ((⟨[x, y]⟩ : Array Operand).map a.eval)))) (envOf P).N U ws ρ nx w _
            rw [map2]
            exact EN.of (eDelete_ok s (ts := ⟨dTy :: l⟩) rfl (ev x (by simp [Op.operands, Call.operands])) (ev y (by simp [Op.operands, Call.operands])))
          · trivial
        · trivial
      case clear =>
        split
        · rename_i x
          split
          · rename_i dTy l
            show EN P (do pure (.value (← Builtin.clear_ ⟨dTy :: l⟩ ty ((⟨[x]⟩ : Array Operand).map a.eval)))) (envOf P).N U ws ρ nx w _
            rw [map1]
            exact EN.of (eClear_ok s (ts := ⟨dTy :: l⟩) rfl (ev x (by simp [Op.operands, Call.operands])))
          · trivial
        · trivial
    | value f => trivial
    | invoke r m => trivial
  all_goals exact quiet
end
end Go.Proofs.YtmiojdppkooikaaGreatDoor.Abs
