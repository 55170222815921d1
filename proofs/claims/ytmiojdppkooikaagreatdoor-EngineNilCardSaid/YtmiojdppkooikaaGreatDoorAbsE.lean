/- A part of the proof that EngineNil returns true. This part: a machine that computes on pictures of Go memory, each of whose steps is shown to be matched by the model; no conditions. -/
import Derived.Test.YtmiojdppkooikaaGreatDoorAbsD
import Derived.RangeFuncRecord
import Derived.Orders
namespace Go.Proofs.YtmiojdppkooikaaGreatDoor.Abs
open Go

inductive AItem where
  | code (c : Code)
  | inBlock (id : Nat)
  | inLoop (body : Code)
  | inScope (body : Code)
  | ops (all : Array Oper) (rest : List Oper)
  | drawn (all : Array Oper) (msk : T Nat) (run : List Nat) (pend : List (Nat × Nat))
  | busy (all : Array Oper) (msk : T Nat) (e : Nat) (run : List Nat) (pend : List (Nat × Nat))
  | inRangeFunc (l : Nat)
  | endRangeFunc (l : Nat)
  | beginRound

structure AFr where
  fn : Nat
  t : T Value
  n : Nat
  todo : List AItem
  defers : List Deferred
  mode : FrameMode
  kind : CallKind
  round : Option Nat

/-- every operand in the code may be read. -/
def okOps (N : Nat) (l : List Oper) : Bool := l.all fun o => okOp N o.op
noncomputable def okCode (N : Nat) (c : Code) : Bool :=
  Code.rec (motive := fun _ => Bool) true (fun _ ops _ => okOps N ops.toList) (fun _ _ a b => and a b) (fun c _ _ a b => and (okOperand N c) (and a b))
    (fun _ _ a => a) (fun _ a => a) (fun f _ _ _ a b => and (okOperand N f) (and a b)) (fun _ => true) (fun _ a => a) (fun _ => true) (fun _ => true) true (fun _ => true) c
section
variable {N : Nat}
theorem okCode_seq {a b : Code} (h : okCode N (.seq a b) = true) : okCode N a = true ∧ okCode N b = true := by
  have h : and (okCode N a) (okCode N b) = true := h
  simpa using h
theorem okCode_cond {c : Operand} {a b : Code} (h : okCode N (.cond c a b) = true) : okOperand N c = true ∧ okCode N a = true ∧ okCode N b = true := by
  have h : and (okOperand N c) (and (okCode N a) (okCode N b)) = true := h
  simpa using h
theorem okCode_rf {c : Operand} {ps : Array Tmp} {a b : Code} (h : okCode N (.rangeFunc c ps a b) = true) : okOperand N c = true ∧ okCode N a = true ∧ okCode N b = true := by
  have h : and (okOperand N c) (and (okCode N a) (okCode N b)) = true := h
  simpa using h
theorem okCode_block {id : Nat} {a : Code} (h : okCode N (.block id a) = true) : okCode N a = true := h
theorem okCode_loop {a : Code} (h : okCode N (.loop a) = true) : okCode N a = true := h
theorem okCode_scope {a : Code} (h : okCode N (.scope a) = true) : okCode N a = true := h
theorem okCode_region {id : Nat} {ops : Array Oper} {d : Bool} (h : okCode N (.region id ops d) = true) : okOps N ops.toList = true := h
theorem okCode_find {l : Nat} : ∀ {c c' : Code}, okCode N c = true → findLabel c l = some c' → okCode N c' = true := by
  intro c
  induction c with
  | seq a b iha ihb =>
    intro c' h e
    obtain ⟨ha, hb⟩ := okCode_seq h
    simp only [findLabel] at e
    split at e
    · rename_i r hr
      cases e
      have := iha ha hr
      show and (okCode N r) (okCode N b) = true
      simp [this, hb]
    · exact ihb hb e
  | label l' =>
    intro c' h e
    simp only [findLabel] at e
    split at e
    · cases e; rfl
    · cases e
  | _ => intro c' h e; simp [findLabel] at e
end

inductive ItR (N : Nat) (ρ : Ren) : AItem → Item → Prop
  | code (c : Code) (h : okCode N c = true) : ItR N ρ (.code c) (.code c)
  | inBlock (id : Nat) : ItR N ρ (.inBlock id) (.inBlock id)
  | inLoop (c : Code) (h : okCode N c = true) : ItR N ρ (.inLoop c) (.inLoop c)
  | inScope (c : Code) (h : okCode N c = true) : ItR N ρ (.inScope c) (.inScope c)
  | inRangeFunc {l : Nat} {p : Pl} (h : ρ l = some p) : ItR N ρ (.inRangeFunc l) (.inRangeFunc p.B)
  | endRangeFunc {l : Nat} {p : Pl} (h : ρ l = some p) : ItR N ρ (.endRangeFunc l) (.endRangeFunc p.B)
  | beginRound : ItR N ρ .beginRound .beginRound
inductive ItsR (N : Nat) (ρ : Ren) : List AItem → List Item → Prop
  | nil : ItsR N ρ [] []
  | cons {a : AItem} {i : Item} {as : List AItem} {is : List Item} (h : ItR N ρ a i) (t : ItsR N ρ as is) : ItsR N ρ (a :: as) (i :: is)
theorem ItR.mono {N : Nat} {ρ ρ' : Ren} (he : Ext ρ ρ') {a : AItem} {i : Item} (h : ItR N ρ a i) : ItR N ρ' a i := by
  cases h with
  | code c h => exact .code c h
  | inBlock id => exact .inBlock id
  | inLoop c h => exact .inLoop c h
  | inScope c h => exact .inScope c h
  | inRangeFunc h => exact .inRangeFunc (he _ _ h)
  | endRangeFunc h => exact .endRangeFunc (he _ _ h)
  | beginRound => exact .beginRound
theorem ItsR.mono {N : Nat} {ρ ρ' : Ren} (he : Ext ρ ρ') {a : List AItem} {i : List Item} (h : ItsR N ρ a i) : ItsR N ρ' a i := by
  induction h with
  | nil => exact .nil
  | cons h _ ih => exact .cons (h.mono he) ih

noncomputable def aexit (id : Nat) (l : List AItem) : Option (List AItem) :=
  List.rec (motive := fun _ => Option (List AItem)) none (fun a k ih => match a with
    | .inBlock id' => match Nat.beq id' id with
      | true => some k
      | false => ih
    | _ => ih) l
noncomputable def agoto (lb : Nat) (l : List AItem) : Option (List AItem) :=
  List.rec (motive := fun _ => Option (List AItem)) none (fun a k ih => match a with
    | .inScope body => match findLabel body lb with
      | some rest => some (.code rest :: .inScope body :: k)
      | none => ih
    | _ => ih) l
theorem aexit_ok {N : Nat} {ρ : Ren} {id : Nat} {a : List AItem} {i : List Item} (h : ItsR N ρ a i) {k : List AItem} (hk : aexit id a = some k) : ∃ k', exitTo id i = some k' ∧ ItsR N ρ k k' := by
  induction h with
  | nil => cases (show (none : Option (List AItem)) = some k from hk)
  | cons h t ih =>
    cases h with
    | inBlock id' =>
      have hk : (match Nat.beq id' id with
        | true => some _
        | false => aexit id _) = some k := hk
      split at hk
      · rename_i e
        cases hk
        have e := Nat.eq_of_beq_eq_true e
        exact ⟨_, by simp [exitTo, e], t⟩
      · rename_i e
        have e := Nat.ne_of_beq_eq_false e
        obtain ⟨k', h1, h2⟩ := ih hk
        exact ⟨k', by simp [exitTo, e, h1], h2⟩
    | code c _ => obtain ⟨k', h1, h2⟩ := ih hk; exact ⟨k', by simpa [exitTo] using h1, h2⟩
    | inLoop c _ => obtain ⟨k', h1, h2⟩ := ih hk; exact ⟨k', by simpa [exitTo] using h1, h2⟩
    | inScope c _ => obtain ⟨k', h1, h2⟩ := ih hk; exact ⟨k', by simpa [exitTo] using h1, h2⟩
    | inRangeFunc _ => obtain ⟨k', h1, h2⟩ := ih hk; exact ⟨k', by simpa [exitTo] using h1, h2⟩
    | endRangeFunc _ => obtain ⟨k', h1, h2⟩ := ih hk; exact ⟨k', by simpa [exitTo] using h1, h2⟩
    | beginRound => obtain ⟨k', h1, h2⟩ := ih hk; exact ⟨k', by simpa [exitTo] using h1, h2⟩
theorem aexit_none {N : Nat} {ρ : Ren} {id : Nat} {a : List AItem} {i : List Item} (h : ItsR N ρ a i) (hk : aexit id a = none) : exitTo id i = none := by
  induction h with
  | nil => rfl
  | cons h t ih =>
    cases h with
    | inBlock id' =>
      have hk : (match Nat.beq id' id with
        | true => some _
        | false => aexit id _) = none := hk
      split at hk
      · cases hk
      · rename_i e
        have e := Nat.ne_of_beq_eq_false e
        simp [exitTo, e, ih hk]
    | _ => simpa [exitTo] using ih hk
theorem agoto_ok {N : Nat} {ρ : Ren} {lb : Nat} {a : List AItem} {i : List Item} (h : ItsR N ρ a i) {k : List AItem} (hk : agoto lb a = some k) : ∃ k', gotoIn lb i = some k' ∧ ItsR N ρ k k' := by
  induction h with
  | nil => cases (show (none : Option (List AItem)) = some k from hk)
  | cons h t ih =>
    cases h with
    | inScope body hb =>
      rename_i as is
      have hk : (match findLabel body lb with
        | some rest => some (.code rest :: .inScope body :: as)
        | none => agoto lb as) = some k := hk
      split at hk
      · rename_i rest e
        cases hk
        exact ⟨.code rest :: .inScope body :: is, by simp [gotoIn, e], .cons (.code _ (okCode_find hb e)) (.cons (.inScope _ hb) t)⟩
      · rename_i e
        obtain ⟨k', h1, h2⟩ := ih hk
        exact ⟨k', by simp [gotoIn, e, h1], h2⟩
    | code c _ => obtain ⟨k', h1, h2⟩ := ih hk; exact ⟨k', by simpa [gotoIn] using h1, h2⟩
    | inLoop c _ => obtain ⟨k', h1, h2⟩ := ih hk; exact ⟨k', by simpa [gotoIn] using h1, h2⟩
    | inBlock c => obtain ⟨k', h1, h2⟩ := ih hk; exact ⟨k', by simpa [gotoIn] using h1, h2⟩
    | inRangeFunc _ => obtain ⟨k', h1, h2⟩ := ih hk; exact ⟨k', by simpa [gotoIn] using h1, h2⟩
    | endRangeFunc _ => obtain ⟨k', h1, h2⟩ := ih hk; exact ⟨k', by simpa [gotoIn] using h1, h2⟩
    | beginRound => obtain ⟨k', h1, h2⟩ := ih hk; exact ⟨k', by simpa [gotoIn] using h1, h2⟩
theorem agoto_none {N : Nat} {ρ : Ren} {lb : Nat} {a : List AItem} {i : List Item} (h : ItsR N ρ a i) (hk : agoto lb a = none) : gotoIn lb i = none := by
  induction h with
  | nil => rfl
  | cons h t ih =>
    cases h with
    | inScope body hb =>
      rename_i as is
      have hk : (match findLabel body lb with
        | some rest => some (.code rest :: .inScope body :: as)
        | none => agoto lb as) = none := hk
      split at hk
      · cases hk
      · rename_i e
        simp [gotoIn, e, ih hk]
    | _ => simpa [gotoIn] using ih hk

/-- the list of numbers names the list of operations. -/
inductive RestR (all : Array Oper) : List Oper → List Nat → Prop
  | nil : RestR all [] []
  | cons {o : Oper} {i : Nat} {os : List Oper} {is : List Nat} (h : all[i]? = some o) (t : RestR all os is) : RestR all (o :: os) (i :: is)
theorem restR_range (all : Array Oper) : RestR all all.toList (List.range all.size) := by
  have key : ∀ (l : List Oper) (k : Nat), (∀ j (o : Oper), l[j]? = some o → all[k + j]? = some o) → RestR all l (List.range' k l.length) := by
    intro l
    induction l with
    | nil => intro k _; exact .nil
    | cons o l ih =>
      intro k h
      refine .cons (by simpa using h 0 o rfl) (ih (k + 1) fun j o' e => ?_)
      have := h (j + 1) o' (by simpa using e)
      rwa [show k + 1 + j = k + (j + 1) by omega]
  have := key all.toList 0 (fun j o e => by simpa using e)
  rwa [← List.range_eq_range', Array.length_toList] at this

/-- what has been left of a drawn region: the prerequisites of what has run have run. -/
def DC (all : Array Oper) (is : List Nat) : Prop :=
  ∀ i o, all[i]? = some o → i ∉ is → ∀ e ∈ o.after.toList, Region.binds .any e = true → e.on ∉ is
inductive Lin (all : Array Oper) : List Nat → Prop
  | nil : Lin all []
  | cons {i : Nat} {is : List Nat} (hd : DC all (i :: is)) (hi : i ∉ is) (hin : i < all.size) (h : Lin all is) : Lin all (i :: is)
theorem Lin.dc {all : Array Oper} {is : List Nat} (h : Lin all is) : DC all is := by
  cases h with
  | nil => intro i o _ _ e _ _; simp
  | cons hd _ _ _ => exact hd

structure DrR (all : Array Oper) (ρ : Ren) (lo nx : Nat) (run : List Nat) (pend : List (Nat × Nat)) (is : List Nat) : Prop where
  lin : Lin all is
  mem : ∀ i ∈ is, i ∈ run ∨ ∃ id, (i, id) ∈ pend
  run : ∀ i ∈ run, i ∈ is
  gh : ∀ i id, (i, id) ∈ pend → i ∈ is → ρ id = none
  gn : ∀ i id, (i, id) ∈ pend → lo ≤ id ∧ id < nx
  ids : (pend.map (·.2)).Nodup
theorem Ex.weak {nx nx' : Nat} {ρ ρ' : Ren} (he : Ex nx ρ ρ') (h : nx' ≤ nx) : Ex nx' ρ ρ' := ⟨he.1, fun b hb => he.2 b (Nat.lt_of_lt_of_le hb h)⟩
theorem DrR.mono {all : Array Oper} {ρ ρ' : Ren} {lo nx nx' : Nat} (he : Ex nx ρ ρ') (hn : nx ≤ nx') {run : List Nat} {pend : List (Nat × Nat)} {is : List Nat} (h : DrR all ρ lo nx run pend is) : DrR all ρ' lo nx' run pend is :=
  ⟨h.lin, h.mem, h.run, fun i id hm hi => he.2 _ (h.gn i id hm).2 (h.gh i id hm hi), fun i id hm => ⟨(h.gn i id hm).1, Nat.lt_of_lt_of_le (h.gn i id hm).2 hn⟩, h.ids⟩
def dstOf (all : Array Oper) (i : Nat) : Option Nat := (all[i]?).bind (·.dst)
/-- alike but where what is pending writes. -/
def Agr (all : Array Oper) (pend : List (Nat × Nat)) (is : List Nat) (t t' : T Value) : Prop :=
  ∀ x, (∀ i id, (i, id) ∈ pend → i ∈ is → dstOf all i ≠ some x) → t'.get x = t.get x

def MskOK (all : Array Oper) (msk : T Nat) : Prop :=
  ∀ i m, msk.get i = some m → ∀ k, m.testBit k = true → k < i ∧ ∀ is, DC all is → i ∉ is → k ∉ is
inductive TdR (N : Nat) (ρ : Ren) (lo nx : Nat) : T Value → T Value → List AItem → List Item → Prop
  | plain {t : T Value} {as : List AItem} {is : List Item} (h : ItsR N ρ as is) : TdR N ρ lo nx t t as is
  | ops {t : T Value} {all : Array Oper} {rest : List Oper} {l : List Nat} {as : List AItem} {is : List Item} (hr : RestR all rest l) (hk : okOps N rest = true) (h : ItsR N ρ as is) :
      TdR N ρ lo nx t t (.ops all rest :: as) (.inRegion all l :: is)
  | drawn {t t' : T Value} {all : Array Oper} {msk : T Nat} {run : List Nat} {pend : List (Nat × Nat)} {l : List Nat} {as : List AItem} {is : List Item}
      (hmk : MskOK all msk) (hd : DrR all ρ lo nx run pend l) (ha : Agr all pend l t t') (hk : okOps N all.toList = true) (h : ItsR N ρ as is) :
      TdR N ρ lo nx t t' (.drawn all msk run pend :: as) (.inRegion all l :: is)
  | busy {t t' : T Value} {all : Array Oper} {msk : T Nat} {run : List Nat} {e : Nat} {pend : List (Nat × Nat)} {l : List Nat} {as : List AItem} {is : List Item}
      (hmk : MskOK all msk) (hd : DrR all ρ lo nx run pend l) (ha : Agr all pend l t t') (hk : okOps N all.toList = true) (h : ItsR N ρ as is) :
      TdR N ρ lo nx t t' (.busy all msk e run pend :: as) (.inRegion all (e :: l) :: is)
theorem TdR.mono {N : Nat} {ρ ρ' : Ren} {lo nx nx' : Nat} (he : Ex nx ρ ρ') (hn : nx ≤ nx') {t t' : T Value} {as : List AItem} {is : List Item} (h : TdR N ρ lo nx t t' as is) : TdR N ρ' lo nx' t t' as is := by
  cases h with
  | plain h => exact .plain (h.mono he.1)
  | ops hr hk h => exact .ops hr hk (h.mono he.1)
  | drawn hmk hd ha hk h => exact .drawn hmk (hd.mono he hn) ha hk (h.mono he.1)
  | busy hmk hd ha hk h => exact .busy hmk (hd.mono he hn) ha hk (h.mono he.1)

structure PeR (ρ : Ren) (e e' : PanicEntry) : Prop where
  v : VR ρ e.v e'.v
  rcv : e'.recovered = e.recovered
  ge : e'.goexit = e.goexit
inductive ChR (ρ : Ren) : List PanicEntry → List PanicEntry → Prop
  | nil : ChR ρ [] []
  | cons {e e' : PanicEntry} {l l' : List PanicEntry} (h : PeR ρ e e') (t : ChR ρ l l') : ChR ρ (e :: l) (e' :: l')
theorem ChR.mono {ρ ρ' : Ren} (he : Ext ρ ρ') {l l' : List PanicEntry} (h : ChR ρ l l') : ChR ρ' l l' := by
  induction h with
  | nil => exact .nil
  | cons h _ ih => exact .cons ⟨h.1.mono he, h.2, h.3⟩ ih
theorem ChR.append {ρ : Ren} {l l' m m' : List PanicEntry} (h : ChR ρ l l') (k : ChR ρ m m') : ChR ρ (l ++ m) (l' ++ m') := by
  induction h with
  | nil => exact k
  | cons h _ ih => exact .cons h ih
inductive MoR (ρ : Ren) : FrameMode → FrameMode → Prop
  | run : MoR ρ .run .run
  | returning : MoR ρ .returning .returning
  | panicking {l l' : List PanicEntry} (h : ChR ρ l l') : MoR ρ (.panicking l) (.panicking l')
theorem MoR.mono {ρ ρ' : Ren} (he : Ext ρ ρ') {m m' : FrameMode} (h : MoR ρ m m') : MoR ρ' m m' := by
  cases h with
  | run => exact .run
  | returning => exact .returning
  | panicking h => exact .panicking (h.mono he)
inductive RoR (ρ : Ren) : Option Nat → Option Nat → Prop
  | none : RoR ρ none none
  | some {l : Nat} {p : Pl} (h : ρ l = some p) : RoR ρ (some l) (some p.B)
theorem RoR.mono {ρ ρ' : Ren} (he : Ext ρ ρ') {m m' : Option Nat} (h : RoR ρ m m') : RoR ρ' m m' := by
  cases h with
  | none => exact .none
  | some h => exact .some (he _ _ h)

inductive FrR (N : Nat) (ρ : Ren) (lo hi : Nat) : AFr → Frame → Prop
  | mk {fn : Nat} {t t' : T Value} {n : Nat} {tm : Array Value} {as : List AItem} {is : List Item} {ds ds' : List Deferred} {mo mo' : FrameMode} {kind : CallKind} {ro ro' : Option Nat}
      (ht : TmR ρ t' n tm) (htd : TdR N ρ lo hi t t' as is) (hds : DsR ρ ds ds') (hmo : MoR ρ mo mo') (hro : RoR ρ ro ro') :
      FrR N ρ lo hi ⟨fn, t, n, as, ds, mo, kind, ro⟩ ⟨fn, tm, is, ds', mo', kind, ro'⟩
inductive FrsR (N : Nat) (ρ : Ren) (base : Nat) : Nat → List AFr → List Frame → Prop
  | nil {hi : Nat} (h : base ≤ hi) : FrsR N ρ base hi [] []
  | cons {lo hi : Nat} {a : AFr} {c : Frame} {as : List AFr} {cs : List Frame} (hl : lo ≤ hi) (h : FrR N ρ lo hi a c) (t : FrsR N ρ base lo as cs) : FrsR N ρ base hi (a :: as) (c :: cs)
theorem FrsR.le {N : Nat} {ρ : Ren} {base hi : Nat} {a : List AFr} {c : List Frame} (h : FrsR N ρ base hi a c) : base ≤ hi := by
  induction h with
  | nil h => exact h
  | cons hl _ _ ih => exact Nat.le_trans ih hl
theorem FrR.mono {N : Nat} {ρ ρ' : Ren} {lo nx nx' : Nat} (he : Ex nx ρ ρ') (hn : nx ≤ nx') {a : AFr} {c : Frame} (h : FrR N ρ lo nx a c) : FrR N ρ' lo nx' a c := by
  cases h with
  | mk ht htd hds hmo hro => exact .mk (ht.mono he.1) (htd.mono he hn) (hds.mono he.1) (hmo.mono he.1) (hro.mono he.1)
theorem FrsR.mono {N : Nat} {ρ ρ' : Ren} {base nx : Nat} {a : List AFr} {c : List Frame} (h : FrsR N ρ base nx a c) (he : Ex nx ρ ρ') : FrsR N ρ' base nx a c := by
  induction h with
  | nil h => exact .nil h
  | cons hl h _ ih => exact .cons hl (h.mono he (Nat.le_refl _)) (ih (he.weak hl))
end Go.Proofs.YtmiojdppkooikaaGreatDoor.Abs
namespace Go.Proofs.YtmiojdppkooikaaGreatDoor.Abs
open Go

noncomputable def tput (t : T Value) (n : Nat) (d : Option Nat) (v : Value) : T Value :=
  match d with
  | some d => match Nat.blt d n with
    | true => t.set d v
    | false => t
  | none => t
def putArr (a : Array Value) (d : Option Nat) (v : Value) : Array Value := match d with
  | some d => a.setIfInBounds d v
  | none => a
theorem tput_TmR {ρ : Ren} {t : T Value} {n : Nat} {a : Array Value} (h : TmR ρ t n a) (d : Option Nat) {v v' : Value} (hv : VR ρ v v') :
    TmR ρ (tput t n d v) n (putArr a d v') := by
  cases d with
  | none => exact h
  | some d =>
    unfold tput putArr
    simp only []
    cases hb : Nat.blt d n with
    | true => exact h.set (by simpa [Nat.blt_eq] using hb) hv
    | false =>
      have : ¬ d < n := by
        intro hl
        rw [← Nat.blt_eq, hb] at hl; cases hl
      have e : a.setIfInBounds d v' = a := by
        apply Array.setIfInBounds_eq_of_size_le
        rw [h.1]; omega
      simp only [e]
      exact h
theorem tput_agr {all : Array Oper} {pend : List (Nat × Nat)} {is : List Nat} {t t' : T Value} (h : Agr all pend is t t') (n : Nat) (d : Option Nat) (v : Value) : Agr all pend is (tput t n d v) (tput t' n d v) := by
  intro x hx
  have hx := h x hx
  unfold tput
  split
  · split
    · rw [T.get_set, T.get_set, hx]
    · exact hx
  · exact hx

noncomputable def afin (fr : AFr) (v : Value) : Option AFr :=
  match fr with
  | ⟨fn, t, n, todo, ds, mo, kind, ro⟩ => match todo with
    | [] => none
    | a :: k => match a with
      | .ops all rest => match rest with
        | o :: rest => some ⟨fn, tput t n o.dst v, n, .ops all rest :: k, ds, mo, kind, ro⟩
        | [] => none
      | .busy all msk e run pend => match nth all.toList e with
        | some o => some ⟨fn, tput t n o.dst v, n, .drawn all msk run pend :: k, ds, mo, kind, ro⟩
        | none => none
      | .inRangeFunc l => some ⟨fn, t, n, .endRangeFunc l :: k, ds, mo, kind, ro⟩
      | .beginRound => some ⟨fn, t, n, k, ds, mo, kind, ro⟩
      | _ => none
theorem afin_ok {N : Nat} {ρ : Ren} {lo nx : Nat} {a b : AFr} {c : Frame} (h : FrR N ρ lo nx a c) {v v' : Value} (hv : VR ρ v v') (hb : afin a v = some b) : FrR N ρ lo nx b (c.finish v') := by
  cases h with
  | mk ht htd hds hmo hro =>
    rename_i fn t t' n tm as is ds ds' mo mo' kind ro ro'
    cases htd with
    | plain hI =>
      cases hI with
      | nil => cases hb
      | cons h1 h2 =>
        cases h1 with
        | inRangeFunc hl => cases hb; exact .mk ht (.plain (.cons (.endRangeFunc hl) h2)) hds hmo hro
        | beginRound => cases hb; exact .mk ht (.plain h2) hds hmo hro
        | _ => cases hb
    | ops hr hk hI =>
      cases hr with
      | nil => cases hb
      | cons ho hr =>
        rename_i o i os js
        cases hb
        have hk : okOps N os = true := by
          simp only [okOps, List.all_cons, Bool.and_eq_true] at hk ⊢
          exact hk.2
        have := tput_TmR ht o.dst hv
        simp only [Frame.finish, ho, Option.bind_some]
        cases hd : o.dst with
        | none => exact .mk ht (.ops hr hk hI) hds hmo hro
        | some d =>
          rw [hd] at this
          exact .mk this (.ops hr hk hI) hds hmo hro
    | drawn hmk hd ha hk hI => cases hb
    | busy hmk hd ha hk hI =>
      rename_i all msk run e pend l as is
      simp only [afin] at hb
      split at hb
      · rename_i o ho
        cases hb
        rw [nth_eq, Array.getElem?_toList] at ho
        simp only [Frame.finish, ho, Option.bind_some]
        have := tput_TmR ht o.dst hv
        cases hdd : o.dst with
        | none => exact .mk ht (.drawn hmk hd ha hk hI) hds hmo hro
        | some d =>
          rw [hdd] at this
          exact .mk this (.drawn hmk hd (tput_agr ha n (some d) v) hk hI) hds hmo hro
      · cases hb
theorem afin_fn {a b : AFr} {v : Value} (hb : afin a v = some b) : b.fn = a.fn := by
  obtain ⟨fn, t, n, todo, ds, mo, kind, ro⟩ := a
  unfold afin at hb
  simp only [] at hb
  repeat' split at hb
  all_goals first | (cases hb; rfl) | cases hb
theorem finish_fn (c : Frame) (v : Value) : (c.finish v).fn = c.fn := by
  unfold Frame.finish
  split <;> rfl

noncomputable def araise (fr : AFr) (vs : List PanicEntry) : AFr :=
  match fr with
  | ⟨fn, t, n, todo, ds, mo, kind, ro⟩ => match mo with
    | .panicking ch => ⟨fn, t, n, todo, ds, .panicking (vs ++ ch), kind, ro⟩
    | _ => ⟨fn, t, n, todo, ds, .panicking vs, kind, ro⟩
theorem araise_ok {N : Nat} {ρ : Ren} {lo nx : Nat} {a : AFr} {c : Frame} (h : FrR N ρ lo nx a c) {vs vs' : List PanicEntry} (hv : ChR ρ vs vs') : FrR N ρ lo nx (araise a vs) (c.raise vs') := by
  cases h with
  | mk ht htd hds hmo hro =>
    cases hmo with
    | run => exact .mk ht htd hds (.panicking hv) hro
    | returning => exact .mk ht htd hds (.panicking hv) hro
    | panicking hc => exact .mk ht htd hds (.panicking (hv.append hc)) hro

noncomputable def maxN (a b : Nat) : Nat := match Nat.ble a b with
  | true => b
  | false => a
theorem maxN_eq (a b : Nat) : maxN a b = max a b := by
  unfold maxN
  cases h : Nat.ble a b with
  | true => have := Nat.le_of_ble_eq_true h; simp; omega
  | false => have := Nat.not_le_of_not_ble_eq_true (by simp [h] : ¬ Nat.ble a b = true); simp; omega
/-- the function may be entered: all that its code names may be read. -/
noncomputable def fnOk (N : Nat) (f : Func) : Bool := match f.body with
  | some b => match f.name == "runtime.NumGoroutine" with
    | true => false
    | false => okCode N b
  | none => false
structure Ctx where
  E : Env
  good : T Bool
noncomputable def ctxOf (P : Program) : Ctx := ⟨envOf P, T.ofList (P.funcs.toList.map (fnOk (P.globals.size + 5)))⟩
noncomputable def aenter (K : Ctx) (f : Nat) (args : List Value) (kind : CallKind) : Option AFr :=
  match K.good.get f with
  | some g => match g with
    | true => match K.E.funcs.get f with
      | some fn => match fn.body with
        | some b => some ⟨f, T.ofList args, maxN (lenF args) fn.ntmps, [.code b], [], .run, kind, none⟩
        | none => none
      | none => none
    | false => none
  | none => none
theorem getFunc_ok {P : Program} {f : Nat} {fn : Func} (h : (envOf P).funcs.get f = some fn) : P.funcs[f]? = some fn := by
  unfold envOf at h
  simpa [T.get_ofList] using h
theorem TmR.entered {ρ : Ren} {args : List Value} {args' : Array Value} (ha : AR ρ ⟨args⟩ args') (m : Nat) :
    TmR ρ (T.ofList args) (max args.length m) (args' ++ Array.replicate (m - args'.size) undef) := by
  have hs : args.length = args'.size := ha.1
  refine ⟨by simp; omega, fun i hi => ?_, fun i hi => ?_⟩
  · rw [T.get_ofList, Array.getElem_append]
    split
    · rename_i hlt
      have := ha.2 i (by simpa [hs] using hlt) hlt
      have e : args[i]? = some args[i] := by simp [hs, hlt]
      rw [e]; exact this
    · rename_i hge
      have e : args[i]? = none := by simp [hs]; omega
      rw [e, Array.getElem_replicate]
      exact VR.undef ρ
  · rw [T.get_ofList]
    simp; omega
theorem aenter_ok {P : Program} {ρ : Ren} {lo nx : Nat} {f : Nat} {args : List Value} {args' : Array Value} {kind : CallKind} {b : AFr} (ha : AR ρ ⟨args⟩ args') (hb : aenter (ctxOf P) f args kind = some b) :
    FrR (envOf P).N ρ lo nx b (Frame.enter P f args' kind) ∧ ∀ w : World, (callFunc f args').run P w = .ok (.enter f args') w := by
  unfold aenter at hb
  split at hb
  case h_2 => cases hb
  rename_i g hg
  split at hb
  case h_2 => cases hb
  split at hb
  case h_2 => cases hb
  rename_i fn hf
  have hf := getFunc_ok hf
  split at hb
  case h_2 => cases hb
  rename_i c hc
  cases hb
  have hg : fnOk (P.globals.size + 5) fn = true := by
    have : (ctxOf P).good.get f = some true := hg
    unfold ctxOf at this
    simp only [T.get_ofList, List.getElem?_map, Array.getElem?_toList, hf, Option.map_some] at this
    exact Option.some.inj this
  obtain ⟨hk, hnm⟩ : okCode (envOf P).N c = true ∧ (fn.name == "runtime.NumGoroutine") = false := by
    unfold fnOk at hg
    rw [hc] at hg
    simp only [] at hg
    split at hg
    · cases hg
    · rename_i hb
      exact ⟨hg, hb⟩
  have e : Frame.enter P f args' kind = ⟨f, args' ++ Array.replicate (fn.ntmps - args'.size) undef, [.code c], [], .run, kind, none⟩ := by
    simp [Frame.enter, hf, hc]
  rw [e, maxN_eq, lenF_eq]
  refine ⟨.mk (TmR.entered ha fn.ntmps) (.plain (.cons (.code c hk) .nil)) .nil .run .none, fun w => ?_⟩
  unfold callFunc
  have hnm : ¬ fn.name = "runtime.NumGoroutine" := by simpa using hnm
  simp [program, Sem.run, hf, hc, hnm]
end Go.Proofs.YtmiojdppkooikaaGreatDoor.Abs
namespace Go.Proofs.YtmiojdppkooikaaGreatDoor.Abs
open Go

noncomputable def app {α : Type} (l m : List α) : List α := List.rec (motive := fun _ => List α) m (fun x _ ih => x :: ih) l
theorem app_eq {α : Type} : ∀ (l m : List α), app l m = l ++ m
  | [], _ => rfl
  | x :: l, m => by show x :: app l m = _; rw [app_eq l m]; rfl

noncomputable def aresolve (t : T Value) (c : Call) : Option Deferred :=
  match c.callee with
  | .value f => match aev t f with
    | .func fn first cap => some { target := .fn fn cap, args := ⟨app first.toList (mapA t c.args.toList)⟩ }
    | _ => none
  | _ => none

section
variable {P : Program} {N : Nat} {U : Nat → Prop} {ws : World} {ρ : Ren} {h : T AObj} {nx : Nat} {w : World}

theorem aresolve_ok (s : SI N U ws ρ h nx w) {t : T Value} {n : Nat} {a : Act} (ht : TmR ρ t n a.tmps) {c : Call} (hk : c.operands.toList.all (okOperand N) = true) {ty : TypeId} {d : Deferred} (hd : aresolve t c = some d) :
    ∃ d', (resolve a.eval c ty).run P w = .ok d' w ∧ DfR ρ d d' := by
  have hm : ∀ x ∈ c.operands, okOperand N x = true := fun x hx => List.all_eq_true.1 hk x (by simpa using hx)
  unfold aresolve at hd
  split at hd
  case h_2 => cases hd
  rename_i f hf
  split at hd
  case h_2 => cases hd
  rename_i fn first cap he
  cases hd
  have hv : VR ρ (aev t f) (a.eval f) := aev_VR s ht (hm f (by simp [Call.operands, hf]))
  rw [he] at hv
  have hargs : LR ρ (mapA t c.args.toList) (c.args.toList.map a.eval) := mapA_LR s ht _ fun x hx => hm x (by simp [Call.operands, hf]; exact .inr (by simpa using hx))
  have e1 : c.args.map a.eval = ⟨c.args.toList.map a.eval⟩ := by apply Array.ext'; simp
  rw [app_eq]
  generalize hcv : a.eval f = fv at hv
  cases hv with
  | func _ _ _ b' c' hf' hb hc hA hC =>
    have hb' : LR ρ first.toList b'.toList := AR.toList ⟨hb, hA⟩
    refine ⟨{ target := .fn fn c', args := b' ++ c.args.map a.eval }, ?_, ⟨.fn fn cap c' hf' ⟨hc, hC⟩, ?_⟩⟩
    · unfold resolve
      simp [hf, hcv, Deferred.ofValue]
    · have := AR.of_LR (hb'.append hargs)
      rw [e1]
      have e2 : b' ++ (⟨c.args.toList.map a.eval⟩ : Array Value) = ⟨b'.toList ++ c.args.toList.map a.eval⟩ := by apply Array.ext'; simp
      rw [e2]; exact this
  | yield hl =>
    rename_i l p
    refine ⟨{ target := .fn (.yield p.B) #[], args := #[] ++ c.args.map a.eval }, ?_, ⟨.yield hl, ?_⟩⟩
    · unfold resolve
      simp [hf, hcv, Deferred.ofValue]
    · have := AR.of_LR hargs
      rw [e1]
      simpa using this

/- ---------- the loop's record ---------- -/
theorem SI.getLoop (s : SI N U ws ρ h nx w) {b : Nat} {p : Pl} (hp : ρ b = some p) {st : LoopState} {pend : Option Code} {fn : Nat} {t : T Value} {n : Nat} {ps : Array Tmp} {as bd : Code} {df : Nat}
    (hg : h.get b = some (.loop st pend fn t n ps as bd df)) :
    p.S = 0 ∧ ∃ q tm, ρ df = some q ∧ TmR ρ t n tm ∧ w.heap[p.B]? = some (.loop { state := st, pending := pend, fn, tmps := tm, params := ps, assign := as, body := bd, defers := q.B }) := by
  obtain ⟨c, hc, h0, q, tm, hq, ht, rfl⟩ := s.rel b _ p hg hp
  exact ⟨h0, q, tm, hq, ht, hc⟩

/-- a state of the record more. -/
noncomputable def loopSet (N : Nat) (h : T AObj) (l : Nat) (st : LoopState) (pend : Option Code) : Option (T AObj) :=
  match Nat.ble N l with
  | true => match h.get l with
    | some (.loop _ _ fn t n ps as bd df) => some (h.set l (.loop st pend fn t n ps as bd df))
    | _ => none
  | false => none
noncomputable def loopState (h : T AObj) (l : Nat) : Option (LoopState × Option Code) :=
  match h.get l with
  | some (.loop st pend _ _ _ _ _ _ _) => some (st, pend)
  | _ => none
theorem loopSet_ok (s : SI N U ws ρ h nx w) {l : Nat} {p : Pl} (hp : ρ l = some p) {st : LoopState} {pend : Option Code} {h' : T AObj} (hs : loopSet N h l st pend = some h') {st0 : LoopState} {pend0 : Option Code} (h0 : loopState h l = some (st0, pend0)) :
    ∃ r : Loop, r.state = st0 ∧ r.pending = pend0 ∧ w.heap[p.B]? = some (.loop r) ∧ SI N U ws ρ h' nx (w.putObj p.B (.loop { r with state := st, pending := pend })) := by
  unfold loopSet at hs
  split at hs
  case h_2 => cases hs
  rename_i hN
  have hN := Nat.le_of_ble_eq_true hN
  split at hs
  case h_2 => cases hs
  rename_i fn t n ps as bd df hg
  cases hs
  obtain ⟨z, q, tm, hq, ht, hc⟩ := s.getLoop hp hg
  unfold loopState at h0
  rw [hg] at h0
  cases h0
  exact ⟨_, rfl, rfl, hc, s.write hN hg hp ⟨z, q, tm, hq, ht, rfl⟩⟩

/-- the loop begins. -/
noncomputable def aEnterLoop (h : T AObj) (nx : Nat) (fn : Nat) (t : T Value) (n : Nat) (ps : Array Tmp) (as bd : Code) (around : Option Nat) : Option (Nat × List Deferred × T AObj × Nat) :=
  match around with
  | none => some (Nat.add nx 1, [{ target := .collected nx, args := #[] }], (h.set nx (.dfr (some []))).set (Nat.add nx 1) (.loop .ready none fn t n ps as bd nx), Nat.add nx 2)
  | some _ => none
theorem aEnterLoop_ok (s : SI N U ws ρ h nx w) {fn : Nat} {t : T Value} {n : Nat} {tm : Array Value} (ht : TmR ρ t n tm) {ps : Array Tmp} {as bd : Code} {ro ro' : Option Nat} (hro : RoR ρ ro ro') {l : Nat} {mk : List Deferred} {h' : T AObj} {nx' : Nat}
    (he : aEnterLoop h nx fn t n ps as bd ro = some (l, mk, h', nx')) :
    ∃ B mk' w' ρ' p, (Instr.enterLoop fn tm ps as bd ro').run P w = .ok (B, mk') w' ∧ Ex nx ρ ρ' ∧ SI N U ws ρ' h' nx' w' ∧ ρ' l = some p ∧ p.B = B ∧ DsR ρ' mk mk' ∧ nx ≤ nx' := by
  unfold aEnterLoop at he
  split at he
  case h_2 => cases he
  cases he
  cases hro
  have hnx := s.nx_none (Nat.le_refl nx)
  have s1 := s.ghost hnx (.dfr (some [])) (Nat.le_succ nx)
  let p : Pl := ⟨w.heap.size, 0, 0⟩
  have s2 := s1.born hnx (Nat.lt_succ_self nx) (T.get_set_self h nx _) (p := p) rfl (c := .deferred (some [])) ⟨rfl, [], rfl, .nil⟩ w.drawn
  have hnx2 := s2.nx_none (Nat.le_refl (nx + 1))
  have he1 := Ex.upd (p := p) hnx
  have s3 := s2.ghost hnx2 (.loop .ready none fn t n ps as bd nx) (Nat.le_succ (nx + 1))
  let q : Pl := ⟨w.heap.size + 1, 0, 0⟩
  have he2 := Ex.upd (p := q) hnx2
  have hdf : upd (upd ρ nx p) (nx + 1) q nx = some p := he2.1 _ _ (upd_self ρ nx p)
  have s4 := s3.born hnx2 (Nat.lt_succ_self (nx + 1)) (T.get_set_self _ (nx + 1) _) (p := q) (by simp [q])
    (c := .loop { state := .ready, pending := none, fn, tmps := tm, params := ps, assign := as, body := bd, defers := w.heap.size })
    ⟨rfl, p, tm, hdf, (ht.mono he1.1).mono he2.1, rfl⟩ w.drawn
  refine ⟨_, _, _, _, q, run_enterLoop_outer fn tm ps as bd, he1.trans he2 (Nat.le_succ nx), s4, upd_self _ _ _, rfl, ?_, by show nx ≤ nx + 2; omega⟩
  exact .cons ⟨.collected hdf, AR.nil _⟩ .nil

/-- yield's arguments come into the record's temporaries. -/
noncomputable def yieldTmps (n : Nat) (ps : List Tmp) (args : List Value) (t : T Value) : T Value :=
  List.rec (motive := fun _ => List Value → T Value → T Value) (fun _ t => t) (fun p _ ih args t => match args with
    | [] => t
    | a :: args => ih args (tput t n (some p) a)) ps args t
theorem yieldTmps_ok {n : Nat} : ∀ {ps : List Tmp} {args args' : List Value} {t : T Value} {tm : Array Value}, LR ρ args args' → TmR ρ t n tm →
    TmR ρ (yieldTmps n ps args t) n ((ps.zip args').foldl (fun tmps (x : Tmp × Value) => tmps.setIfInBounds x.1 x.2) tm)
  | [], _, _, _, _, _, ht => ht
  | _ :: _, [], _, _, _, h, ht => by cases h; exact ht
  | p :: ps, a :: args, _, t, tm, h, ht => by
    cases h with
    | cons ha hl =>
      rename_i a' l'
      have := tput_TmR ht (some p) ha
      exact yieldTmps_ok (ps := ps) hl this

noncomputable def aYield (N : Nat) (h : T AObj) (l : Nat) (args : List Value) (kind : CallKind) : Option AFr :=
  match h.get l with
  | some (.loop _ _ fn t n ps as bd _) => match Nat.beq (lenF args) (lenF ps.toList) with
    | true => match and (okCode N as) (okCode N bd) with
      | true => some ⟨fn, yieldTmps n ps.toList args t, n, [.code as, .beginRound, .code bd], [], .run, kind, some l⟩
      | false => none
    | false => none
  | _ => none
theorem aYield_ok {lo : Nat} (s : SI N U ws ρ h nx w) {l : Nat} {p : Pl} (hp : ρ l = some p) {args : List Value} {args' : Array Value} (ha : AR ρ ⟨args⟩ args') {kind : CallKind} {b : AFr} (hb : aYield N h l args kind = some b) :
    ∃ fn tm as bd, (Instr.yield p.B args').run P w = .ok (.round p.B fn tm as bd) w ∧ FrR N ρ lo nx b (Frame.round p.B fn tm as bd kind) := by
  unfold aYield at hb
  split at hb
  case h_2 => cases hb
  rename_i st pe fn t n ps as bd df hg
  split at hb
  case h_2 => cases hb
  rename_i hlen
  split at hb
  case h_2 => cases hb
  rename_i hok
  simp only [Bool.and_eq_true] at hok
  cases hb
  obtain ⟨z, q, tm, hq, ht, hc⟩ := s.getLoop hp hg
  have hlen := Nat.eq_of_beq_eq_true hlen
  rw [lenF_eq, lenF_eq] at hlen
  have hs : args'.size = ps.size := by
    have := ha.1
    simp at this hlen
    omega
  refine ⟨fn, _, as, bd, run_yield hc hs, ?_⟩
  have := yieldTmps_ok (ps := ps.toList) ha.toList ht
  have e : (ps.zip args').foldl (fun tmps (x : Tmp × Value) => tmps.setIfInBounds x.1 x.2) tm = (ps.toList.zip args'.toList).foldl (fun tmps (x : Tmp × Value) => tmps.setIfInBounds x.1 x.2) tm := by
    rw [← Array.foldl_toList, Array.toList_zip]
  show FrR N ρ lo nx _ ⟨fn, (ps.zip args').foldl (fun tmps (x : Tmp × Value) => tmps.setIfInBounds x.1 x.2) tm, _, _, _, _, _⟩
  rw [e]
  exact .mk this (.plain (.cons (.code _ hok.1) (.cons .beginRound (.cons (.code _ hok.2) .nil)))) .nil .run (.some hp)

/-- the block for the rounds' deferred calls is emptied. -/
noncomputable def aTake (N : Nat) (h : T AObj) (b : Nat) : Option (List Deferred × T AObj) :=
  match Nat.ble N b with
  | true => match h.get b with
    | some (.dfr (some ds)) => some (ds, h.set b (.dfr none))
    | _ => none
  | false => none
theorem aTake_ok (s : SI N U ws ρ h nx w) {b : Nat} {p : Pl} (hp : ρ b = some p) {ds : List Deferred} {h' : T AObj} (ht : aTake N h b = some (ds, h')) :
    ∃ ds' w', (Instr.takeDeferred p.B).run P w = .ok ds' w' ∧ SI N U ws ρ h' nx w' ∧ DsR ρ ds ds' := by
  unfold aTake at ht
  split at ht
  case h_2 => cases ht
  rename_i hN
  split at ht
  case h_2 => cases ht
  rename_i ds0 hg
  cases ht
  obtain ⟨c, hc, h0, ds', rfl, hd⟩ := s.rel b _ p hg hp
  exact ⟨ds', _, run_takeDeferred hc, s.write (Nat.le_of_ble_eq_true hN) hg hp ⟨h0, rfl⟩, hd⟩
end
end Go.Proofs.YtmiojdppkooikaaGreatDoor.Abs
namespace Go.Proofs.YtmiojdppkooikaaGreatDoor.Abs
open Go

def kindEq (a b : IntKind) : Bool := Nat.beq a.ctorIdx b.ctorIdx
theorem kindEq_ok {a b : IntKind} (h : kindEq a b = true) : a = b := by cases a <;> cases b <;> first | rfl | (exact absurd h (by decide))
noncomputable def bytesEq (a b : List UInt8) : Bool := List.rec (motive := fun _ => List UInt8 → Bool) (fun b => match b with
  | [] => true
  | _ :: _ => false) (fun x _ ih b => match b with
  | [] => false
  | y :: b => match Nat.beq x.toNat y.toNat with
    | true => ih b
    | false => false) a b
theorem bytesEq_ok : ∀ {a b : List UInt8}, bytesEq a b = true → a = b
  | [], [], _ => rfl
  | [], _ :: _, h => by cases h
  | _ :: _, [], h => by cases h
  | x :: a, y :: b, h => by
    have h : (match Nat.beq x.toNat y.toNat with
      | true => bytesEq a b
      | false => false) = true := h
    split at h
    · rename_i e
      have e := Nat.eq_of_beq_eq_true e
      rw [bytesEq_ok h, UInt8.toNat_inj.1 e]
    · cases h
def optEq (a b : Option Nat) : Bool := match a, b with
  | none, none => true
  | some a, some b => Nat.beq a b
  | _, _ => false
theorem optEq_ok {a b : Option Nat} (h : optEq a b = true) : a = b := by
  unfold optEq at h
  split at h
  · rfl
  · rw [Nat.eq_of_beq_eq_true h]
  · cases h
def addrEq (a b : Option Addr) : Bool := match a, b with
  | none, none => true
  | some ⟨a, o, none⟩, some ⟨b, p, none⟩ => and (Nat.beq a b) (Nat.beq o p)
  | _, _ => false
theorem addrEq_ok {a b : Option Addr} (h : addrEq a b = true) : a = b := by
  unfold addrEq at h
  split at h
  · rfl
  · simp only [Bool.and_eq_true] at h
    rw [Nat.eq_of_beq_eq_true h.1, Nat.eq_of_beq_eq_true h.2]
  · cases h
def fnEq (a b : Fn) : Bool := match a, b with
  | .func a, .func b => Nat.beq a b
  | .yield a, .yield b => Nat.beq a b
  | _, _ => false
theorem fnEq_ok {a b : Fn} (h : fnEq a b = true) : a = b := by
  unfold fnEq at h
  split at h
  · rw [Nat.eq_of_beq_eq_true h]
  · rw [Nat.eq_of_beq_eq_true h]
  · cases h
noncomputable def allEq (f : Value → Value → Bool) (a b : List Value) : Bool := List.rec (motive := fun _ => List Value → Bool) (fun b => match b with
  | [] => true
  | _ :: _ => false) (fun x _ ih b => match b with
  | [] => false
  | y :: b => match f x y with
    | true => ih b
    | false => false) a b
theorem allEq_ok {f : Value → Value → Bool} (hf : ∀ x y, f x y = true → x = y) : ∀ {a b : List Value}, allEq f a b = true → a = b
  | [], [], _ => rfl
  | [], _ :: _, h => by cases h
  | _ :: _, [], h => by cases h
  | x :: a, y :: b, h => by
    have h : (match f x y with
      | true => allEq f a b
      | false => false) = true := h
    split at h
    · rename_i e
      rw [allEq_ok hf h, hf _ _ e]
    · cases h
noncomputable def veq (n : Nat) : Value → Value → Bool :=
  Nat.rec (motive := fun _ => Value → Value → Bool) (fun _ _ => false) (fun _ ih a b => match a with
    | .bool x => match b with
      | .bool y => match x with
        | true => y
        | false => not y
      | _ => false
    | .int k x => match b with
      | .int k' y => and (kindEq k k') (eqI x y)
      | _ => false
    | .string x => match b with
      | .string y => bytesEq x.data.toList y.data.toList
      | _ => false
    | .pointer x => match b with
      | .pointer y => addrEq x y
      | _ => false
    | .slice x n c => match b with
      | .slice y m d => and (addrEq x y) (and (Nat.beq n m) (Nat.beq c d))
      | _ => false
    | .map x => match b with
      | .map y => optEq x y
      | _ => false
    | .func f x y => match b with
      | .func g x' y' => and (fnEq f g) (and (allEq ih x.toList x'.toList) (allEq ih y.toList y'.toList))
      | _ => false
    | .nilFunc => match b with
      | .nilFunc => true
      | _ => false
    | .nilIface => match b with
      | .nilIface => true
      | _ => false
    | .iface t x => match b with
      | .iface u y => and (Nat.beq t u) (ih x y)
      | _ => false
    | .agg x => match b with
      | .agg y => allEq ih x.toList y.toList
      | _ => false
    | .tuple x => match b with
      | .tuple y => allEq ih x.toList y.toList
      | _ => false
    | _ => false) n
theorem arrEq {α : Type} {a b : Array α} (h : a.toList = b.toList) : a = b := Array.ext' h
theorem veq_ok : ∀ (n : Nat) (a b : Value), veq n a b = true → a = b := by
  intro n
  induction n with
  | zero => intro a b h; cases (show false = true from h)
  | succ n ih =>
    intro a b h
    cases a <;> cases b <;> first | (cases (show false = true from h); done) | skip
    case bool x y => cases x <;> cases y <;> first | rfl | (cases (show false = true from h))
    case int.int k x k' y =>
      have h : and (kindEq k k') (eqI x y) = true := h
      simp only [Bool.and_eq_true] at h
      rw [kindEq_ok h.1, show x = y by simpa [eqI_eq] using h.2]
    case string.string x y =>
      have h : bytesEq x.data.toList y.data.toList = true := h
      have := arrEq (bytesEq_ok h)
      cases x; cases y; simp only at this; rw [this]
    case pointer.pointer x y => rw [addrEq_ok (show addrEq x y = true from h)]
    case slice.slice x n c y m d =>
      have h : and (addrEq x y) (and (Nat.beq n m) (Nat.beq c d)) = true := h
      simp only [Bool.and_eq_true] at h
      rw [addrEq_ok h.1, Nat.eq_of_beq_eq_true h.2.1, Nat.eq_of_beq_eq_true h.2.2]
    case map.map x y => rw [optEq_ok (show optEq x y = true from h)]
    case func.func f x y g x' y' =>
      have h : and (fnEq f g) (and (allEq (veq n) x.toList x'.toList) (allEq (veq n) y.toList y'.toList)) = true := h
      simp only [Bool.and_eq_true] at h
      rw [fnEq_ok h.1, arrEq (allEq_ok ih h.2.1), arrEq (allEq_ok ih h.2.2)]
    case nilFunc.nilFunc => rfl
    case nilIface.nilIface => rfl
    case iface.iface t x u y =>
      have h : and (Nat.beq t u) (veq n x y) = true := h
      simp only [Bool.and_eq_true] at h
      rw [Nat.eq_of_beq_eq_true h.1, ih _ _ h.2]
    case agg.agg x y =>
      have h : allEq (veq n) x.toList y.toList = true := h
      rw [arrEq (allEq_ok ih h)]
    case tuple.tuple x y =>
      have h : allEq (veq n) x.toList y.toList = true := h
      rw [arrEq (allEq_ok ih h)]
noncomputable def ovEq (n : Nat) (a b : Option Value) : Bool := match a with
  | none => match b with
    | none => true
    | some _ => false
  | some x => match b with
    | none => false
    | some y => veq n x y
theorem ovEq_ok {n : Nat} {a b : Option Value} (h : ovEq n a b = true) : a = b := by
  unfold ovEq at h
  split at h <;> split at h <;> first | rfl | (cases h; done) | (rw [veq_ok _ _ _ h])
noncomputable def teq (n : Nat) (a : T Value) : T Value → Bool :=
  T.rec (motive := fun _ => T Value → Bool) (fun b => match b with
    | .leaf => true
    | .node _ _ _ => false) (fun _ v _ ihl ihr b => match b with
    | .leaf => false
    | .node l' v' r' => match ovEq n v v' with
      | true => match ihl l' with
        | true => ihr r'
        | false => false
      | false => false) a
theorem teq_ok {n : Nat} : ∀ {a b : T Value}, teq n a b = true → a = b := by
  intro a
  induction a with
  | leaf => intro b h; cases b with
    | leaf => rfl
    | node _ _ _ => cases (show false = true from h)
  | node l v r ihl ihr =>
    intro b h
    cases b with
    | leaf => cases (show false = true from h)
    | node l' v' r' =>
      have h : (match ovEq n v v' with
        | true => match teq n l l' with
          | true => teq n r r'
          | false => false
        | false => false) = true := h
      split at h
      · rename_i e1
        split at h
        · rename_i e2
          rw [ovEq_ok e1, ihl e2, ihr h]
        · cases h
      · cases h
/-- a new block, seen again. -/
noncomputable def oeq (a b : AObj) : Bool := match a with
  | .cells t n e => match b with
    | .cells t' n' e' => and (and (Nat.beq n n') (Nat.beq e e')) (teq 8 t t')
    | _ => false
  | .map es c => match es with
    | [] => match b with
      | .map es' c' => match es' with
        | [] => Nat.beq c c'
        | _ :: _ => false
      | _ => false
    | _ :: _ => false
  | _ => false
theorem oeq_ok {a b : AObj} (h : oeq a b = true) : a = b := by
  unfold oeq at h
  split at h
  · split at h
    · simp only [Bool.and_eq_true] at h
      rw [teq_ok h.2, Nat.eq_of_beq_eq_true h.1.1, Nat.eq_of_beq_eq_true h.1.2]
    · cases h
  · split at h
    · split at h
      · split at h
        · rw [Nat.eq_of_beq_eq_true h]
        · cases h
      · cases h
    · cases h
  · cases h
end Go.Proofs.YtmiojdppkooikaaGreatDoor.Abs
namespace Go.Proofs.YtmiojdppkooikaaGreatDoor.Abs
open Go

section
variable {P : Program} {fn : Nat} {tm : Array Value} {all : Array Oper} {i : Nat} {rest : List Nat} {k : List Item} {ds : List Deferred} {kind : CallKind} {ro : Option Nat} {cs : List Frame} {w w' : World} {o : Oper}
theorem eval_act (fr : Frame) (ds : List Deferred) : fr.eval = (⟨fr.tmps, ds⟩ : Act).eval := funext fun x => by cases x <;> rfl
def notDefer : Op → Bool
  | .defer _ => false
  | _ => true
theorem oper_eq (ho : all[i]? = some o) (hw : Region.wanted o (yielded all tm) = true) (hd : ro = none ∨ notDefer o.op = true) :
    stepG P true { frame := ⟨fn, tm, .inRegion all (i :: rest) :: k, ds, .run, kind, ro⟩, callers := cs, status := .running, dying := none } w =
      stepG.apply P true ⟨fn, tm, .inRegion all (i :: rest) :: k, ds, .run, kind, ro⟩ cs none (execOp (⟨tm, ds⟩ : Act).eval o) w := by
  have e := eval_act ⟨fn, tm, .inRegion all (i :: rest) :: k, ds, .run, kind, ro⟩ ds
  simp only [] at e
  simp only [stepG, stepG.exec, ho, Option.map_some, hw, Option.getD_some, if_true, stepG.oper, Frame.oper?]
  rcases hd with rfl | hd
  · rw [e]
  · cases hop : o.op <;> rw [hop] at hd <;> first | (cases (show false = true from hd); done) | (cases ro <;> simp only [hop] <;> rw [e])
theorem step_unwanted (ho : all[i]? = some o) (hw : Region.wanted o (yielded all tm) = false) :
    step P (lone ⟨fn, tm, .inRegion all (i :: rest) :: k, ds, .run, kind, ro⟩ cs w) =
      .next (lone (Frame.finish ⟨fn, tm, .inRegion all (i :: rest) :: k, ds, .run, kind, ro⟩ undef) cs w) :=
  step_lone_go (by simp [stepG, stepG.exec, ho, hw])
theorem step_value (ho : all[i]? = some o) (hw : Region.wanted o (yielded all tm) = true) (hd : ro = none ∨ notDefer o.op = true) {v : Value} (hr : (execOp (⟨tm, ds⟩ : Act).eval o).run P w = .ok (.value v) w') :
    step P (lone ⟨fn, tm, .inRegion all (i :: rest) :: k, ds, .run, kind, ro⟩ cs w) =
      .next (lone (Frame.finish ⟨fn, tm, .inRegion all (i :: rest) :: k, ds, .run, kind, ro⟩ v) cs w') :=
  step_lone_go (by rw [oper_eq ho hw hd]; simp [stepG.apply, hr])
theorem step_skipped (ho : all[i]? = some o) (hw : Region.wanted o (yielded all tm) = true) (hd : ro = none ∨ notDefer o.op = true) (hr : (execOp (⟨tm, ds⟩ : Act).eval o).run P w = .ok .skip w') :
    step P (lone ⟨fn, tm, .inRegion all (i :: rest) :: k, ds, .run, kind, ro⟩ cs w) =
      .next (lone (Frame.finish ⟨fn, tm, .inRegion all (i :: rest) :: k, ds, .run, kind, ro⟩ undef) cs w') :=
  step_lone_go (by rw [oper_eq ho hw hd]; simp [stepG.apply, hr])
end

/- ---------- what an operation looks at ---------- -/
noncomputable def tmpsOf (l : List Operand) : List Nat := List.rec (motive := fun _ => List Nat) [] (fun x _ ih => match x with
  | .tmp d => d :: ih
  | _ => ih) l
theorem tmpsOf_mem : ∀ {l : List Operand} {d : Nat}, .tmp d ∈ l → d ∈ tmpsOf l
  | x :: l, d, h => by
    show d ∈ (match x with | .tmp d => d :: tmpsOf l | _ => tmpsOf l)
    rcases List.mem_cons.1 h with rfl | h
    · exact List.mem_cons_self
    · have := tmpsOf_mem (l := l) h
      cases x <;> first | exact List.mem_cons_of_mem _ this | exact this
noncomputable def guardTmp (all : Array Oper) (o : Oper) : List Nat :=
  match o.guard with
  | some (j, _) => match nth all.toList j with
    | some oj => match oj.dst with
      | some d => [d]
      | none => []
    | none => []
  | none => []
noncomputable def sees (all : Array Oper) (o : Oper) : List Nat := app (guardTmp all o) (tmpsOf o.op.operands.toList)
noncomputable def awant (all : Array Oper) (t : T Value) (o : Oper) : Bool :=
  match o.guard with
  | some (j, want) => match nth all.toList j with
    | some oj => match oj.dst with
      | some d => match t.get d with
        | some (.bool x) => match x with
          | true => want
          | false => not want
        | _ => false
      | none => false
    | none => false
  | none => true
theorem awant_ok {all : Array Oper} {ρ : Ren} {t : T Value} {n : Nat} {tm : Array Value} (h : TmR ρ t n tm) (o : Oper) : Region.wanted o (yielded all tm) = awant all t o := by
  unfold Region.wanted awant
  split
  · rename_i hg; simp only [hg]
  · rename_i j want hg
    simp only [hg, nth_eq, Array.getElem?_toList, yielded]
    cases hj : all[j]? with
    | none => rfl
    | some oj =>
      simp only [Option.bind_some]
      cases hd : oj.dst with
      | none => rfl
      | some d =>
        simp only [Option.bind_some]
        have hv := h.at d
        rw [Array.getD_eq_getD_getElem?] at hv
        cases ht : t.get d with
        | none =>
          rw [ht] at hv
          simp only [Option.getD_none] at hv
          cases hm : tm[d]? with
          | none => rfl
          | some v =>
            rw [hm] at hv
            simp only [Option.getD_some] at hv
            have : v = undef := pureV_eq (n := 3) (by decide) hv
            rw [this]; rfl
        | some v =>
          rw [ht] at hv
          simp only [Option.getD_some] at hv
          cases hm : tm[d]? with
          | none =>
            rw [hm] at hv
            simp only [Option.getD_none] at hv
            generalize hu : undef = u at hv
            cases hv <;> first | rfl | cases hu
          | some v' =>
            rw [hm] at hv
            simp only [Option.getD_some] at hv
            cases hv <;> first | rfl | skip
            rename_i b
            cases b <;> cases want <;> rfl

section
variable {t t' : T Value}
theorem mapA_congr : ∀ (l : List Operand), (∀ x ∈ l, aev t x = aev t' x) → mapA t l = mapA t' l
  | [], _ => rfl
  | x :: l, h => by
    show aev t x :: mapA t l = aev t' x :: mapA t' l
    rw [h x (by simp), mapA_congr l fun y hy => h y (by simp [hy])]
theorem mapP_congr : ∀ (l : List (Nat × Operand)), (∀ x ∈ l.map (·.2), aev t x = aev t' x) → mapP t l = mapP t' l
  | [], _ => rfl
  | x :: l, h => by
    show (x.1, aev t x.2) :: mapP t l = (x.1, aev t' x.2) :: mapP t' l
    rw [h x.2 (by simp), mapP_congr l fun y hy => h y (by simp only [List.map_cons, List.mem_cons]; exact .inr hy)]
theorem mapO_congr : ∀ (x : Option Operand), (∀ y, x = some y → aev t y = aev t' y) → mapO t x = mapO t' x
  | none, _ => rfl
  | some x, h => by show some (aev t x) = some (aev t' x); rw [h x rfl]
theorem qop_congr {P : Program} {E : Env} {h : T AObj} {id : Nat} {op : Op} (hx : ∀ x ∈ op.operands, aev t x = aev t' x) : qop P E h id t op = qop P E h id t' op := by
  cases op <;> simp only [qop]
  case move x => rw [hx x (by simp [Op.operands])]
  case assign x => rw [hx x (by simp [Op.operands])]
  case pick c x y => rw [hx c (by simp [Op.operands]), hx x (by simp [Op.operands]), hx y (by simp [Op.operands])]
  case box e x => rw [hx x (by simp [Op.operands])]
  case build ty ps => rw [mapP_congr ps.toList (fun x h => hx x (by simpa [Op.operands] using h))]
  case buildSlice ty n ps => rw [mapP_congr ps.toList (fun x h => hx x (by simpa [Op.operands] using h))]
  case load ty a => rw [hx a (by simp [Op.operands])]
  case nilCheck x => rw [hx x (by simp [Op.operands])]
  case binOp op ty x y yt => rw [hx x (by simp [Op.operands]), hx y (by simp [Op.operands])]
  case unOp op ty x => rw [hx x (by simp [Op.operands])]
  case convert a b x => rw [hx x (by simp [Op.operands])]
  case makeInterface ty x => rw [hx x (by simp [Op.operands])]
  case makeFunc fn fs cs =>
    rw [mapA_congr fs.toList (fun x h => hx x (by simp only [Op.operands]; exact Array.mem_append.2 (.inl (by simpa using h)))),
      mapA_congr cs.toList (fun x h => hx x (by simp only [Op.operands]; exact Array.mem_append.2 (.inr (by simpa using h))))]
  case makeSlice ty l c => rw [hx l (by simp [Op.operands]), hx c (by simp [Op.operands])]
  case slice ty x lo hi mx =>
    rw [hx x (by simp [Op.operands]), mapO_congr lo (fun z e => hx z (by simp [Op.operands, e])), mapO_congr hi (fun z e => hx z (by simp [Op.operands, e])), mapO_congr mx (fun z e => hx z (by simp [Op.operands, e]))]
  case fieldAddr s x f => rw [hx x (by simp [Op.operands])]
  case field ty x f => rw [hx x (by simp [Op.operands])]
  case indexAddr ty x i => rw [hx x (by simp [Op.operands]), hx i (by simp [Op.operands])]
  case index ty x i => rw [hx x (by simp [Op.operands]), hx i (by simp [Op.operands])]
  case lookup ty m k ok => rw [hx m (by simp [Op.operands]), hx k (by simp [Op.operands])]
  case range ty x => rw [hx x (by simp [Op.operands])]
  case entry x => rw [hx x (by simp [Op.operands])]
  case typeAssert x _ a ok => rw [hx x (by simp [Op.operands])]
  case extract x i => rw [hx x (by simp [Op.operands])]
  case call c =>
    obtain ⟨callee, args, argTypes⟩ := c
    cases callee <;> simp only []
    rename_i b
    obtain ⟨args⟩ := args
    have hm : ∀ x ∈ args, aev t x = aev t' x := fun x h => hx x (by simpa [Op.operands, Call.operands] using h)
    cases b <;> simp only [qBuiltin] <;> (split <;> first | rfl | (simp only [hm _ (List.mem_cons_self)]; try simp only [hm _ (List.mem_cons_of_mem _ List.mem_cons_self)]))
theorem xop_congr {P : Program} {E : Env} {h : T AObj} {nx : Nat} {op : Op} (hx : ∀ x ∈ op.operands, aev t x = aev t' x) : xop P E h nx t op = xop P E h nx t' op := by
  have hq := fun id => qop_congr (P := P) (E := E) (h := h) (id := id) hx
  cases op <;> simp only [xop] <;> try (first | rw [hq nx])
  case store ty a x => rw [hx a (by simp [Op.operands]), hx x (by simp [Op.operands])]
  case mapUpdate ty m k x => rw [hx m (by simp [Op.operands]), hx k (by simp [Op.operands]), hx x (by simp [Op.operands])]
  case insert ty m k x => rw [hx m (by simp [Op.operands]), hx k (by simp [Op.operands]), hx x (by simp [Op.operands])]
  case next it s => rw [hx it (by simp [Op.operands])]
  case call c =>
    obtain ⟨callee, args, argTypes⟩ := c
    cases callee <;> simp only []
    rename_i b
    have hq := hq nx
    simp only [qop] at hq
    obtain ⟨args⟩ := args
    have hm : ∀ x ∈ args, aev t x = aev t' x := fun x h => hx x (by simpa [Op.operands, Call.operands] using h)
    cases b <;> simp only [eBuiltin] <;> first
      | (rw [hq]; done)
      | (split <;> first | rfl | (simp only [hm _ (List.mem_cons_self)]; try simp only [hm _ (List.mem_cons_of_mem _ List.mem_cons_self)]))
theorem aresolve_congr {c : Call} (hx : ∀ x ∈ c.operands, aev t x = aev t' x) : aresolve t c = aresolve t' c := by
  unfold aresolve
  split
  · rename_i f hf
    rw [hx f (by simp [Call.operands, hf]), mapA_congr c.args.toList (fun x h => hx x (by simp [Call.operands, hf]; exact .inr (by simpa using h)))]
  · rfl
theorem awant_congr {all : Array Oper} {o : Oper} (hx : ∀ x ∈ guardTmp all o, t.get x = t'.get x) : awant all t o = awant all t' o := by
  unfold awant
  split
  · rename_i j want hg
    split
    · rename_i oj hj
      split
      · rename_i d hd
        rw [hx d (by simp [guardTmp, hg, hj, hd])]
      · rfl
    · rfl
  · rfl
theorem aev_sees {all : Array Oper} {o : Oper} (hx : ∀ x ∈ sees all o, t.get x = t'.get x) : (∀ x ∈ o.op.operands, aev t x = aev t' x) ∧ ∀ x ∈ guardTmp all o, t.get x = t'.get x := by
  unfold sees at hx
  simp only [app_eq] at hx
  refine ⟨fun x hm => ?_, fun x hm => hx x (List.mem_append.2 (.inl hm))⟩
  cases x with
  | tmp d =>
    have := hx d (List.mem_append.2 (.inr (tmpsOf_mem (by simpa using hm))))
    show (match t.get d with | some v => v | none => undef) = (match t'.get d with | some v => v | none => undef)
    rw [this]
  | _ => rfl
end
end Go.Proofs.YtmiojdppkooikaaGreatDoor.Abs
namespace Go.Proofs.YtmiojdppkooikaaGreatDoor.Abs
open Go

def bindsAny (e : Edge) : Bool := match e.ground with
  | .textOnly _ => false
  | .gcOnly _ => false
  | _ => true
theorem bindsAny_eq (e : Edge) : Region.binds .any e = bindsAny e := by
  unfold Region.binds bindsAny
  cases e.ground <;> rfl
noncomputable def hasBit (m k : Nat) : Bool := Nat.beq (Nat.land 1 (Nat.shiftRight m k)) 1
theorem hasBit_ok {m k : Nat} (h : hasBit m k = true) : m.testBit k = true := by
  have h := Nat.eq_of_beq_eq_true h
  have e : Nat.land 1 (Nat.shiftRight m k) = 1 &&& (m >>> k) := rfl
  rw [e] at h
  unfold Nat.testBit
  rw [h]; rfl
noncomputable def maskOr (acc : T Nat) (k : Nat) : Nat := match acc.get k with
  | some m => Nat.lor (Nat.shiftLeft 1 k) m
  | none => Nat.shiftLeft 1 k
noncomputable def maskOf (acc : T Nat) (i : Nat) (es : List Edge) : Nat :=
  List.rec (motive := fun _ => Nat) 0 (fun e _ ih => match bindsAny e with
    | true => match Nat.blt e.on i with
      | true => Nat.lor (maskOr acc e.on) ih
      | false => ih
    | false => ih) es
noncomputable def masksGo (l : List Oper) : Nat → T Nat → T Nat :=
  List.rec (motive := fun _ => Nat → T Nat → T Nat) (fun _ acc => acc) (fun o _ ih i acc => ih (Nat.add i 1) (acc.set i (maskOf acc i o.after.toList))) l
noncomputable def masks (l : List Oper) : T Nat := masksGo l 0 .leaf
theorem maskOr_bit {acc : T Nat} {k j : Nat} (h : (maskOr acc k).testBit j = true) : j = k ∨ ∃ m, acc.get k = some m ∧ m.testBit j = true := by
  have one : ∀ k j : Nat, (1 <<< k).testBit j = true → j = k := fun k j h => by
    rw [Nat.one_shiftLeft, Nat.testBit_two_pow] at h
    exact (of_decide_eq_true h).symm
  unfold maskOr at h
  split at h
  · rename_i m hm
    have h : (1 <<< k ||| m).testBit j = true := h
    rw [Nat.testBit_or, Bool.or_eq_true] at h
    rcases h with h | h
    · exact .inl (one _ _ h)
    · exact .inr ⟨m, hm, h⟩
  · exact .inl (one _ _ h)
theorem maskOf_ok {all : Array Oper} {acc : T Nat} (hacc : MskOK all acc) {i : Nat} {o : Oper} (ho : all[i]? = some o) : ∀ (es : List Edge), (∀ e ∈ es, e ∈ o.after.toList) →
    ∀ k, (maskOf acc i es).testBit k = true → k < i ∧ ∀ is, DC all is → i ∉ is → k ∉ is := by
  intro es
  induction es with
  | nil => intro _ k h; have h : (0 : Nat).testBit k = true := h; simp at h
  | cons e es ih =>
    intro hes k h
    have ih := ih (fun x hx => hes x (List.mem_cons_of_mem _ hx)) k
    have h : (match bindsAny e with
      | true => match Nat.blt e.on i with
        | true => Nat.lor (maskOr acc e.on) (maskOf acc i es)
        | false => maskOf acc i es
      | false => maskOf acc i es).testBit k = true := h
    split at h
    · rename_i hb
      split at h
      · rename_i hl
        rw [Nat.blt_eq] at hl
        have h : (maskOr acc e.on ||| maskOf acc i es).testBit k = true := h
        rw [Nat.testBit_or, Bool.or_eq_true] at h
        rcases h with h | h
        · have hpred : ∀ is, DC all is → i ∉ is → e.on ∉ is := fun is hd hi => hd i o ho hi e (hes e List.mem_cons_self) (by rw [bindsAny_eq]; exact hb)
          rcases maskOr_bit h with rfl | ⟨m, hm, hk⟩
          · exact ⟨hl, hpred⟩
          · obtain ⟨h1, h2⟩ := hacc _ m hm k hk
            exact ⟨by omega, fun is hd hi => h2 is hd (hpred is hd hi)⟩
        · exact ih h
      · exact ih h
    · exact ih h
theorem masksGo_ok {all : Array Oper} : ∀ (l : List Oper) (i : Nat) (acc : T Nat), (∀ (j : Nat) (o : Oper), l[j]? = some o → all[i + j]? = some o) → MskOK all acc → MskOK all (masksGo l i acc) := by
  intro l
  induction l with
  | nil => intro i acc _ h; exact h
  | cons o l ih =>
    intro i acc hl h
    show MskOK all (masksGo l (i + 1) (acc.set i (maskOf acc i o.after.toList)))
    refine ih _ _ (fun j o' e => by rw [show i + 1 + j = i + (j + 1) by omega]; exact hl (j + 1) o' (by simpa using e)) ?_
    intro x m hm k hk
    rw [T.get_set] at hm
    split at hm
    · rename_i e; subst e
      cases hm
      exact maskOf_ok h (by simpa using hl 0 o rfl) _ (fun e he => he) k hk
    · exact h x m hm k hk
theorem masks_ok (all : Array Oper) : MskOK all (masks all.toList) :=
  masksGo_ok _ _ _ (fun j o e => by simpa using e) (fun i m h => by simp at h)
noncomputable def before (msk : T Nat) (k i : Nat) : Bool := match msk.get i with
  | some m => hasBit m k
  | none => false
theorem before_ok {all : Array Oper} {msk : T Nat} (hm : MskOK all msk) {k i : Nat} (h : before msk k i = true) : k < i ∧ ∀ is, DC all is → i ∉ is → k ∉ is := by
  unfold before at h
  split at h
  · rename_i m e; exact hm i m e k (hasBit_ok h)
  · cases h

noncomputable def hasNo (l : List Nat) (n : Nat) : Bool := match hasN l n with
  | true => false
  | false => true
noncomputable def rem (j : Nat) (l : List Nat) : List Nat := List.rec (motive := fun _ => List Nat) [] (fun x _ ih => match Nat.beq x j with
  | true => ih
  | false => x :: ih) l
theorem mem_rem {j : Nat} : ∀ {l : List Nat} {x : Nat}, x ∈ rem j l ↔ x ∈ l ∧ x ≠ j
  | [], x => by simp [rem]
  | y :: l, x => by
    have ih := mem_rem (j := j) (l := l) (x := x)
    have e : rem j (y :: l) = (match Nat.beq y j with
      | true => rem j l
      | false => y :: rem j l) := rfl
    rw [e]
    split
    · rename_i h
      have h := Nat.eq_of_beq_eq_true h
      rw [ih]
      simp only [List.mem_cons]
      constructor
      · rintro ⟨h1, h2⟩; exact ⟨.inr h1, h2⟩
      · rintro ⟨h1, h2⟩
        rcases h1 with rfl | h1
        · exact absurd h h2
        · exact ⟨h1, h2⟩
    · rename_i h
      have h := Nat.ne_of_beq_eq_false h
      simp only [List.mem_cons, ih]
      constructor
      · rintro (rfl | ⟨h1, h2⟩)
        · exact ⟨.inl rfl, h⟩
        · exact ⟨.inr h1, h2⟩
      · rintro ⟨rfl | h1, h2⟩
        · exact .inl rfl
        · exact .inr ⟨h1, h2⟩
/-- what is pending and writes what the operation sees comes before it. -/
noncomputable def freeOf (all : Array Oper) (msk : T Nat) (j : Nat) (seen : List Nat) (pend : List (Nat × Nat)) : Bool :=
  List.rec (motive := fun _ => Bool) true (fun x _ ih => match nth all.toList x.1 with
    | none => false
    | some o => match o.dst with
      | none => ih
      | some d => match hasN seen d with
        | false => ih
        | true => match before msk x.1 j with
          | true => ih
          | false => false) pend
theorem freeOf_ok {all : Array Oper} {msk : T Nat} {j : Nat} {seen : List Nat} : ∀ {pend : List (Nat × Nat)}, freeOf all msk j seen pend = true → ∀ i id, (i, id) ∈ pend → ∀ d ∈ seen, dstOf all i = some d → before msk i j = true
  | [], _, i, id, hm => by simp at hm
  | x :: pend, h, i, id, hm => by
    intro d hd hdst
    have h : (match nth all.toList x.1 with
    | none => false
    | some o => match o.dst with
      | none => freeOf all msk j seen pend
      | some d => match hasN seen d with
        | false => freeOf all msk j seen pend
        | true => match before msk x.1 j with
          | true => freeOf all msk j seen pend
          | false => false) = true := h
    split at h
    · cases h
    rename_i o ho
    rw [nth_eq, Array.getElem?_toList] at ho
    have tail : ∀ {c : Bool}, c = freeOf all msk j seen pend → c = true → (i, id) ∈ pend → before msk i j = true := fun e h hm => freeOf_ok (e ▸ h) i id hm d hd hdst
    split at h
    · rename_i hn
      rcases List.mem_cons.1 hm with rfl | hm
      · simp [dstOf, ho, hn] at hdst
      · exact tail rfl h hm
    · rename_i d' hn
      split at h
      · rename_i hs
        rcases List.mem_cons.1 hm with rfl | hm
        · have : d' = d := by simpa [dstOf, ho, hn] using hdst
          subst this
          rw [hasN_eq] at hs
          simp [hd] at hs
        · exact tail rfl h hm
      · split at h
        · rename_i hb
          rcases List.mem_cons.1 hm with rfl | hm
          · exact hb
          · exact tail rfl h hm
        · cases h
end Go.Proofs.YtmiojdppkooikaaGreatDoor.Abs
namespace Go.Proofs.YtmiojdppkooikaaGreatDoor.Abs
open Go

noncomputable def stored (t : T Value) (n : Nat) (dst : Option Nat) (v : Value) : Bool :=
  match dst with
  | none => true
  | some d => match Nat.blt d n with
    | true => match t.get d with
      | some x => veq 8 x v
      | none => false
    | false => false
theorem stored_ok {t : T Value} {n : Nat} {dst : Option Nat} {v : Value} (h : stored t n dst v = true) {d : Nat} (hd : dst = some d) : d < n ∧ t.get d = some v := by
  subst hd
  unfold stored at h
  simp only [] at h
  split at h
  · rename_i hb
    split at h
    · rename_i x hx
      rw [veq_ok _ _ _ h] at hx
      exact ⟨by rwa [Nat.blt_eq] at hb, hx⟩
    · cases h
  · cases h
noncomputable def seenNew (h : T AObj) (id : Nat) (ob : AObj) : Bool := match h.get id with
  | some ob' => oeq ob' ob
  | none => false
noncomputable def chkOne (P : Program) (E : Env) (h : T AObj) (t : T Value) (n : Nat) (all : Array Oper) (msk : T Nat) (pend : List (Nat × Nat)) (x : Nat × Nat) : Bool :=
  match nth all.toList x.1 with
  | none => false
  | some o => match freeOf all msk x.1 (sees all o) pend with
    | false => false
    | true => match awant all t o with
      | false => stored t n o.dst undef
      | true => match qop P E h x.2 t o.op with
        | .val v => stored t n o.dst v
        | .new ob v => match stored t n o.dst v with
          | true => seenNew h x.2 ob
          | false => false
        | _ => false
noncomputable def chkAll (P : Program) (E : Env) (h : T AObj) (t : T Value) (n : Nat) (all : Array Oper) (msk : T Nat) (pend l : List (Nat × Nat)) : Bool :=
  List.rec (motive := fun _ => Bool) true (fun x _ ih => match chkOne P E h t n all msk pend x with
    | true => ih
    | false => false) l
theorem chkAll_ok {P : Program} {E : Env} {h : T AObj} {t : T Value} {n : Nat} {all : Array Oper} {msk : T Nat} {pend : List (Nat × Nat)} : ∀ {l : List (Nat × Nat)}, chkAll P E h t n all msk pend l = true → ∀ x ∈ l, chkOne P E h t n all msk pend x = true
  | [], _, x, hx => by simp at hx
  | y :: l, hc, x, hx => by
    have hc : (match chkOne P E h t n all msk pend y with
    | true => chkAll P E h t n all msk pend l
    | false => false) = true := hc
    split at hc
    · rename_i e
      rcases List.mem_cons.1 hx with rfl | hx
      · exact e
      · exact chkAll_ok hc x hx
    · cases hc
theorem ids_inj {pend : List (Nat × Nat)} (h : (pend.map (·.2)).Nodup) {i j id : Nat} (h1 : (i, id) ∈ pend) (h2 : (j, id) ∈ pend) : i = j := by
  induction pend with
  | nil => simp at h1
  | cons x l ih =>
    simp only [List.map_cons, List.nodup_cons, List.mem_map] at h
    rcases List.mem_cons.1 h1 with e1 | m1 <;> rcases List.mem_cons.1 h2 with e2 | m2
    · rw [← e1] at e2; cases e2; rfl
    · exact absurd ⟨_, m2, by rw [← e1]⟩ h.1
    · exact absurd ⟨_, m1, by rw [← e2]⟩ h.1
    · exact ih h.2 m1 m2

section
variable {P : Program} {U : Nat → Prop} {ws : World} {h : T AObj} {lo nx : Nat} {all : Array Oper} {msk : T Nat} {run : List Nat} {pend : List (Nat × Nat)} {t : T Value} {n : Nat}
theorem drain (hmk : MskOK all msk) (hchk : ∀ x ∈ pend, chkOne P (envOf P) h t n all msk pend x = true) (hok : okOps (envOf P).N all.toList = true) {fn : Nat} {k : List Item} {ds : List Deferred} {kind : CallKind} {ro : Option Nat} {cs : List Frame} :
    ∀ (is : List Nat) (ρ : Ren) (w : World) (t' : T Value) (tm : Array Value), DrR all ρ lo nx run pend is → SI (envOf P).N U ws ρ h nx w → TmR ρ t' n tm → Agr all pend is t t' →
      ∃ is' ρ' w' t'' tm', Steps P (lone ⟨fn, tm, .inRegion all is :: k, ds, .run, kind, ro⟩ cs w) (lone ⟨fn, tm', .inRegion all is' :: k, ds, .run, kind, ro⟩ cs w') ∧
        Ex lo ρ ρ' ∧ SI (envOf P).N U ws ρ' h nx w' ∧ TmR ρ' t'' n tm' ∧ Agr all pend is' t t'' ∧ DrR all ρ' lo nx run pend is' ∧ (is' = [] ∨ ∃ e rest, is' = e :: rest ∧ e ∈ run) := by
  intro is
  induction is with
  | nil => intro ρ w t' tm hd hs ht ha; exact ⟨[], ρ, w, t', tm, Steps.refl P _, Ex.refl lo ρ, hs, ht, ha, hd, .inl rfl⟩
  | cons i rest ih =>
    intro ρ w t' tm hd hs ht ha
    by_cases hir : i ∈ run
    · exact ⟨i :: rest, ρ, w, t', tm, Steps.refl P _, Ex.refl lo ρ, hs, ht, ha, hd, .inr ⟨i, rest, rfl, hir⟩⟩
    obtain ⟨id, hp⟩ := (hd.mem i List.mem_cons_self).resolve_left hir
    obtain ⟨hlin, hinot, hlt⟩ : Lin all rest ∧ i ∉ rest ∧ i < all.size := by cases hd.lin with | cons _ h2 h3 h4 => exact ⟨h4, h2, h3⟩
    have hc := hchk _ hp
    unfold chkOne at hc
    split at hc
    · cases hc
    rename_i o ho
    rw [nth_eq, Array.getElem?_toList] at ho
    split at hc
    · cases hc
    rename_i hfree
    -- what the operation sees is in place
    have agree : ∀ x ∈ sees all o, t.get x = t'.get x := fun x hx => (ha x fun i' id' hp' hi' hdst => by
      obtain ⟨hlt', hcl⟩ := before_ok hmk (freeOf_ok hfree i' id' hp' x hx hdst)
      rcases List.mem_cons.1 hi' with rfl | hi'
      · exact absurd hlt' (Nat.lt_irrefl _)
      · exact hcl rest hlin.dc hinot hi').symm
    obtain ⟨hev, hgd⟩ := aev_sees agree
    have hwant : Region.wanted o (yielded all tm) = awant all t o := by rw [awant_ok ht o]; exact (awant_congr hgd).symm
    have hko : okOp (envOf P).N o.op = true := List.all_eq_true.1 hok o (by simpa using Array.mem_of_getElem? ho)
    have hdst : dstOf all i = o.dst := by simp [dstOf, ho]
    -- the rest of the relation, once the value is laid
    have next : ∀ (ρ' : Ren) (w' : World) (v v' : Value), Ex lo ρ ρ' → (∀ x q, x ≠ id → ρ x = q → ρ' x = q) → SI (envOf P).N U ws ρ' h nx w' → VR ρ' v v' → stored t n o.dst v = true →
        step P (lone ⟨fn, tm, .inRegion all (i :: rest) :: k, ds, .run, kind, ro⟩ cs w) = .next (lone (Frame.finish ⟨fn, tm, .inRegion all (i :: rest) :: k, ds, .run, kind, ro⟩ v') cs w') →
        ∃ is' ρ' w' t'' tm', Steps P (lone ⟨fn, tm, .inRegion all (i :: rest) :: k, ds, .run, kind, ro⟩ cs w) (lone ⟨fn, tm', .inRegion all is' :: k, ds, .run, kind, ro⟩ cs w') ∧
        Ex lo ρ ρ' ∧ SI (envOf P).N U ws ρ' h nx w' ∧ TmR ρ' t'' n tm' ∧ Agr all pend is' t t'' ∧ DrR all ρ' lo nx run pend is' ∧ (is' = [] ∨ ∃ e rest, is' = e :: rest ∧ e ∈ run) := by
      intro ρ' w' v v' hex hkeep hs' hv hst hstep
      have hd' : DrR all ρ' lo nx run pend rest := ⟨hlin, fun j hj => hd.mem j (List.mem_cons_of_mem _ hj), fun j hj => (List.mem_cons.1 (hd.run j hj)).resolve_left (fun e => hir (e ▸ hj)),
        fun j jd hm hj => hkeep jd none (fun e => hinot (by rw [e] at hm; rw [ids_inj hd.ids hp hm]; exact hj)) (hd.gh j jd hm (List.mem_cons_of_mem _ hj)), hd.gn, hd.ids⟩
      have hfin : Frame.finish ⟨fn, tm, .inRegion all (i :: rest) :: k, ds, .run, kind, ro⟩ v' = ⟨fn, putArr tm o.dst v', .inRegion all rest :: k, ds, .run, kind, ro⟩ := by
        simp only [Frame.finish, ho, Option.bind_some]
        cases o.dst <;> rfl
      have ht' := tput_TmR (ht.mono hex.1) o.dst hv
      have ha' : Agr all pend rest t (tput t' n o.dst v) := by
        intro x hx
        by_cases hxd : o.dst = some x
        · obtain ⟨h1, h2⟩ := stored_ok hst hxd
          rw [hxd]
          have hb : Nat.blt x n = true := by rw [Nat.blt_eq]; exact h1
          unfold tput
          simp only [hb]
          rw [T.get_set_self, h2]
        · have : (tput t' n o.dst v).get x = t'.get x := by
            unfold tput
            split
            · rename_i dd hdd
              split
              · rw [T.get_set_ne _ _ (fun e => hxd (by rw [hdd, e]))]
              · rfl
            · rfl
          rw [this]
          exact ha x fun i' id' hp' hi' hdst' => by
            rcases List.mem_cons.1 hi' with rfl | hi'
            · rw [hdst] at hdst'; exact hxd hdst'
            · exact hx i' id' hp' hi' hdst'
      obtain ⟨is', ρ₂, w₂, t₂, tm₂, s1, s2, s3, s4, s5, s6, s7⟩ := ih ρ' w' _ _ hd' hs' ht' ha'
      exact ⟨is', ρ₂, w₂, t₂, tm₂, .head (hstep.trans (by rw [hfin])) s1, hex.trans s2 (Nat.le_refl _), s3, s4, s5, s6, s7⟩
    split at hc
    · rename_i haw
      exact next ρ w undef undef (Ex.refl lo ρ) (fun _ _ _ e => e) hs (VR.undef ρ) hc (step_unwanted ho (by rw [hwant, haw]))
    · rename_i haw
      have hq := qop_ok (P := P) (id := id) hs (a := ⟨tm, ds⟩) ht hko
      rw [← qop_congr (h := h) (id := id) hev] at hq
      have hnd : notDefer o.op = true := by
        cases hop : o.op <;> first | rfl | skip
        rw [hop] at hc
        simp [qop] at hc
      split at hc
      · rename_i v hqv
        rw [hqv] at hq
        obtain ⟨v', hrun, hv⟩ := hq
        exact next ρ w v v' (Ex.refl lo ρ) (fun _ _ _ e => e) hs hv hc (step_value ho (by rw [hwant, haw]) (.inr hnd) hrun)
      · rename_i ob v hqv
        rw [hqv] at hq
        obtain ⟨v', c, d, p, hrun, hpB, hrel⟩ := hq
        split at hc
        case h_2 => cases hc
        rename_i hst
        have hob : h.get id = some ob := by
          unfold seenNew at hc
          split at hc
          · rename_i ob' e; rw [e, oeq_ok hc]
          · cases hc
        have hnone := hd.gh i id hp List.mem_cons_self
        obtain ⟨hlo, hhi⟩ := hd.gn i id hp
        have hex : Ex lo ρ (upd ρ id p) := ⟨ext_upd hnone, fun b hb e => by
          unfold upd
          rw [if_neg (by omega)]; exact e⟩
        obtain ⟨ho', hv'⟩ := hrel _ hex.1 (upd_self ρ id p)
        have hs' := hs.born hnone hhi hob hpB ho' d
        exact next _ _ v v' hex (fun x q hx e => by unfold upd; rw [if_neg hx]; exact e) hs' hv' hst (step_value ho (by rw [hwant, haw]) (.inr hnd) hrun)
      · cases hc
end
end Go.Proofs.YtmiojdppkooikaaGreatDoor.Abs
namespace Go.Proofs.YtmiojdppkooikaaGreatDoor.Abs
open Go

def bindsT (e : Edge) : Bool := match e.ground with
  | .gcOnly _ => false
  | _ => true
def bindsG (e : Edge) : Bool := match e.ground with
  | .textOnly _ => false
  | _ => true
noncomputable def backE (i : Nat) (es : List Edge) : Bool := List.rec (motive := fun _ => Bool) true (fun e _ ih => match bindsT e with
  | true => match Nat.blt e.on i with
    | true => ih
    | false => false
  | false => ih) es
noncomputable def backO (l : List Oper) : Nat → Bool := List.rec (motive := fun _ => Nat → Bool) (fun _ => true) (fun o _ ih i => match backE i o.after.toList with
  | true => ih (Nat.add i 1)
  | false => false) l
theorem backE_ok {i : Nat} : ∀ {es : List Edge}, backE i es = true → ∀ e ∈ es, bindsT e = true → e.on < i
  | [], _, e, he => by simp at he
  | x :: es, h, e, he => by
    have h : (match bindsT x with
      | true => match Nat.blt x.on i with
        | true => backE i es
        | false => false
      | false => backE i es) = true := h
    intro hbt
    split at h
    · split at h
      · rename_i hb
        rw [Nat.blt_eq] at hb
        rcases List.mem_cons.1 he with rfl | he
        · exact hb
        · exact backE_ok h e he hbt
      · cases h
    · rename_i hx
      rcases List.mem_cons.1 he with rfl | he
      · rw [hx] at hbt; cases hbt
      · exact backE_ok h e he hbt
theorem backO_ok : ∀ {l : List Oper} {i : Nat}, backO l i = true → ∀ (j : Nat) (o : Oper), l[j]? = some o → ∀ e ∈ o.after.toList, bindsT e = true → e.on < i + j
  | [], _, _, j, o, hj => by simp at hj
  | x :: l, i, h, j, o, hj => by
    have h : (match backE i x.after.toList with
      | true => backO l (i + 1)
      | false => false) = true := h
    split at h
    · rename_i hb
      cases j with
      | zero =>
        simp at hj; subst hj
        exact backE_ok hb
      | succ j =>
        intro e he hbt
        have := backO_ok h j o (by simpa using hj) e he hbt
        omega
    · cases h
/-- an order in which each comes behind what must come before it. -/
def OrdOK (md : Region.Mode) (ops : Array Oper) : List Nat → List Nat → Prop
  | _, [] => True
  | done, i :: L => (∀ o, ops[i]? = some o → ∀ e ∈ o.after.toList, Region.binds md e = true → e.on ∈ done) ∧ OrdOK md ops (i :: done) L
theorem ord_first {md : Region.Mode} {ops : Array Oper} (S : Nat → Prop) : ∀ (L done : List Nat), OrdOK md ops done L → (∀ x ∈ done, S x) → (∃ i ∈ L, ¬ S i) →
    ∃ j ∈ L, ¬ S j ∧ ∀ o, ops[j]? = some o → ∀ e ∈ o.after.toList, Region.binds md e = true → S e.on
  | [], _, _, _, h => by obtain ⟨i, hi, _⟩ := h; simp at hi
  | i :: L, done, ho, hd, h => by
    by_cases hs : S i
    · obtain ⟨x, hx, hn⟩ := h
      have hx : x ∈ L := (List.mem_cons.1 hx).resolve_left fun e => hn (e ▸ hs)
      obtain ⟨j, h1, h2⟩ := ord_first S L (i :: done) ho.2 (fun y hy => by
        rcases List.mem_cons.1 hy with rfl | hy
        · exact hs
        · exact hd y hy) ⟨x, hx, hn⟩
      exact ⟨j, List.mem_cons_of_mem _ h1, h2⟩
    · exact ⟨i, List.mem_cons_self, hs, fun o ho' e he hb => hd _ (ho.1 o ho' e he hb)⟩
/-- the order of the second mode, found greedily. -/
noncomputable def edgesIn (done : List Nat) (es : List Edge) : Bool := List.rec (motive := fun _ => Bool) true (fun e _ ih => match bindsG e with
  | true => match hasN done e.on with
    | true => ih
    | false => false
  | false => ih) es
theorem edgesIn_ok {done : List Nat} : ∀ {es : List Edge}, edgesIn done es = true → ∀ e ∈ es, bindsG e = true → e.on ∈ done
  | [], _, e, he => by simp at he
  | x :: es, h, e, he => by
    have h : (match bindsG x with
      | true => match hasN done x.on with
        | true => edgesIn done es
        | false => false
      | false => edgesIn done es) = true := h
    intro hbt
    split at h
    · split at h
      · rename_i hb
        rw [hasN_eq] at hb
        rcases List.mem_cons.1 he with rfl | he
        · simpa using hb
        · exact edgesIn_ok h e he hbt
      · cases h
    · rename_i hx
      rcases List.mem_cons.1 he with rfl | he
      · rw [hx] at hbt; cases hbt
      · exact edgesIn_ok h e he hbt
noncomputable def ordB (ops : List Oper) (L : List Nat) : List Nat → Bool := List.rec (motive := fun _ => List Nat → Bool) (fun _ => true) (fun i _ ih done => match nth ops i with
  | none => ih (i :: done)
  | some o => match edgesIn done o.after.toList with
    | true => ih (i :: done)
    | false => false) L
theorem bindsG_of {e : Edge} (h : Region.binds .gc e = true) : bindsG e = true := by
  unfold Region.binds at h; unfold bindsG
  cases hg : e.ground <;> rw [hg] at h <;> first | rfl | (cases (show false = true from h))
theorem ordB_ok {ops : Array Oper} : ∀ {L done : List Nat}, ordB ops.toList L done = true → OrdOK .gc ops done L
  | [], _, _ => trivial
  | i :: L, done, h => by
    have h : (match nth ops.toList i with
      | none => ordB ops.toList L (i :: done)
      | some o => match edgesIn done o.after.toList with
        | true => ordB ops.toList L (i :: done)
        | false => false) = true := h
    split at h
    · rename_i hn
      rw [nth_eq, Array.getElem?_toList] at hn
      exact ⟨fun o ho => (by rw [hn] at ho; cases ho), ordB_ok h⟩
    · rename_i o hn
      rw [nth_eq, Array.getElem?_toList] at hn
      split at h
      · rename_i he
        exact ⟨fun o' ho e hm hb => (by rw [hn] at ho; cases ho; exact edgesIn_ok he e hm (bindsG_of hb)), ordB_ok h⟩
      · cases h
noncomputable def nextG (ops : List Oper) (done run : List Nat) : Option Nat := List.rec (motive := fun _ => Option Nat) none (fun j _ ih => match hasN done j with
  | true => ih
  | false => match nth ops j with
    | none => ih
    | some o => match edgesIn done o.after.toList with
      | true => some j
      | false => ih) run
noncomputable def topo (ops : List Oper) (all : List Nat) (fuel : List Nat) : List Nat → List Nat := List.rec (motive := fun _ => List Nat → List Nat) (fun _ => []) (fun _ _ ih done => match nextG ops done all with
  | some j => j :: ih (j :: done)
  | none => []) fuel
noncomputable def covers (L : List Nat) (all : List Nat) : Bool := List.rec (motive := fun _ => Bool) true (fun i _ ih => match hasN L i with
  | true => ih
  | false => false) all
theorem covers_ok {L : List Nat} : ∀ {all : List Nat}, covers L all = true → ∀ i ∈ all, i ∈ L
  | [], _, i, hi => by simp at hi
  | x :: all, h, i, hi => by
    have h : (match hasN L x with
      | true => covers L all
      | false => false) = true := h
    split at h
    · rename_i hb
      rw [hasN_eq] at hb
      rcases List.mem_cons.1 hi with rfl | hi
      · simpa using hb
      · exact covers_ok h i hi
    · cases h
noncomputable def rng (l : List Oper) : Nat → List Nat := List.rec (motive := fun _ => Nat → List Nat) (fun _ => []) (fun _ _ ih i => i :: ih (Nat.add i 1)) l
theorem rng_mem : ∀ (l : List Oper) (i x : Nat), x ∈ rng l i ↔ i ≤ x ∧ x < i + l.length
  | [], i, x => by simp [rng]
  | o :: l, i, x => by
    have e : rng (o :: l) i = i :: rng l (i + 1) := rfl
    rw [e, List.mem_cons, rng_mem l (i + 1) x, List.length_cons]
    omega
noncomputable def allLt (n : Nat) (L : List Nat) : Bool := List.rec (motive := fun _ => Bool) true (fun i _ ih => match Nat.blt i n with
  | true => ih
  | false => false) L
theorem allLt_ok {n : Nat} : ∀ {L : List Nat}, allLt n L = true → ∀ i ∈ L, i < n
  | [], _, i, hi => by simp at hi
  | x :: L, h, i, hi => by
    have h : (match Nat.blt x n with
      | true => allLt n L
      | false => false) = true := h
    split at h
    · rename_i hb
      rw [Nat.blt_eq] at hb
      rcases List.mem_cons.1 hi with rfl | hi
      · exact hb
      · exact allLt_ok h i hi
    · cases h
noncomputable def gcGood (ops : List Oper) (L : List Nat) : Bool := match ordB ops L [] with
  | true => match covers L (rng ops 0) with
    | true => allLt (lenF ops) L
    | false => false
  | false => false
/-- the region's order may be drawn: each of the modes comes to its end. -/
noncomputable def drawOk (ops : List Oper) : Bool := match backO ops 0 with
  | true => match gcGood ops (rng ops 0) with
    | true => true
    | false => gcGood ops (topo ops (rng ops 0) (rng ops 0) [])
  | false => false
theorem binds_of_any {md : Region.Mode} {e : Edge} (h : Region.binds .any e = true) : Region.binds md e = true := by
  unfold Region.binds at *
  cases hg : e.ground <;> rw [hg] at h <;> first | rfl | (cases md <;> first | exact h | (cases (show false = true from h)))

section
variable {md : Region.Mode} {ops : Array Oper}
theorem go_spec {L : List Nat} (hord : OrdOK md ops [] L) (hcov : ∀ i, i < ops.size → i ∈ L) (hin : ∀ (i : Nat) (o : Oper), ops[i]? = some o → ∀ e ∈ o.after.toList, Region.binds md e = true → ¬ ops.size ≤ e.on) : ∀ (fuel t : Nat) (listed : Array Bool), listed.size = ops.size → listed.toList.count false = fuel →
    (∀ (i : Nat) (o : Oper), ops[i]? = some o → listed.getD i true = true → ∀ e ∈ o.after.toList, Region.binds md e = true → listed.getD e.on false = true) →
    Lin ops (Region.linearise.go md ops fuel t listed []) ∧ ∀ i : Nat, i ∈ Region.linearise.go md ops fuel t listed [] ↔ listed[i]? = some false := by
  intro fuel
  induction fuel with
  | zero =>
    intro t listed hsz hc hcl
    have : Region.linearise.go md ops 0 t listed [] = [] := rfl
    rw [this]
    refine ⟨.nil, fun i => ⟨fun h => by simp at h, fun h => ?_⟩⟩
    have hm : false ∈ listed.toList := by
      have := Array.mem_of_getElem? h
      simpa using this
    have := List.count_pos_iff.2 hm
    omega
  | succ fuel ih =>
    intro t listed hsz hc hcl
    -- something is ready
    have hready : ∀ i : Nat, listed[i]? = some false → ∃ j, j ∈ Region.ready md ops listed := by
      intro i hi
      have hlt : i < ops.size := by
        have := (Array.getElem?_eq_some_iff.1 hi).1
        omega
      obtain ⟨j, _, hj, hp⟩ := ord_first (fun x => listed.getD x false = true ∨ ops.size ≤ x) L [] hord (fun x hx => by simp at hx) ⟨i, hcov i hlt, by
        rw [Array.getD_eq_getD_getElem?, hi]
        simp; omega⟩
      have hjl : j < ops.size := by
        rcases Nat.lt_or_ge j ops.size with h | h
        · exact h
        · exact absurd (.inr h) hj
      have hjs : j < listed.size := by omega
      have hjf : listed[j]? = some false := by
        have : ¬ listed.getD j false = true := fun h => hj (.inl h)
        rw [Array.getD_eq_getD_getElem?] at this
        simp [hjs] at this ⊢
        exact this
      refine ⟨j, mem_ready.2 ⟨by rw [Array.getD_eq_getD_getElem?, hjf]; rfl, ops[j], by simp [hjl], fun e he hb => ?_⟩⟩
      rcases hp ops[j] (by simp [hjl]) e (by simpa using he) hb with h | h
      · exact h
      · exact absurd h (hin j ops[j] (by simp [hjl]) e (by simpa using he) hb)
    obtain ⟨i0, h0⟩ : ∃ i : Nat, listed[i]? = some false := by
      have hm : false ∈ listed.toList := List.count_pos_iff.1 (by omega)
      obtain ⟨i, hi, e⟩ := List.mem_iff_getElem.1 hm
      exact ⟨i, by simp [← e]⟩
    obtain ⟨j0, hj0⟩ := hready i0 h0
    have e1 : Region.linearise.go md ops (fuel + 1) t listed [] = (match (Region.ready md ops listed)[t % (Region.ready md ops listed).length]? with
      | some i => Region.linearise.go md ops fuel (t / (Region.ready md ops listed).length) (listed.setIfInBounds i true) [i]
      | none => [].reverse) := rfl
    rw [e1]
    have hlen : t % (Region.ready md ops listed).length < (Region.ready md ops listed).length := Nat.mod_lt _ (List.length_pos_of_mem hj0)
    rw [List.getElem?_eq_getElem hlen]
    simp only []
    generalize hi : (Region.ready md ops listed)[t % (Region.ready md ops listed).length] = i
    have him : i ∈ Region.ready md ops listed := hi ▸ List.getElem_mem hlen
    obtain ⟨hun, o, ho, hpre⟩ := mem_ready.1 him
    have hiu : listed[i]? = some false := by
      rw [Array.getD_eq_getD_getElem?] at hun
      cases hx : listed[i]? with
      | none => rw [hx] at hun; cases hun
      | some b => rw [hx] at hun; simpa using hun
    have hil : i < listed.size := (Array.getElem?_eq_some_iff.1 hiu).1
    rw [linearise_go_acc, List.reverse_singleton, List.singleton_append]
    have hset : ∀ j : Nat, (listed.setIfInBounds i true)[j]? = some false ↔ j ≠ i ∧ listed[j]? = some false := fun j => by
      by_cases e : j = i
      · subst e; simp [hil]
      · rw [Array.getElem?_setIfInBounds_ne (fun h => e h.symm)]; simp [e]
    obtain ⟨L, M⟩ := ih (t / (Region.ready md ops listed).length) (listed.setIfInBounds i true) (by simpa using hsz)
      (by
        rw [Array.toList_setIfInBounds, List.count_set (by simpa using hil)]
        have : listed.toList[i]'(by simpa using hil) = false := by
          have := (Array.getElem?_eq_some_iff.1 hiu).2
          simpa using this
        simp [this, hc])
      (fun j o' ho' hj e he hb => by
        by_cases ej : j = i
        · subst ej
          rw [ho] at ho'; cases ho'
          exact getD_set_true (hpre e (by simpa using he) hb)
        · rw [getD_set_ne true (fun h => ej h.symm)] at hj
          exact getD_set_true (hcl j o' ho' hj e he hb))
    have M' : ∀ j : Nat, j ∈ i :: Region.linearise.go md ops fuel (t / (Region.ready md ops listed).length) (listed.setIfInBounds i true) [] ↔ listed[j]? = some false := fun j => by
      rw [List.mem_cons, M, hset]
      constructor
      · rintro (rfl | ⟨_, h⟩)
        · exact hiu
        · exact h
      · intro h
        by_cases e : j = i
        · exact .inl e
        · exact .inr ⟨e, h⟩
    refine ⟨.cons (fun j o' ho' hj e he hb hm => ?_) (fun hm => ?_) (by omega) L, M'⟩
    · have hlt : j < listed.size := by
        have := (Array.getElem?_eq_some_iff.1 ho').1
        omega
      have hjt : listed.getD j true = true := by
        rw [Array.getD_eq_getD_getElem?]
        cases hx : listed[j]? with
        | none => rfl
        | some b =>
          cases b with
          | true => rfl
          | false => exact absurd ((M' j).2 hx) hj
      have := hcl j o' ho' hjt e he (binds_of_any hb)
      have hm := (M' e.on).1 hm
      rw [Array.getD_eq_getD_getElem?, hm] at this
      cases this
    · have := ((hset i).1 ((M i).1 hm)).1
      exact this rfl
/-- a drawn order, whatever was drawn. -/
theorem mem_of_ord {md : Region.Mode} {ops : Array Oper} : ∀ (L done : List Nat), OrdOK md ops done L → ∀ i ∈ L, ∀ o, ops[i]? = some o → ∀ e ∈ o.after.toList, Region.binds md e = true → e.on ∈ done ∨ e.on ∈ L
  | [], _, _, i, hi => by simp at hi
  | x :: L, done, h, i, hi => by
    intro o ho e he hb
    rcases List.mem_cons.1 hi with rfl | hi
    · exact .inl (h.1 o ho e he hb)
    · rcases mem_of_ord L (x :: done) h.2 i hi o ho e he hb with h1 | h1
      · rcases List.mem_cons.1 h1 with h1 | h1
        · exact .inr (h1 ▸ List.mem_cons_self)
        · exact .inl h1
      · exact .inr (List.mem_cons_of_mem _ h1)
theorem bindsT_of {md : Region.Mode} (hm : md ≠ .gc) {e : Edge} (h : Region.binds md e = true) : bindsT e = true := by
  unfold Region.binds at h; unfold bindsT
  cases hg : e.ground <;> rw [hg] at h <;> first | rfl | (cases md <;> first | (cases (show false = true from h); done) | exact absurd rfl hm)
/-- a drawn order, whatever was drawn. -/
theorem schedule_ok (hok : drawOk ops.toList = true) (mixed : Bool) (t : Nat) : Lin ops (Region.schedule mixed ops t) ∧ ∀ i, i ∈ Region.schedule mixed ops t ↔ i < ops.size := by
  unfold drawOk at hok
  split at hok
  case h_2 => cases hok
  rename_i hback
  have hb : ∀ (i : Nat) (o : Oper), ops[i]? = some o → ∀ e ∈ o.after.toList, bindsT e = true → e.on < i := fun i o ho e he hbt => by
    have := backO_ok hback i o (by simpa using ho) e he hbt
    omega
  have fin : ∀ (md : Region.Mode) (t : Nat) (L : List Nat), OrdOK md ops [] L → (∀ i, i < ops.size → i ∈ L) → (∀ i ∈ L, i < ops.size ∨ ops[i]? = none) →
      (∀ (i : Nat) (o : Oper), ops[i]? = some o → ∀ e ∈ o.after.toList, Region.binds md e = true → ¬ ops.size ≤ e.on) → Lin ops (Region.linearise md ops t) ∧ ∀ i, i ∈ Region.linearise md ops t ↔ i < ops.size := fun md t L h1 h2 _ h4 => by
    obtain ⟨g1, g2⟩ := go_spec (md := md) h1 h2 h4 ops.size t (Array.replicate ops.size false) (by simp) (by simp) (fun i o ho h => by
      have hlt : i < ops.size := (Array.getElem?_eq_some_iff.1 ho).1
      simp [hlt] at h)
    refine ⟨g1, fun i => ?_⟩
    have := g2 i
    show i ∈ Region.linearise.go md ops ops.size t (Array.replicate ops.size false) [] ↔ _
    rw [this]
    simp [Array.getElem?_replicate]
  have notgc : ∀ (md : Region.Mode) (t : Nat), md ≠ .gc → Lin ops (Region.linearise md ops t) ∧ ∀ i, i ∈ Region.linearise md ops t ↔ i < ops.size := fun md t hm => by
    have hord : ∀ (l : List Oper) (k : Nat) (done : List Nat), (∀ (j : Nat) (o : Oper), l[j]? = some o → ops[k + j]? = some o) → (∀ x, x < k → x ∈ done) → OrdOK md ops done (rng l k) := by
      intro l
      induction l with
      | nil => intro k done _ _; trivial
      | cons o l ih =>
        intro k done hl hd
        refine ⟨fun o' ho' e he hbd => hd _ (hb k o' ho' e he (bindsT_of hm hbd)), ih (k + 1) (k :: done) (fun j o' e => by rw [show k + 1 + j = k + (j + 1) by omega]; exact hl (j + 1) o' (by simpa using e)) fun x hx => ?_⟩
        by_cases e : x = k
        · rw [e]; exact List.mem_cons_self
        · exact List.mem_cons_of_mem _ (hd x (by omega))
    refine fin md t (rng ops.toList 0) (hord _ 0 [] (fun j o e => by simpa using e) (fun x hx => by omega)) (fun i hi => (rng_mem _ _ _).2 ⟨Nat.zero_le _, by simpa using hi⟩) (fun i hi => .inl (by simpa using ((rng_mem _ _ _).1 hi).2)) (fun i o ho e he hbd => ?_)
    have h1 := hb i o ho e he (bindsT_of hm hbd)
    have h2 := (Array.getElem?_eq_some_iff.1 ho).1
    omega
  have good : ∀ (L : List Nat), gcGood ops.toList L = true → ∀ t, Lin ops (Region.linearise .gc ops t) ∧ ∀ i, i ∈ Region.linearise .gc ops t ↔ i < ops.size := fun L hL t => by
    unfold gcGood at hL
    split at hL
    case h_2 => cases hL
    rename_i h1
    split at hL
    case h_2 => cases hL
    rename_i h2
    have h1 := ordB_ok h1
    have h2 := covers_ok h2
    have h3 := allLt_ok hL
    rw [lenF_eq, Array.length_toList] at h3
    have hc : ∀ i, i < ops.size → i ∈ L := fun i hi => h2 i ((rng_mem _ _ _).2 ⟨Nat.zero_le _, by simpa using hi⟩)
    refine fin .gc t L h1 hc (fun i hi => .inl (h3 i hi)) (fun i o ho e he hbd => ?_)
    have hlt := (Array.getElem?_eq_some_iff.1 ho).1
    rcases mem_of_ord L [] h1 i (hc i hlt) o ho e he hbd with h | h
    · simp at h
    · have := h3 _ h
      omega
  have gc : ∀ t, Lin ops (Region.linearise .gc ops t) ∧ ∀ i, i ∈ Region.linearise .gc ops t ↔ i < ops.size := by
    split at hok
    · rename_i h; exact good _ h
    · exact good _ hok
  unfold Region.schedule
  split
  · exact notgc _ _ (by simp)
  · split
    · exact notgc _ _ (by simp)
    · exact gc _
end
end Go.Proofs.YtmiojdppkooikaaGreatDoor.Abs
namespace Go.Proofs.YtmiojdppkooikaaGreatDoor.Abs
open Go

structure St where
  fr : AFr
  cs : List AFr
  h : T AObj
  nx : Nat
inductive R where
  | next (fr : AFr) (cs : List AFr) (h : T AObj) (nx : Nat)
  | alts (l : List St)
  | done (v : Value) (h : T AObj) (nx : Nat)
  | fail
inductive Plug where
  | ext (f : T AObj → Nat → List Value → ER)
  | sum (f : T AObj → Nat → List Value → Option (Value × T AObj × Nat))

noncomputable def finR (fr : AFr) (cs : List AFr) (v : Value) (h : T AObj) (nx : Nat) : R :=
  match afin fr v with
  | some fr => .next fr cs h nx
  | none => .fail
noncomputable def altsOf (fr : AFr) (cs : List AFr) (nx : Nat) (l : List (Value × T AObj)) : Option (List St) :=
  List.rec (motive := fun _ => Option (List St)) (some []) (fun x _ ih => match ih with
    | some l => match afin fr x.1 with
      | some fr => some (⟨fr, cs, x.2, nx⟩ :: l)
      | none => none
    | none => none) l
noncomputable def erR (fr : AFr) (cs : List AFr) (nx : Nat) (r : ER) : R :=
  match r with
  | .val v h nx' => match Nat.ble nx nx' with
    | true => finR fr cs v h nx'
    | false => .fail
  | .skip h nx' => match Nat.ble nx nx' with
    | true => finR fr cs undef h nx'
    | false => .fail
  | .alts l nx' => match Nat.ble nx nx' with
    | true => match altsOf fr cs nx' l with
      | some l => .alts l
      | none => .fail
    | false => .fail
  | .fail => .fail
noncomputable def enterR (K : Ctx) (fr : AFr) (cs : List AFr) (h : T AObj) (nx : Nat) (g : Nat) (args : List Value) : R :=
  match aenter K g args .normal with
  | some b => .next b (fr :: cs) h nx
  | none => .fail
noncomputable def acall (K : Ctx) (pl : T Plug) (fr : AFr) (cs : List AFr) (h : T AObj) (nx : Nat) (d : Deferred) : R :=
  match d.target with
  | .fn f cap => match f with
    | .func g => match pl.get g with
      | some p => match p with
        | .ext f => erR fr cs nx (f h nx (app d.args.toList cap.toList))
        | .sum f => match f h nx (app d.args.toList cap.toList) with
          | some x => match Nat.ble nx x.2.2 with
            | true => finR fr cs x.1 x.2.1 x.2.2
            | false => .fail
          | none => enterR K fr cs h nx g (app d.args.toList cap.toList)
      | none => enterR K fr cs h nx g (app d.args.toList cap.toList)
    | .yield l => match aYield K.E.N h l d.args.toList .normal with
      | some b => .next b (fr :: cs) h nx
      | none => .fail
    | _ => .fail
  | _ => .fail
noncomputable def arecover (fr : AFr) (cs : List AFr) (h : T AObj) (nx : Nat) : R :=
  match fr.round with
  | some _ => .fail
  | none => match fr.kind with
    | .normal => finR fr cs .nilIface h nx
    | .deferred => match cs with
      | [] => .fail
      | c :: rest => match c with
        | ⟨fn, t, n, todo, ds, mo, kind, ro⟩ => match mo with
          | .panicking ch => match ch with
            | [] => finR fr cs .nilIface h nx
            | e :: older => match e with
              | ⟨v, rc, ge⟩ => match rc with
                | true => finR fr cs .nilIface h nx
                | false => match ge with
                  | true => finR fr cs .nilIface h nx
                  | false => finR fr (⟨fn, t, n, todo, ds, .panicking (⟨v, true, false⟩ :: older), kind, ro⟩ :: rest) v h nx
          | _ => finR fr cs .nilIface h nx
    | _ => .fail
noncomputable def addDefer (fr : AFr) (d : Deferred) : AFr :=
  match fr with
  | ⟨fn, t, n, todo, ds, mo, kind, ro⟩ => ⟨fn, t, n, todo, d :: ds, mo, kind, ro⟩
noncomputable def aop (P : Program) (K : Ctx) (pl : T Plug) (o : Oper) (fr : AFr) (cs : List AFr) (h : T AObj) (nx : Nat) : R :=
  match o.op with
  | .call c => match c.callee with
    | .value _ => match aresolve fr.t c with
      | some d => acall K pl fr cs h nx d
      | none => .fail
    | .builtin b => match b with
      | .recover => arecover fr cs h nx
      | _ => erR fr cs nx (xop P K.E h nx fr.t o.op)
    | .invoke _ _ => .fail
  | .defer c => match fr.round with
    | some _ => .fail
    | none => match aresolve fr.t c with
      | some d => finR (addDefer fr d) cs undef h nx
      | none => .fail
  | .panic x => match aev fr.t x with
    | .iface ty v => .next (araise fr [⟨.iface ty v, false, false⟩]) cs h nx
    | _ => .fail
  | _ => erR fr cs nx (xop P K.E h nx fr.t o.op)

/- ---------- drawn regions ---------- -/
def isAssign : Op → Bool
  | .assign _ => true
  | _ => false
noncomputable def enabled (run : List Nat) (o : Oper) : Bool :=
  List.rec (motive := fun _ => Bool) true (fun e _ ih => match bindsAny e with
    | true => match hasN run e.on with
      | true => false
      | false => ih
    | false => ih) o.after.toList
noncomputable def aquiet (P : Program) (E : Env) (h : T AObj) (nx : Nat) (t : T Value) (n : Nat) (all : Array Oper) (o : Oper) : Option (T AObj × T Value) :=
  match awant all t o with
  | false => some (h, tput t n o.dst undef)
  | true => match isAssign o.op with
    | true => none
    | false => match qop P E h nx t o.op with
      | .val v => some (h, tput t n o.dst v)
      | .new ob v => some (h.set nx ob, tput t n o.dst v)
      | _ => none
noncomputable def findQ (P : Program) (E : Env) (h : T AObj) (nx : Nat) (t : T Value) (n : Nat) (all : Array Oper) (run l : List Nat) : Option (Nat × T AObj × T Value) :=
  List.rec (motive := fun _ => Option (Nat × T AObj × T Value)) none (fun j _ ih => match nth all.toList j with
    | none => ih
    | some o => match enabled run o with
      | false => ih
      | true => match aquiet P E h nx t n all o with
        | some x => some (j, x.1, x.2)
        | none => ih) l
noncomputable def findE (all : Array Oper) (run l : List Nat) : Option Nat :=
  List.rec (motive := fun _ => Option Nat) none (fun j _ ih => match nth all.toList j with
    | none => ih
    | some o => match enabled run o with
      | false => ih
      | true => some j) l
noncomputable def allAfter (msk : T Nat) (e : Nat) (l : List Nat) : Bool :=
  List.rec (motive := fun _ => Bool) true (fun j _ ih => match before msk e j with
    | true => ih
    | false => false) l
noncomputable def notPend (pend : List (Nat × Nat)) (e : Nat) : Bool :=
  List.rec (motive := fun _ => Bool) true (fun x _ ih => match Nat.beq x.1 e with
    | true => false
    | false => ih) pend
noncomputable def prune (msk : T Nat) (e : Nat) (pend : List (Nat × Nat)) : List (Nat × Nat) :=
  List.rec (motive := fun _ => List (Nat × Nat)) [] (fun x _ ih => match before msk x.1 e with
    | true => ih
    | false => x :: ih) pend
noncomputable def adrawn (P : Program) (K : Ctx) (pl : T Plug) (fn : Nat) (t : T Value) (n : Nat) (all : Array Oper) (msk : T Nat) (run : List Nat) (pend : List (Nat × Nat)) (k : List AItem) (ds : List Deferred) (kind : CallKind) (ro : Option Nat)
    (cs : List AFr) (h : T AObj) (nx : Nat) : R :=
  match findQ P K.E h nx t n all run run with
  | some x => .next ⟨fn, x.2.2, n, .drawn all msk (rem x.1 run) ((x.1, nx) :: pend) :: k, ds, .run, kind, ro⟩ cs x.2.1 (Nat.add nx 1)
  | none => match chkAll P K.E h t n all msk pend pend with
    | false => .fail
    | true => match run with
      | [] => .next ⟨fn, t, n, k, ds, .run, kind, ro⟩ cs h nx
      | _ :: _ => match findE all run run with
        | none => .fail
        | some e => match nth all.toList e with
          | none => .fail
          | some o => match awant all t o with
            | false => .fail
            | true => match and (and (allAfter msk e (rem e run)) (notPend pend e)) (freeOf all msk e (sees all o) pend) with
              | true => aop P K pl o ⟨fn, t, n, .busy all msk e (rem e run) (prune msk e pend) :: k, ds, .run, kind, ro⟩ cs h nx
              | false => .fail

/- ---------- leaving a frame ---------- -/
noncomputable def noGoexit (l : List PanicEntry) : Bool := List.rec (motive := fun _ => Bool) true (fun e _ ih => match e.goexit with
  | true => false
  | false => ih) l
noncomputable def aReturn (kind : CallKind) (cs : List AFr) (v : Value) (h : T AObj) (nx : Nat) : R :=
  match cs with
  | [] => match kind with
    | .normal => .done v h nx
    | _ => .fail
  | c :: rest => match kind with
    | .normal => finR c rest v h nx
    | .deferred => match c with
      | ⟨fn, t, n, todo, ds, mo, kind, ro⟩ => match mo with
        | .panicking ch => match ch with
          | [] => .next c rest h nx
          | e :: older => match e.recovered with
            | true => match noGoexit older with
              | true => .next ⟨fn, t, n, todo, ds, .returning, kind, ro⟩ rest h nx
              | false => .fail
            | false => .next c rest h nx
        | _ => .next c rest h nx
    | _ => .fail
noncomputable def aleave (fn : Nat) (t : T Value) (n : Nat) (todo : List AItem) (ds : List Deferred) (kind : CallKind) (ro : Option Nat) (jump : Option Code) (K : Ctx) (cs : List AFr) (h : T AObj) (nx : Nat) : R :=
  match ro with
  | none => match jump with
    | none => .next ⟨fn, t, n, todo, ds, .returning, kind, none⟩ cs h nx
    | some c => match c with
      | .ret => .next ⟨fn, t, n, todo, ds, .returning, kind, none⟩ cs h nx
      | _ => .fail
  | some l => match loopState h l with
    | none => .fail
    | some _ => match cs with
      | [] => .fail
      | _ :: _ => match jump with
        | none => match loopSet K.E.N h l .ready none with
          | some h' => aReturn kind cs (.bool true) h' nx
          | none => .fail
        | some c => match loopSet K.E.N h l .done (some c) with
          | some h' => aReturn kind cs (.bool false) h' nx
          | none => .fail
noncomputable def aresult (E : Env) (h : T AObj) (t : T Value) (r : ResultVar) : Option Value :=
  match r with
  | .tmp d => some (aev t (.tmp d))
  | .cell a ty => match qLoad E h ty (aev t (.tmp a)) with
    | .val v => some v
    | _ => none
noncomputable def aresultL (E : Env) (h : T AObj) (t : T Value) (l : List ResultVar) : Option (List Value) :=
  List.rec (motive := fun _ => Option (List Value)) (some []) (fun r _ ih => match aresult E h t r with
    | some v => match ih with
      | some l => some (v :: l)
      | none => none
    | none => none) l
noncomputable def oneOrMore (l : List Value) : Value := match l with
  | [] => .tuple #[]
  | v :: l => match l with
    | [] => v
    | u :: l => .tuple ⟨v :: u :: l⟩
def settledTodo (l : List AItem) : Bool := match l with
  | .drawn _ _ _ _ :: _ => false
  | .busy _ _ _ _ _ :: _ => false
  | _ => true
noncomputable def aunwind (K : Ctx) (fn : Nat) (t : T Value) (n : Nat) (todo : List AItem) (ds : List Deferred) (mo : FrameMode) (kind : CallKind) (ro : Option Nat) (cs : List AFr) (h : T AObj) (nx : Nat) : R :=
  match ds with
  | d :: ds => match d.target with
    | .collected b => match aTake K.E.N h b with
      | some x => .next ⟨fn, t, n, todo, app x.1 ds, mo, kind, ro⟩ cs x.2 nx
      | none => .fail
    | .fn f cap => match f with
      | .func g => match aenter K g (app d.args.toList cap.toList) .deferred with
        | some b => .next b (⟨fn, t, n, todo, ds, mo, kind, ro⟩ :: cs) h nx
        | none => .fail
      | _ => .fail
    | _ => .fail
  | [] => match K.E.funcs.get fn with
    | none => .fail
    | some f => match mo with
      | .run => .fail
      | .panicking ch => match cs with
        | c :: rest => .next (araise c ch) rest h nx
        | [] => .fail
      | .returning => match settledTodo todo with
        | false => .fail
        | true => match aresultL K.E h t f.results.toList with
          | some l => aReturn kind cs (oneOrMore l) h nx
          | none => .fail

/- ---------- one step ---------- -/
noncomputable def acode (K : Ctx) (pl : T Plug) (fn : Nat) (t : T Value) (n : Nat) (c : Code) (k : List AItem) (ds : List Deferred) (kind : CallKind) (ro : Option Nat) (cs : List AFr) (h : T AObj) (nx : Nat) : R :=
  match c with
  | .skip => .next ⟨fn, t, n, k, ds, .run, kind, ro⟩ cs h nx
  | .label _ => .next ⟨fn, t, n, k, ds, .run, kind, ro⟩ cs h nx
  | .seq a b => .next ⟨fn, t, n, .code a :: .code b :: k, ds, .run, kind, ro⟩ cs h nx
  | .region _ ops draw => match draw with
    | false => .next ⟨fn, t, n, .ops ops ops.toList :: k, ds, .run, kind, ro⟩ cs h nx
    | true => match drawOk ops.toList with
      | true => .next ⟨fn, t, n, .drawn ops (masks ops.toList) (rng ops.toList 0) [] :: k, ds, .run, kind, ro⟩ cs h nx
      | false => .fail
  | .cond x a b => match aev t x with
    | .bool v => match v with
      | true => .next ⟨fn, t, n, .code a :: k, ds, .run, kind, ro⟩ cs h nx
      | false => .next ⟨fn, t, n, .code b :: k, ds, .run, kind, ro⟩ cs h nx
    | _ => .fail
  | .block id b => .next ⟨fn, t, n, .code b :: .inBlock id :: k, ds, .run, kind, ro⟩ cs h nx
  | .loop b => .next ⟨fn, t, n, .code b :: .inLoop b :: k, ds, .run, kind, ro⟩ cs h nx
  | .scope b => .next ⟨fn, t, n, .code b :: .inScope b :: k, ds, .run, kind, ro⟩ cs h nx
  | .exit id => match aexit id k with
    | some k' => .next ⟨fn, t, n, k', ds, .run, kind, ro⟩ cs h nx
    | none => aleave fn t n (.code c :: k) ds kind ro (some (.exit id)) K cs h nx
  | .goto l => match agoto l k with
    | some k' => .next ⟨fn, t, n, k', ds, .run, kind, ro⟩ cs h nx
    | none => aleave fn t n (.code c :: k) ds kind ro (some (.goto l)) K cs h nx
  | .ret => aleave fn t n (.code c :: k) ds kind ro (some .ret) K cs h nx
  | .rangeFunc f ps as bd => match aEnterLoop h nx fn t n ps as bd ro with
    | none => .fail
    | some x => match aev t f with
      | .func g first cap => acall K pl ⟨fn, t, n, .inRangeFunc x.1 :: k, app x.2.1 ds, .run, kind, ro⟩ cs x.2.2.1 x.2.2.2 { target := .fn g cap, args := ⟨app first.toList [.func (.yield x.1) #[] #[]]⟩ }
      | _ => .fail
  | .refuse _ => .fail
noncomputable def astep (P : Program) (K : Ctx) (pl : T Plug) (fr : AFr) (cs : List AFr) (h : T AObj) (nx : Nat) : R :=
  match fr with
  | ⟨fn, t, n, todo, ds, mo, kind, ro⟩ => match mo with
    | .run => match todo with
      | [] => aleave fn t n [] ds kind ro none K cs h nx
      | a :: k => match a with
        | .code c => acode K pl fn t n c k ds kind ro cs h nx
        | .inBlock _ => .next ⟨fn, t, n, k, ds, .run, kind, ro⟩ cs h nx
        | .inScope _ => .next ⟨fn, t, n, k, ds, .run, kind, ro⟩ cs h nx
        | .inLoop b => .next ⟨fn, t, n, .code b :: .inLoop b :: k, ds, .run, kind, ro⟩ cs h nx
        | .ops all rest => match rest with
          | [] => .next ⟨fn, t, n, k, ds, .run, kind, ro⟩ cs h nx
          | o :: os => match awant all t o with
            | true => aop P K pl o ⟨fn, t, n, .ops all (o :: os) :: k, ds, .run, kind, ro⟩ cs h nx
            | false => .next ⟨fn, tput t n o.dst undef, n, .ops all os :: k, ds, .run, kind, ro⟩ cs h nx
        | .drawn all msk run pend => adrawn P K pl fn t n all msk run pend k ds kind ro cs h nx
        | .busy _ _ _ _ _ => .fail
        | .inRangeFunc _ => .fail
        | .endRangeFunc l => match loopState h l with
          | some x => match x.1 with
            | .busy => .fail
            | _ => match loopSet K.E.N h l .exhausted x.2 with
              | some h' => match x.2 with
                | none => .next ⟨fn, t, n, k, ds, .run, kind, ro⟩ cs h' nx
                | some c => match okCode K.E.N c with
                  | true => .next ⟨fn, t, n, .code c :: k, ds, .run, kind, ro⟩ cs h' nx
                  | false => .fail
              | none => .fail
          | none => .fail
        | .beginRound => match ro with
          | some l => match loopState h l with
            | some x => match x.1 with
              | .ready => match loopSet K.E.N h l .busy x.2 with
                | some h' => .next ⟨fn, t, n, k, ds, .run, kind, ro⟩ cs h' nx
                | none => .fail
              | _ => .fail
            | none => .fail
          | none => .fail
    | .returning => aunwind K fn t n todo ds .returning kind ro cs h nx
    | .panicking ch => aunwind K fn t n todo ds (.panicking ch) kind ro cs h nx
end Go.Proofs.YtmiojdppkooikaaGreatDoor.Abs
namespace Go.Proofs.YtmiojdppkooikaaGreatDoor.Abs
open Go
noncomputable def drive (P : Program) (K : Ctx) (pl : T Plug) (n : Nat) : AFr → List AFr → T AObj → Nat → R :=
  Nat.rec (motive := fun _ => AFr → List AFr → T AObj → Nat → R) (fun _ _ _ _ => .fail)
    (fun _ ih fr cs h nx => match astep P K pl fr cs h nx with
      | .next fr cs h nx => ih fr cs h nx
      | r => r) n
noncomputable def runCall (P : Program) (K : Ctx) (pl : T Plug) (fuel : Nat) (f : Nat) (args : List Value) (h : T AObj) (nx : Nat) : R :=
  match aenter K f args .normal with
  | some fr => drive P K pl fuel fr [] h nx
  | none => .fail
end Go.Proofs.YtmiojdppkooikaaGreatDoor.Abs
