/- A part of the proof that EngineNil returns true. This part: a machine that computes on pictures of Go memory, each of whose steps is shown to be matched by the model; no conditions. -/
import Derived.Test.YtmiojdppkooikaaGreatDoorAbsE
import Derived.Laws.LoneSync
import Derived.Conc.MuLone
import Derived.Lib.Bytealg
import Derived.Lib.Builder
import Derived.Lib.UnsafeStr
import Derived.Lib.MakeNoZero
import Derived.Lib.LaidTab
import Derived.LaidLaws
import GoSem.Claims
namespace Go.Proofs.YtmiojdppkooikaaGreatDoor.Abs
open Go

def lastFn (fr : AFr) : List AFr → Nat
  | [] => fr.fn
  | c :: cs => lastFn c cs

structure Rel (P : Program) (U : Nat → Prop) (ws : World) (base : Nat) (bs : List Frame) (f : Nat) (ρ : Ren) (fr : AFr) (cs : List AFr) (h : T AObj) (nx : Nat) (m : Machine) : Prop where
  ex : ∃ c cs' w lo, m = lone c (cs' ++ bs) w ∧ SI (envOf P).N U ws ρ h nx w ∧ lo ≤ nx ∧ FrR (envOf P).N ρ lo nx fr c ∧ FrsR (envOf P).N ρ base lo cs cs'
  last : lastFn fr cs = f

def RN (P : Program) (U : Nat → Prop) (ws : World) (base : Nat) (bs : List Frame) (f : Nat) (ρ : Ren) (m : Machine) : R → Prop
  | .next fr cs h nx => ∃ m' ρ', Steps P m m' ∧ Ex base ρ ρ' ∧ Rel P U ws base bs f ρ' fr cs h nx m'
  | .alts l => ∃ S m' ρ', S ∈ l ∧ Steps P m m' ∧ Ex base ρ ρ' ∧ Rel P U ws base bs f ρ' S.fr S.cs S.h S.nx m'
  | .done v h nx => ∃ c w v' ρ', Steps P m (lone c bs w) ∧ Ex base ρ ρ' ∧ SI (envOf P).N U ws ρ' h nx w ∧ VR ρ' v v' ∧ c.fn = f ∧ c.leaving P w (.returned v') ∧ base ≤ nx
  | .fail => True

/-- what the model's machine does with what an operation says. -/
structure AtS (P : Program) (m : Machine) (c : Frame) (cs : List Frame) (w : World) (s : Sem Next) : Prop where
  val : ∀ v w', s.run P w = .ok (.value v) w' → Steps P m (lone (c.finish v) cs w')
  skip : ∀ w', s.run P w = .ok .skip w' → Steps P m (lone (c.finish undef) cs w')
  enter : ∀ g a w', s.run P w = .ok (.enter g a) w' → Steps P m (lone (Frame.enter P g a .normal) (c :: cs) w')
  round : ∀ l f t a b w', s.run P w = .ok (.round l f t a b) w' → Steps P m (lone (Frame.round l f t a b .normal) (c :: cs) w')
  defer : ∀ d w', s.run P w = .ok (.defer d) w' → Steps P m (lone (Frame.finish { c with defers := d :: c.defers } undef) cs w')
  panic : ∀ v w', s.run P w = .halt (.panic v) w' → Steps P m (lone (c.raise [{ v, recovered := false }]) cs w')
  recover : ∀ w', s.run P w = .ok .recover w' → c.roundOf = none → match tryRecover c cs with
    | some (v, cs') => Steps P m (lone (c.finish v) cs' w')
    | none => Steps P m (lone (c.finish .nilIface) cs w')
theorem AtS.congr {P : Program} {m : Machine} {c : Frame} {cs : List Frame} {w w' : World} {s s' : Sem Next} (h : AtS P m c cs w s) (e : s.run P w = s'.run P w') : AtS P m c cs w' s' :=
  ⟨fun v w' hr => h.val v w' (e.trans hr), fun w' hr => h.skip w' (e.trans hr), fun g a w' hr => h.enter g a w' (e.trans hr), fun l f t a b w' hr => h.round l f t a b w' (e.trans hr),
    fun d w' hr => h.defer d w' (e.trans hr), fun v w' hr => h.panic v w' (e.trans hr), fun w' hr => h.recover w' (e.trans hr)⟩
theorem at_oper {P : Program} {fn : Nat} {tm : Array Value} {all : Array Oper} {i : Nat} {rest : List Nat} {k : List Item} {ds : List Deferred} {kind : CallKind} {ro : Option Nat} {cs : List Frame} {w : World} {o : Oper}
    (ho : all[i]? = some o) (hw : Region.wanted o (yielded all tm) = true) (hd : ro = none ∨ notDefer o.op = true) :
    AtS P (lone ⟨fn, tm, .inRegion all (i :: rest) :: k, ds, .run, kind, ro⟩ cs w) ⟨fn, tm, .inRegion all (i :: rest) :: k, ds, .run, kind, ro⟩ cs w (execOp (⟨tm, ds⟩ : Act).eval o) := by
  refine ⟨fun v w' hr => ?_, fun w' hr => ?_, fun g a w' hr => ?_, fun l f t a b w' hr => ?_, fun d w' hr => ?_, fun v w' hr => ?_, fun w' hr hro => ?_⟩
  · exact .one (step_lone_go (by rw [oper_eq ho hw hd]; simp [stepG.apply, hr]))
  · exact .one (step_lone_go (by rw [oper_eq ho hw hd]; simp [stepG.apply, hr]))
  · exact .one (step_lone_go (by rw [oper_eq ho hw hd]; simp [stepG.apply, hr]))
  · exact .one (step_lone_go (by rw [oper_eq ho hw hd]; simp [stepG.apply, hr]))
  · exact .one (step_lone_go (by rw [oper_eq ho hw hd]; simp [stepG.apply, hr]))
  · exact .one (step_lone_go (by rw [oper_eq ho hw hd]; simp [stepG.apply, hr]))
  · simp only at hro
    subst hro
    split
    · rename_i v cs' ht
      exact .one (step_lone_go (by rw [oper_eq ho hw hd]; simp [stepG.apply, hr, ht]))
    · rename_i ht
      exact .one (step_lone_go (by rw [oper_eq ho hw hd]; simp [stepG.apply, hr, ht]))

def PlugOK (P : Program) (g : Nat) : Plug → Prop
  | .ext f => ∀ U ws ρ h nx w args args', SI (envOf P).N U ws ρ h nx w → AR ρ ⟨args⟩ args' → EN P (callFunc g args') (envOf P).N U ws ρ nx w (f h nx args)
  | .sum f => ∀ U ws ρ h nx w args args' v h' nx', SI (envOf P).N U ws ρ h nx w → AR ρ ⟨args⟩ args' → f h nx args = some (v, h', nx') →
      (callFunc g args').run P w = .ok (.enter g args') w ∧ ∀ c cs, ∃ v' w' ρ', Steps P (lone (Frame.enter P g args' .normal) (c :: cs) w) (lone (c.finish v') cs w') ∧ Ex nx ρ ρ' ∧ SI (envOf P).N U ws ρ' h' nx' w' ∧ VR ρ' v v'
def PlugsOK (P : Program) (pl : T Plug) : Prop := ∀ g p, pl.get g = some p → PlugOK P g p

theorem lastFn_top {a b : AFr} (h : b.fn = a.fn) : ∀ cs, lastFn b cs = lastFn a cs
  | [] => h
  | _ :: _ => rfl

section
variable {P : Program} {U : Nat → Prop} {ws : World} {base : Nat} {bs : List Frame} {f : Nat} {ρ0 ρ : Ren} {fr : AFr} {c : Frame} {cs : List AFr} {cs' : List Frame} {h : T AObj} {nx lo : Nat} {w : World} {m : Machine}

theorem next_ok (hex : Ex base ρ0 ρ) (hs : SI (envOf P).N U ws ρ h nx w) (hl : lo ≤ nx) (hf : FrR (envOf P).N ρ lo nx fr c) (hc : FrsR (envOf P).N ρ base lo cs cs') (hlast : lastFn fr cs = f)
    (hst : Steps P m (lone c (cs' ++ bs) w)) : RN P U ws base bs f ρ0 m (.next fr cs h nx) :=
  ⟨_, ρ, hst, hex, ⟨c, cs', w, lo, rfl, hs, hl, hf, hc⟩, hlast⟩
theorem finR_ok (hex : Ex base ρ0 ρ) (hs : SI (envOf P).N U ws ρ h nx w) (hl : lo ≤ nx) (hf : FrR (envOf P).N ρ lo nx fr c) (hc : FrsR (envOf P).N ρ base lo cs cs') (hlast : lastFn fr cs = f) {v v' : Value} (hv : VR ρ v v')
    (hst : Steps P m (lone (c.finish v') (cs' ++ bs) w)) : RN P U ws base bs f ρ0 m (finR fr cs v h nx) := by
  unfold finR
  split
  · rename_i b hb
    exact next_ok hex hs hl (afin_ok hf hv hb) hc (by rw [lastFn_top (afin_fn hb)]; exact hlast) hst
  · trivial
theorem altsOf_ok {l : List (Value × T AObj)} : ∀ {L : List St}, altsOf fr cs nx l = some L → ∀ v h', (v, h') ∈ l → ∃ b, afin fr v = some b ∧ (⟨b, cs, h', nx⟩ : St) ∈ L := by
  induction l with
  | nil => intro L _ v h' hm; simp at hm
  | cons x l ih =>
    intro L hL v h' hm
    have hL : (match altsOf fr cs nx l with
      | some l => match afin fr x.1 with
        | some fr => some (⟨fr, cs, x.2, nx⟩ :: l)
        | none => none
      | none => none) = some L := hL
    split at hL
    · rename_i L' hL'
      split at hL
      · rename_i b hb
        cases hL
        rcases List.mem_cons.1 hm with rfl | hm
        · exact ⟨b, hb, List.mem_cons_self⟩
        · obtain ⟨b', h1, h2⟩ := ih hL' v h' hm
          exact ⟨b', h1, List.mem_cons_of_mem _ h2⟩
      · cases hL
    · cases hL
theorem erR_ok {s : Sem Next} {r : ER} (hen : EN P s (envOf P).N U ws ρ nx w r) (hl : lo ≤ nx) (hf : FrR (envOf P).N ρ lo nx fr c) (hc : FrsR (envOf P).N ρ base lo cs cs') (hlast : lastFn fr cs = f)
    (hat : AtS P m c (cs' ++ bs) w s) : RN P U ws base bs f ρ m (erR fr cs nx r) := by
  have hb := hc.le
  unfold erR
  split
  · rename_i v h' nx'
    obtain ⟨v', w', ρ', hr, hex, hs, hv⟩ := hen
    split
    · rename_i hn
      have hn := Nat.le_of_ble_eq_true hn
      exact finR_ok (hex.weak (by omega)) hs (by omega) (hf.mono hex hn) (hc.mono (hex.weak hl)) hlast hv (hat.val _ _ hr)
    · trivial
  · rename_i h' nx'
    obtain ⟨w', ρ', hr, hex, hs⟩ := hen
    split
    · rename_i hn
      have hn := Nat.le_of_ble_eq_true hn
      exact finR_ok (hex.weak (by omega)) hs (by omega) (hf.mono hex hn) (hc.mono (hex.weak hl)) hlast (VR.undef _) (hat.skip _ hr)
    · trivial
  · rename_i l nx'
    obtain ⟨v, h', v', w', ρ', hm, hr, hex, hs, hv⟩ := hen
    split
    · rename_i hn
      have hn := Nat.le_of_ble_eq_true hn
      split
      · rename_i L hL
        obtain ⟨b, hb', hmem⟩ := altsOf_ok hL v h' hm
        exact ⟨_, _, ρ', hmem, hat.val _ _ hr, hex.weak (by omega), ⟨_, cs', w', lo, rfl, hs, by show lo ≤ nx'; omega, afin_ok (hf.mono hex hn) hv hb', hc.mono (hex.weak hl)⟩, by
          show lastFn b cs = f
          rw [lastFn_top (afin_fn hb')]; exact hlast⟩
      · trivial
    · trivial
  · trivial
theorem enterR_ok {g : Nat} {args : List Value} {args' : Array Value} (hex : Ex base ρ0 ρ) (hs : SI (envOf P).N U ws ρ h nx w) (ha : AR ρ ⟨args⟩ args') (hl : lo ≤ nx) (hf : FrR (envOf P).N ρ lo nx fr c) (hc : FrsR (envOf P).N ρ base lo cs cs') (hlast : lastFn fr cs = f)
    (hst : ∀ w', (callFunc g args').run P w = .ok (.enter g args') w' → Steps P m (lone (Frame.enter P g args' .normal) (c :: (cs' ++ bs)) w')) : RN P U ws base bs f ρ0 m (enterR (ctxOf P) fr cs h nx g args) := by
  unfold enterR
  split
  · rename_i b hb
    obtain ⟨h1, h2⟩ := aenter_ok (lo := nx) (nx := nx) ha hb
    exact next_ok (cs' := c :: cs') hex hs (Nat.le_refl _) h1 (.cons hl hf hc) hlast (hst w (h2 w))
  · trivial
theorem acall_ok {pl : T Plug} (hpl : PlugsOK P pl) {d d' : Deferred} (hd : DfR ρ d d') (hex : Ex base ρ0 ρ) (hs : SI (envOf P).N U ws ρ h nx w) (hl : lo ≤ nx) (hf : FrR (envOf P).N ρ lo nx fr c) (hc : FrsR (envOf P).N ρ base lo cs cs') (hlast : lastFn fr cs = f)
    (hat : AtS P m c (cs' ++ bs) w (invoke d'.target d'.args)) : RN P U ws base bs f ρ0 m (acall (ctxOf P) pl fr cs h nx d) := by
  have hb := hc.le
  have weaken : ∀ r, RN P U ws base bs f ρ m r → RN P U ws base bs f ρ0 m r := fun r hr => by
    cases r with
    | next => obtain ⟨m', ρ', a, b, c⟩ := hr; exact ⟨m', ρ', a, hex.trans b (Nat.le_refl _), c⟩
    | alts => obtain ⟨S, m', ρ', z, a, b, c⟩ := hr; exact ⟨S, m', ρ', z, a, hex.trans b (Nat.le_refl _), c⟩
    | done => obtain ⟨c, w, v', ρ', a, b, r⟩ := hr; exact ⟨c, w, v', ρ', a, hex.trans b (Nat.le_refl _), r⟩
    | fail => trivial
  apply weaken
  obtain ⟨tg, args⟩ := d
  obtain ⟨tg', args'⟩ := d'
  obtain ⟨ht, ha⟩ := hd
  simp only at ht ha hat
  unfold acall
  cases ht with
  | builtin b ts t cs => trivial
  | collected _ => trivial
  | yield hy =>
    simp only []
    split
    · rename_i b hb
      obtain ⟨fn, tm, as, bd, hr, hfr⟩ := aYield_ok (lo := nx) hs hy ha hb
      exact next_ok (cs' := c :: cs') (Ex.refl _ _) hs (Nat.le_refl _) hfr (.cons hl hf hc) hlast (hat.round _ _ _ _ _ _ hr)
    · trivial
  | fn fn cap cap' hfn hcap =>
    have hargs : AR ρ ⟨app args.toList cap.toList⟩ (args' ++ cap') := by
      rw [app_eq]
      have := AR.of_LR (ha.toList.append hcap.toList)
      have e : args' ++ cap' = ⟨args'.toList ++ cap'.toList⟩ := by apply Array.ext'; simp
      rw [e]; exact this
    cases fn with
    | func g =>
      have hat : AtS P m c (cs' ++ bs) w (callFunc g (args' ++ cap')) := hat
      have hent : RN P U ws base bs f ρ m (enterR (ctxOf P) fr cs h nx g (app args.toList cap.toList)) :=
        enterR_ok (Ex.refl _ _) hs hargs hl hf hc hlast fun w' hr => hat.enter _ _ _ hr
      simp only []
      split
      · rename_i p hp
        have hp := hpl g p hp
        split
        · rename_i ff
          exact erR_ok (hp U ws ρ h nx w _ _ hs hargs) hl hf hc hlast hat
        · rename_i ff
          split
          · rename_i x hx
            obtain ⟨v, h', nx'⟩ := x
            split
            · rename_i hn
              have hn : nx ≤ nx' := Nat.le_of_ble_eq_true hn
              obtain ⟨h1, h2⟩ := hp U ws ρ h nx w _ _ v h' nx' hs hargs hx
              obtain ⟨v', w', ρ', s1, s2, s3, s4⟩ := h2 c (cs' ++ bs)
              exact finR_ok (s2.weak (by omega)) s3 (by omega) (hf.mono s2 hn) (hc.mono (s2.weak hl)) hlast s4 (Steps.trans (hat.enter _ _ _ h1) s1)
            · trivial
          · exact hent
      · exact hent
    | yield l => exact absurd rfl (hfn l)
    | _ => trivial
end
end Go.Proofs.YtmiojdppkooikaaGreatDoor.Abs
namespace Go.Proofs.YtmiojdppkooikaaGreatDoor.Abs
open Go

section
variable {P : Program} {U : Nat → Prop} {ws : World} {base : Nat} {bs : List Frame} {f : Nat} {ρ0 ρ ρ' : Ren} {h : T AObj} {nx lo : Nat} {w : World} {m m' : Machine}

theorem RN.trans (hst : Steps P m m') (hex : Ex base ρ ρ') {r : R} (hr : RN P U ws base bs f ρ' m' r) : RN P U ws base bs f ρ m r := by
  cases r with
  | next => obtain ⟨m', ρ', a, b, c⟩ := hr; exact ⟨m', ρ', hst.trans a, hex.trans b (Nat.le_refl _), c⟩
  | alts => obtain ⟨S, m', ρ', z, a, b, c⟩ := hr; exact ⟨S, m', ρ', z, hst.trans a, hex.trans b (Nat.le_refl _), c⟩
  | done => obtain ⟨c, w, v', ρ', a, b, r⟩ := hr; exact ⟨c, w, v', ρ', hst.trans a, hex.trans b (Nat.le_refl _), r⟩
  | fail => trivial

theorem arecover_ok {fr : AFr} {c : Frame} {cs : List AFr} {cs' : List Frame} (hs : SI (envOf P).N U ws ρ h nx w) (hl : lo ≤ nx) (hf : FrR (envOf P).N ρ lo nx fr c) (hc : FrsR (envOf P).N ρ base lo cs cs') (hlast : lastFn fr cs = f)
    (hrec : c.roundOf = none → match tryRecover c (cs' ++ bs) with
      | some (v, cs') => Steps P m (lone (c.finish v) cs' w)
      | none => Steps P m (lone (c.finish .nilIface) (cs' ++ bs) w)) : RN P U ws base bs f ρ m (arecover fr cs h nx) := by
  have nil : tryRecover c (cs' ++ bs) = none → c.roundOf = none → RN P U ws base bs f ρ m (finR fr cs .nilIface h nx) := fun e hr => by
    have := hrec hr
    rw [e] at this
    exact finR_ok (Ex.refl _ _) hs hl hf hc hlast .nilIface this
  have hf0 := hf
  cases hf with
  | mk ht htd hds hmo hro =>
    rename_i fn t t' n tm as is ds ds' mo mo' kind ro ro'
    unfold arecover
    simp only []
    cases hro with
    | some _ => trivial
    | none =>
      simp only [] at hrec nil ⊢
      cases kind with
      | normal => exact nil (by simp [tryRecover]) trivial
      | deferred =>
        simp only []
        cases hc with
        | nil _ => trivial
        | cons hl2 hf2 hc2 =>
          rename_i a c2 as2 cs2
          cases hf2 with
          | mk ht2 htd2 hds2 hmo2 hro2 =>
            cases hmo2 with
            | run => exact nil (by simp [tryRecover]) trivial
            | returning => exact nil (by simp [tryRecover]) trivial
            | panicking hch =>
              cases hch with
              | nil => exact nil (by simp [tryRecover]) trivial
              | cons he hch =>
                rename_i e e' l l'
                obtain ⟨v, rc, ge⟩ := e
                obtain ⟨v', rc', ge'⟩ := e'
                obtain ⟨hv, h2, h3⟩ := he
                simp only at hv h2 h3
                subst h2; subst h3
                simp only []
                cases rc' with
                | true => exact nil (by simp [tryRecover]) trivial
                | false =>
                  cases ge' with
                  | true => exact nil (by simp [tryRecover]) trivial
                  | false =>
                    have := hrec trivial
                    simp only [List.cons_append, tryRecover] at this
                    refine finR_ok (cs' := _ :: cs2) (Ex.refl _ _) hs hl hf0 (.cons hl2 (.mk ht2 htd2 hds2 (.panicking (.cons (e := ⟨v, true, false⟩) (e' := ⟨v', true, false⟩) ⟨hv, rfl, rfl⟩ hch)) hro2) hc2) ?_ hv this
                    rw [← hlast]
                    refine lastFn_top ?_ as2
                    rfl
      | _ => trivial

theorem aop_ok {pl : T Plug} (hpl : PlugsOK P pl) {fn : Nat} {t t' : T Value} {n : Nat} {todo : List AItem} {ds : List Deferred} {kind : CallKind} {ro : Option Nat} {tm : Array Value} {all : Array Oper} {i : Nat} {l : List Nat} {k' : List Item} {ds' : List Deferred} {ro' : Option Nat}
    {o : Oper} {cs : List AFr} {cs' : List Frame} (ho : all[i]? = some o) (hw : Region.wanted o (yielded all tm) = true) (hk : okOp (envOf P).N o.op = true) (hev : ∀ x ∈ o.op.operands, aev t x = aev t' x) (ht : TmR ρ t' n tm)
    (hs : SI (envOf P).N U ws ρ h nx w) (hl : lo ≤ nx) (hf : FrR (envOf P).N ρ lo nx ⟨fn, t, n, todo, ds, .run, kind, ro⟩ ⟨fn, tm, .inRegion all (i :: l) :: k', ds', .run, kind, ro'⟩) (hc : FrsR (envOf P).N ρ base lo cs cs')
    (hlast : lastFn ⟨fn, t, n, todo, ds, .run, kind, ro⟩ cs = f) :
    RN P U ws base bs f ρ (lone ⟨fn, tm, .inRegion all (i :: l) :: k', ds', .run, kind, ro'⟩ (cs' ++ bs) w) (aop P (ctxOf P) pl o ⟨fn, t, n, todo, ds, .run, kind, ro⟩ cs h nx) := by
  have base_at := fun hd => at_oper (P := P) (fn := fn) (tm := tm) (k := k') (ds := ds') (kind := kind) (ro := ro') (cs := cs' ++ bs) (w := w) (rest := l) ho hw hd
  have hx := xop_ok (P := P) hs (a := ⟨tm, ds'⟩) ht (o := o) hk
  rw [← xop_congr hev] at hx
  have plain : notDefer o.op = true → RN P U ws base bs f ρ (lone ⟨fn, tm, .inRegion all (i :: l) :: k', ds', .run, kind, ro'⟩ (cs' ++ bs) w) (erR ⟨fn, t, n, todo, ds, .run, kind, ro⟩ cs nx (xop P (ctxOf P).E h nx t o.op)) := fun hd =>
    erR_ok hx hl hf hc hlast (base_at (.inr hd))
  have hm := okOp_mem hk
  cases hop : o.op
  case call c =>
    have hd : notDefer o.op = true := by rw [hop]; rfl
    have plain := plain hd
    have hat := base_at (.inr hd)
    rw [hop] at hev hm
    simp only [aop, hop]
    cases hcl : c.callee with
    | value fo =>
      simp only []
      split
      · rename_i d hdd
        rw [aresolve_congr (t' := t') (fun x hx => hev x (by simpa [Op.operands] using hx))] at hdd
        obtain ⟨d', hr, hdr⟩ := aresolve_ok (P := P) hs (a := ⟨tm, ds'⟩) ht (c := c) (ty := o.type) (List.all_eq_true.2 fun x hx => hm x (by simpa [Op.operands] using hx)) hdd
        refine acall_ok hpl hdr (Ex.refl _ _) hs hl hf hc hlast (hat.congr ?_)
        have e : execOp (⟨tm, ds'⟩ : Act).eval o = (do let d ← resolve (⟨tm, ds'⟩ : Act).eval c o.type; invoke d.target d.args) := by
          obtain ⟨dst, op, ty, pos, after, guard⟩ := o
          simp only at hop
          subst hop
          rfl
        rw [e]
        simp only [Sem.run_bind, hr, Result.andThen_ok]
      · trivial
    | builtin b =>
      have pl2 : RN P U ws base bs f ρ (lone ⟨fn, tm, .inRegion all (i :: l) :: k', ds', .run, kind, ro'⟩ (cs' ++ bs) w) (erR ⟨fn, t, n, todo, ds, .run, kind, ro⟩ cs nx (xop P (ctxOf P).E h nx t o.op)) := plain
      rw [hop] at pl2
      cases b <;> first | exact pl2 | skip
      refine arecover_ok hs hl hf hc hlast fun hro => ?_
      have hr : (execOp (⟨tm, ds'⟩ : Act).eval o).run P w = .ok .recover w := by
        obtain ⟨dst, op, ty, pos, after, guard⟩ := o
        simp only at hop
        subst hop
        obtain ⟨callee, args, argTypes⟩ := c
        simp only at hcl
        subst hcl
        rfl
      exact hat.recover w hr hro
    | invoke r nm => trivial
  case «defer» c =>
    rw [hop] at hev hm
    simp only [aop, hop]
    split
    · trivial
    · rename_i hro
      split
      · rename_i d hdd
        rw [aresolve_congr (t' := t') (fun x hx => hev x (by simpa [Op.operands] using hx))] at hdd
        obtain ⟨d', hr, hdr⟩ := aresolve_ok (P := P) hs (a := ⟨tm, ds'⟩) ht (c := c) (ty := o.type) (List.all_eq_true.2 fun x hx => hm x (by simpa [Op.operands] using hx)) hdd
        have hro' : ro' = none := by
          cases hf with
          | mk _ _ _ _ h5 => cases h5 with
            | none => rfl
        have hat := base_at (.inl hro')
        have hrun : (execOp (⟨tm, ds'⟩ : Act).eval o).run P w = .ok (.defer d') w := by
          have e : execOp (⟨tm, ds'⟩ : Act).eval o = (do pure (.defer (← resolve (⟨tm, ds'⟩ : Act).eval c o.type))) := by
            obtain ⟨dst, op, ty, pos, after, guard⟩ := o
            simp only at hop
            subst hop
            rfl
          rw [e]
          simp only [Sem.run_bind, hr, Result.andThen_ok, Sem.run_pure]
        have hst := hat.defer d' w hrun
        refine finR_ok (fr := addDefer ⟨fn, t, n, todo, ds, .run, kind, none⟩ d) (Ex.refl _ _) hs hl ?_ hc ((lastFn_top (a := ⟨fn, t, n, todo, ds, .run, kind, none⟩) (b := addDefer ⟨fn, t, n, todo, ds, .run, kind, none⟩ d) rfl cs).trans hlast) (VR.undef ρ) hst
        cases hf with
        | mk h1 h2 h3 h4 h5 => exact .mk h1 h2 (.cons hdr h3) h4 h5
      · trivial
  case panic x =>
    rw [hop] at hev hm
    simp only [aop, hop]
    split
    · rename_i ty v hv
      have hx : VR ρ (aev t x) ((⟨tm, ds'⟩ : Act).eval x) := by
        rw [hev x (by simp [Op.operands])]
        exact aev_VR hs ht (hm x (by simp [Op.operands]))
      rw [hv] at hx
      generalize hxe : (⟨tm, ds'⟩ : Act).eval x = xe at hx
      cases hx with
      | iface _ hvr =>
        rename_i v'
        have hat := base_at (.inr (by rw [hop]; rfl))
        have hrun : (execOp (⟨tm, ds'⟩ : Act).eval o).run P w = .halt (.panic (.iface ty v')) w := by
          obtain ⟨dst, op, ty, pos, after, guard⟩ := o
          simp only at hop
          subst hop
          simp only [execOp, hxe]
          rfl
        have hst := hat.panic _ w hrun
        have hch : ChR ρ [⟨.iface ty v, false, false⟩] [{ v := .iface ty v', recovered := false }] := .cons ⟨.iface ty hvr, rfl, rfl⟩ .nil
        refine next_ok (Ex.refl _ _) hs hl (araise_ok hf hch) hc ?_ hst
        rw [← hlast]
        refine lastFn_top ?_ cs
        rfl
    · trivial
  all_goals
    simp only [aop, hop]
    rw [hop] at plain
    exact plain rfl
end
end Go.Proofs.YtmiojdppkooikaaGreatDoor.Abs
namespace Go.Proofs.YtmiojdppkooikaaGreatDoor.Abs
open Go

section
variable {P : Program} {U : Nat → Prop} {ws : World} {base : Nat} {bs : List Frame} {f : Nat} {ρ0 ρ ρ' : Ren} {h : T AObj} {nx lo : Nat} {w : World} {m m' : Machine}

theorem TmR.ext {ρ : Ren} {t t' : T Value} {n : Nat} {a : Array Value} (h : TmR ρ t' n a) (e : ∀ x, t'.get x = t.get x) : TmR ρ t n a :=
  ⟨h.1, fun i hi => by rw [← e]; exact h.2.1 i hi, fun i hi => by rw [← e]; exact h.2.2 i hi⟩
theorem SI.up {N : Nat} (s : SI N U ws ρ h nx w) : SI N U ws ρ h (nx + 1) w :=
  ⟨s.rel, s.inj, s.bnd, fun b p hp => Nat.lt_succ_of_lt (s.lt b p hp), s.wr, s.glob, Nat.le_succ_of_le s.nle, s.same⟩

theorem findQ_ok {E : Env} {t : T Value} {n : Nat} {all : Array Oper} {run : List Nat} : ∀ {l : List Nat} {x : Nat × T AObj × T Value}, findQ P E h nx t n all run l = some x →
    x.1 ∈ l ∧ ∃ o v, all[x.1]? = some o ∧ x.2.2 = tput t n o.dst v ∧ (x.2.1 = h ∨ ∃ ob, x.2.1 = h.set nx ob)
  | [], x, hx => by cases (show (none : Option (Nat × T AObj × T Value)) = some x from hx)
  | j :: l, x, hx => by
    have tail : findQ P E h nx t n all run l = some x → x.1 ∈ j :: l ∧ ∃ o v, all[x.1]? = some o ∧ x.2.2 = tput t n o.dst v ∧ (x.2.1 = h ∨ ∃ ob, x.2.1 = h.set nx ob) := fun e =>
      let ⟨h1, h2⟩ := findQ_ok e; ⟨List.mem_cons_of_mem _ h1, h2⟩
    have hx : (match nth all.toList j with
    | none => findQ P E h nx t n all run l
    | some o => match enabled run o with
      | false => findQ P E h nx t n all run l
      | true => match aquiet P E h nx t n all o with
        | some x => some (j, x.1, x.2)
        | none => findQ P E h nx t n all run l) = some x := hx
    split at hx
    · exact tail hx
    · rename_i o ho
      rw [nth_eq, Array.getElem?_toList] at ho
      split at hx
      · exact tail hx
      · split at hx
        · rename_i y hy
          cases hx
          refine ⟨List.mem_cons_self, o, ?_⟩
          unfold aquiet at hy
          split at hy
          · cases hy; exact ⟨undef, ho, rfl, .inl rfl⟩
          · split at hy
            · cases hy
            · split at hy
              · rename_i v _
                cases hy; exact ⟨v, ho, rfl, .inl rfl⟩
              · rename_i ob v _
                cases hy; exact ⟨v, ho, rfl, .inr ⟨ob, rfl⟩⟩
              · cases hy
        · exact tail hx
theorem findE_ok {all : Array Oper} {run : List Nat} : ∀ {l : List Nat} {e : Nat}, findE all run l = some e → e ∈ l
  | [], e, he => by cases (show (none : Option Nat) = some e from he)
  | j :: l, e, he => by
    have he : (match nth all.toList j with
    | none => findE all run l
    | some o => match enabled run o with
      | false => findE all run l
      | true => some j) = some e := he
    split at he
    · exact List.mem_cons_of_mem _ (findE_ok he)
    · split at he
      · exact List.mem_cons_of_mem _ (findE_ok he)
      · cases he; exact List.mem_cons_self
theorem allAfter_ok {msk : T Nat} {e : Nat} : ∀ {l : List Nat}, allAfter msk e l = true → ∀ j ∈ l, before msk e j = true
  | [], _, j, hj => by simp at hj
  | x :: l, h, j, hj => by
    have h : (match before msk e x with
      | true => allAfter msk e l
      | false => false) = true := h
    split at h
    · rename_i hb
      rcases List.mem_cons.1 hj with rfl | hj
      · exact hb
      · exact allAfter_ok h j hj
    · cases h
theorem notPend_ok {e : Nat} : ∀ {l : List (Nat × Nat)}, notPend l e = true → ∀ id, (e, id) ∉ l
  | [], _, id => by simp
  | x :: l, h, id => by
    have h : (match Nat.beq x.1 e with
      | true => false
      | false => notPend l e) = true := h
    split at h
    · cases h
    · rename_i hb
      have hb := Nat.ne_of_beq_eq_false hb
      intro hm
      rcases List.mem_cons.1 hm with e1 | hm
      · rw [← e1] at hb; exact hb rfl
      · exact notPend_ok h id hm
theorem mem_prune {msk : T Nat} {e : Nat} : ∀ {l : List (Nat × Nat)} {x : Nat × Nat}, x ∈ prune msk e l ↔ x ∈ l ∧ before msk x.1 e = false
  | [], x => by simp [prune]
  | y :: l, x => by
    have ih := mem_prune (msk := msk) (e := e) (l := l) (x := x)
    have e1 : prune msk e (y :: l) = (match before msk y.1 e with
      | true => prune msk e l
      | false => y :: prune msk e l) := rfl
    rw [e1]
    split
    · rename_i hb
      rw [ih, List.mem_cons]
      constructor
      · rintro ⟨h1, h2⟩; exact ⟨.inr h1, h2⟩
      · rintro ⟨rfl | h1, h2⟩
        · rw [hb] at h2; cases h2
        · exact ⟨h1, h2⟩
    · rename_i hb
      rw [List.mem_cons, List.mem_cons, ih]
      constructor
      · rintro (rfl | ⟨h1, h2⟩)
        · exact ⟨.inl rfl, hb⟩
        · exact ⟨.inr h1, h2⟩
      · rintro ⟨rfl | h1, h2⟩
        · exact .inl rfl
        · exact .inr ⟨h1, h2⟩
theorem prune_nodup {msk : T Nat} {e : Nat} {l : List (Nat × Nat)} (h : (l.map (·.2)).Nodup) : ((prune msk e l).map (·.2)).Nodup := by
  induction l with
  | nil => exact List.nodup_nil
  | cons x l ih =>
    simp only [List.map_cons, List.nodup_cons] at h
    have e1 : prune msk e (x :: l) = (match before msk x.1 e with
      | true => prune msk e l
      | false => x :: prune msk e l) := rfl
    rw [e1]
    split
    · exact ih h.2
    · simp only [List.map_cons, List.nodup_cons]
      refine ⟨fun hm => h.1 ?_, ih h.2⟩
      obtain ⟨y, h1, h2⟩ := List.mem_map.1 hm
      exact List.mem_map.2 ⟨y, (mem_prune.1 h1).1, h2⟩

theorem adrawn_ok {pl : T Plug} (hpl : PlugsOK P pl) {fn : Nat} {t t' : T Value} {n : Nat} {all : Array Oper} {msk : T Nat} {run : List Nat} {pend : List (Nat × Nat)} {k : List AItem} {ds : List Deferred} {kind : CallKind} {ro : Option Nat} {tm : Array Value} {l : List Nat} {k' : List Item} {ds' : List Deferred} {ro' : Option Nat}
    {cs : List AFr} {cs' : List Frame} (hmk : MskOK all msk) (ht : TmR ρ t' n tm) (hd : DrR all ρ lo nx run pend l) (ha : Agr all pend l t t') (hko : okOps (envOf P).N all.toList = true) (hI : ItsR (envOf P).N ρ k k') (hds : DsR ρ ds ds') (hro : RoR ρ ro ro')
    (hs : SI (envOf P).N U ws ρ h nx w) (hl : lo ≤ nx) (hc : FrsR (envOf P).N ρ base lo cs cs') (hlast : ∀ t todo, lastFn ⟨fn, t, n, todo, ds, .run, kind, ro⟩ cs = f) :
    RN P U ws base bs f ρ (lone ⟨fn, tm, .inRegion all l :: k', ds', .run, kind, ro'⟩ (cs' ++ bs) w) (adrawn P (ctxOf P) pl fn t n all msk run pend k ds kind ro cs h nx) := by
  have hbl := hc.le
  unfold adrawn
  split
  · rename_i x hx
    obtain ⟨hj, o, v, ho, ht2, hh⟩ := findQ_ok hx
    obtain ⟨j, h2, t2⟩ := x
    simp only at hj ho ht2 hh ⊢
    have hnx := hs.nx_none (Nat.le_refl nx)
    have hs2 : SI (envOf P).N U ws ρ h2 (nx + 1) w := by
      rcases hh with rfl | ⟨ob, rfl⟩
      · exact hs.up
      · exact hs.ghost hnx ob (Nat.le_succ nx)
    have hd2 : DrR all ρ lo (nx + 1) (rem j run) ((j, nx) :: pend) l := by
      refine ⟨hd.lin, fun i hi => ?_, fun i hi => hd.run i (mem_rem.1 hi).1, fun i id hm hi => ?_, fun i id hm => ?_, ?_⟩
      · by_cases e : i = j
        · exact .inr ⟨nx, by rw [e]; exact List.mem_cons_self⟩
        · rcases hd.mem i hi with h1 | ⟨id, h1⟩
          · exact .inl (mem_rem.2 ⟨h1, e⟩)
          · exact .inr ⟨id, List.mem_cons_of_mem _ h1⟩
      · rcases List.mem_cons.1 hm with e | hm
        · cases e; exact hnx
        · exact hd.gh i id hm hi
      · rcases List.mem_cons.1 hm with e | hm
        · cases e; exact ⟨hl, Nat.lt_succ_self nx⟩
        · exact ⟨(hd.gn i id hm).1, Nat.lt_succ_of_lt (hd.gn i id hm).2⟩
      · rw [List.map_cons, List.nodup_cons]
        refine ⟨fun hm => ?_, hd.ids⟩
        obtain ⟨y, h1, h2⟩ := List.mem_map.1 hm
        have := (hd.gn y.1 y.2 h1).2
        simp only at h2
        omega
    have ha2 : Agr all ((j, nx) :: pend) l t2 t' := by
      intro x hx
      have hxj : o.dst ≠ some x := by
        have := hx j nx List.mem_cons_self (hd.run j hj)
        simpa [dstOf, ho] using this
      have e1 : t2.get x = t.get x := by
        rw [ht2]
        unfold tput
        split
        · rename_i dd hdd
          split
          · rw [T.get_set_ne _ _ (fun e => hxj (by rw [hdd, e]))]
          · rfl
        · rfl
      rw [e1]
      exact ha x fun i id hm hi => hx i id (List.mem_cons_of_mem _ hm) hi
    exact next_ok (Ex.refl _ _) hs2 (Nat.le_succ_of_le hl) (.mk ht (.drawn hmk hd2 ha2 hko hI) hds .run hro) hc (hlast _ _) (Steps.refl P _)
  · split
    · trivial
    · rename_i hchk
      have hchk := chkAll_ok hchk
      obtain ⟨is', ρ', w', t'', tm', s1, s2, s3, s4, s5, s6, s7⟩ := drain (P := P) (U := U) (ws := ws) (h := h) (lo := lo) (nx := nx) (run := run) hmk hchk hko (fn := fn) (k := k') (ds := ds') (kind := kind) (ro := ro') (cs := cs' ++ bs) l ρ w t' tm hd hs ht ha
      cases run with
      | nil =>
        rcases s7 with rfl | ⟨e, rest, _, he⟩
        · have ht3 : TmR ρ' t n tm' := s4.ext fun x => s5 x fun i id _ hi => by simp at hi
          refine next_ok (s2.weak hbl) s3 hl (.mk ht3 (.plain (hI.mono s2.1)) (hds.mono s2.1) .run (hro.mono s2.1)) (hc.mono s2) (hlast _ _) (s1.trans (.one ?_))
          exact step_lone_go (by simp [stepG, stepG.exec])
        · simp at he
      | cons r0 rs =>
        simp only []
        split
        · trivial
        · rename_i e hfe
          have he := findE_ok hfe
          split
          · trivial
          · rename_i o ho
            rw [nth_eq, Array.getElem?_toList] at ho
            split
            · trivial
            · rename_i haw
              split
              case h_2 => trivial
              rename_i hcond
              simp only [Bool.and_eq_true] at hcond
              obtain ⟨⟨hc1, hc2⟩, hc3⟩ := hcond
              have hc1 := allAfter_ok hc1
              have hc2 := notPend_ok hc2
              rcases s7 with rfl | ⟨e2, rest, rfl, he2⟩
              · exact absurd (s6.run e he) (by simp)
              · obtain ⟨hlin, hinot⟩ : Lin all rest ∧ e2 ∉ rest := by cases s6.lin with | cons _ h2 _ h4 => exact ⟨h4, h2⟩
                have hee : e2 = e := by
                  refine Classical.byContradiction fun hne => ?_
                  have hb := hc1 e2 (mem_rem.2 ⟨he2, hne⟩)
                  have := (before_ok hmk hb).2 rest hlin.dc hinot
                  rcases List.mem_cons.1 (s6.run e he) with h1 | h1
                  · exact hne h1.symm
                  · exact this h1
                subst hee
                have hdcl : ∀ i, before msk i e2 = true → i < e2 ∧ i ∉ rest := fun i hb => ⟨(before_ok hmk hb).1, (before_ok hmk hb).2 rest hlin.dc hinot⟩
                have hd3 : DrR all ρ' lo nx (rem e2 (r0 :: rs)) (prune msk e2 pend) rest := by
                  refine ⟨hlin, fun i hi => ?_, fun i hi => ?_, fun i id hm hi => s6.gh i id (mem_prune.1 hm).1 (List.mem_cons_of_mem _ hi), fun i id hm => s6.gn i id (mem_prune.1 hm).1, prune_nodup s6.ids⟩
                  · have hne : i ≠ e2 := fun e => hinot (e ▸ hi)
                    rcases s6.mem i (List.mem_cons_of_mem _ hi) with h1 | ⟨id, h1⟩
                    · exact .inl (mem_rem.2 ⟨h1, hne⟩)
                    · refine .inr ⟨id, mem_prune.2 ⟨h1, ?_⟩⟩
                      cases hbb : before msk i e2 with
                      | false => rfl
                      | true => exact absurd hi (hdcl i hbb).2
                  · obtain ⟨h1, h2⟩ := mem_rem.1 hi
                    exact (List.mem_cons.1 (s6.run i h1)).resolve_left h2
                have ha3 : Agr all (prune msk e2 pend) rest t t'' := fun x hx => s5 x fun i id hm hi hdst => by
                  rcases List.mem_cons.1 hi with rfl | hi
                  · exact hc2 id hm
                  · refine hx i id (mem_prune.2 ⟨hm, ?_⟩) hi hdst
                    cases hbb : before msk i e2 with
                    | false => rfl
                    | true => exact absurd hi (hdcl i hbb).2
                have agree : ∀ x ∈ sees all o, t.get x = t''.get x := fun x hx => (s5 x fun i id hm hi hdst => by
                  have hb := freeOf_ok hc3 i id hm x hx hdst
                  obtain ⟨h1, h2⟩ := hdcl i hb
                  rcases List.mem_cons.1 hi with rfl | hi
                  · exact absurd h1 (Nat.lt_irrefl _)
                  · exact h2 hi).symm
                obtain ⟨hev, hgd⟩ := aev_sees agree
                have hwant : Region.wanted o (yielded all tm') = true := by rw [awant_ok s4 o, ← haw]; exact (awant_congr hgd).symm
                have hk : okOp (envOf P).N o.op = true := List.all_eq_true.1 hko o (by simpa using Array.mem_of_getElem? ho)
                refine RN.trans s1 (s2.weak hbl) ?_
                exact aop_ok hpl ho hwant hk hev s4 s3 hl (.mk s4 (.busy hmk hd3 ha3 hko (hI.mono s2.1)) (hds.mono s2.1) .run (hro.mono s2.1)) (hc.mono s2) (hlast _ _)
end
end Go.Proofs.YtmiojdppkooikaaGreatDoor.Abs
namespace Go.Proofs.YtmiojdppkooikaaGreatDoor.Abs
open Go

section
variable {P : Program} {U : Nat → Prop} {ws : World} {base : Nat} {bs : List Frame} {f : Nat} {ρ0 ρ ρ' : Ren} {h : T AObj} {nx lo : Nat} {w : World} {m m' : Machine}

def resSem (tm : Array Value) : ResultVar → Sem Value
  | .tmp t => pure (tm.getD t undef)
  | .cell a t => do loadVar t (← asAddr (tm.getD a undef))
theorem results_eq (fn : Func) (tm : Array Value) : results fn tm = (do
    let vs ← fn.results.mapM (resSem tm)
    pure (if h : vs.size = 1 then vs[0] else .tuple vs)) := by
  unfold results
  congr 2
theorem aresult_ok (s : SI (envOf P).N U ws ρ h nx w) {t : T Value} {n : Nat} {tm : Array Value} (ht : TmR ρ t n tm) {r : ResultVar} {v : Value} (hr : aresult (envOf P) h t r = some v) :
    ∃ v', (resSem tm r).run P w = .ok v' w ∧ VR ρ v v' := by
  have ev : ∀ d, VR ρ (aev t (.tmp d)) (tm.getD d undef) := fun d => aev_VR s (a := ⟨tm, []⟩) ht (x := .tmp d) rfl
  cases r with
  | tmp d =>
    cases hr
    exact ⟨_, rfl, ev d⟩
  | cell a ty =>
    unfold aresult at hr
    simp only [] at hr
    split at hr
    · rename_i v0 hq
      cases hr
      have hv := ev a
      have hl := qLoad_ok (P := P) (id := 0) s (ty := ty) hv
      rw [hq] at hl
      obtain ⟨v', h1, h2⟩ := hl
      refine ⟨v', ?_, h2⟩
      generalize hav : aev t (.tmp a) = av at hv hq
      show (do loadVar ty (← asAddr (tm.getD a undef)) : Sem Value).run P w = .ok v' w
      generalize hat : tm.getD a undef = at' at hv h1 ⊢
      unfold qLoad at hq
      split at hq
      · cases hv with
        | ptr hp => exact h1
      · cases hq
    · cases hr
theorem aresultL_ok (s : SI (envOf P).N U ws ρ h nx w) {t : T Value} {n : Nat} {tm : Array Value} (ht : TmR ρ t n tm) : ∀ {l : List ResultVar} {vs : List Value}, aresultL (envOf P) h t l = some vs →
    ∃ vs', (l.mapM (resSem tm)).run P w = .ok vs' w ∧ LR ρ vs vs'
  | [], vs, hr => by
    cases (show some ([] : List Value) = some vs from hr)
    exact ⟨[], by simp, .nil⟩
  | r :: l, vs, hr => by
    have hr : (match aresult (envOf P) h t r with
      | some v => match aresultL (envOf P) h t l with
        | some l => some (v :: l)
        | none => none
      | none => none) = some vs := hr
    split at hr
    · rename_i v hv
      split at hr
      · rename_i l' hl
        cases hr
        obtain ⟨v', h1, h2⟩ := aresult_ok s ht hv
        obtain ⟨vs', h3, h4⟩ := aresultL_ok s ht hl
        refine ⟨v' :: vs', ?_, .cons h2 h4⟩
        rw [List.mapM_cons]
        simp only [Sem.run_bind, Sem.run_pure, h1, Result.andThen_ok, h3]
      · cases hr
    · cases hr
theorem results_ok (s : SI (envOf P).N U ws ρ h nx w) {t : T Value} {n : Nat} {tm : Array Value} (ht : TmR ρ t n tm) {fn : Func} {vs : List Value} (hr : aresultL (envOf P) h t fn.results.toList = some vs) :
    ∃ v', (results fn tm).run P w = .ok v' w ∧ VR ρ (oneOrMore vs) v' := by
  obtain ⟨vs', h1, h2⟩ := aresultL_ok s ht hr
  rw [results_eq]
  simp only [Array.mapM_eq_mapM_toList, Sem.run_bind, Sem.run_map, h1, Result.andThen_ok, Sem.run_pure]
  refine ⟨_, rfl, ?_⟩
  cases h2 with
  | nil => exact VR.tuple_iff.2 ⟨_, rfl, AR.nil ρ⟩
  | cons ha ht =>
    cases ht with
    | nil => simpa [oneOrMore] using ha
    | cons hb ht =>
      have := AR.of_LR (.cons ha (.cons hb ht))
      simp only [oneOrMore]
      rw [dif_neg (by simp)]
      exact VR.tuple_iff.2 ⟨_, rfl, this⟩

theorem noGoexit_ok : ∀ {l l' : List PanicEntry}, ChR ρ l l' → noGoexit l = true → l'.dropWhile (!·.goexit) = []
  | [], _, h, _ => by cases h; rfl
  | e :: l, _, h, hn => by
    cases h with
    | cons he hl =>
      have hn : (match e.goexit with
        | true => false
        | false => noGoexit l) = true := hn
      split at hn
      · cases hn
      · rename_i hg
        have := he.ge
        rw [hg] at this
        rw [List.dropWhile_cons, this]
        simpa using noGoexit_ok hl hn

theorem aReturn_ok {c : Frame} {kind : CallKind} (hk : c.kind = kind) {cs : List AFr} {cs' : List Frame} {v v' : Value} (hv : VR ρ v v') (hs : SI (envOf P).N U ws ρ h nx w) (hl : lo ≤ nx) (hc : FrsR (envOf P).N ρ base lo cs cs')
    (hlast : ∀ a rest, cs = a :: rest → lastFn a rest = f)
    (hst : ∀ fr2 cs2 w2, (doReturn P true c (cs' ++ bs) none v' w).bare = .go { frame := fr2, callers := cs2, status := .running, dying := none } w2 → Steps P m (lone fr2 cs2 w2))
    (hdone : kind = .normal → cs = [] → RN P U ws base bs f ρ m (.done v h nx)) : RN P U ws base bs f ρ m (aReturn kind cs v h nx) := by
  unfold aReturn
  cases hc with
  | nil _ =>
    cases kind with
    | normal => exact hdone rfl rfl
    | _ => trivial
  | cons hl2 hf2 hc2 =>
    rename_i lo2 a c2 as cs2
    have hf3 := hf2.mono (Ex.refl _ _) hl
    have hla := hlast a as rfl
    simp only []
    cases kind with
    | normal =>
      have : (doReturn P true c ((c2 :: cs2) ++ bs) none v' w).bare = .go { frame := c2.finish v', callers := cs2 ++ bs, status := .running, dying := none } w := by
        simp [doReturn, hk]
      exact finR_ok (Ex.refl _ _) hs (by omega) hf3 hc2 hla hv (hst _ _ _ this)
    | deferred =>
      simp only []
      have hf4 := hf3
      cases hf3 with
      | mk ht htd hds hmo hro =>
        rename_i fn2 t2 t2' n2 tm2 as2 is2 ds2 ds2' mo2 mo2' kind2 ro2 ro2'
        have go : ∀ fr2, (doReturn P true c ((⟨fn2, tm2, is2, ds2', mo2', kind2, ro2'⟩ :: cs2) ++ bs) none v' w).bare = .go { frame := fr2, callers := cs2 ++ bs, status := .running, dying := none } w → Steps P m (lone fr2 (cs2 ++ bs) w) := fun fr2 e => hst _ _ _ e
        cases hmo with
        | run => exact next_ok (Ex.refl _ _) hs (by omega) hf4 hc2 hla (go _ (by simp [doReturn, hk]))
        | returning => exact next_ok (Ex.refl _ _) hs (by omega) hf4 hc2 hla (go _ (by simp [doReturn, hk]))
        | panicking hch =>
          cases hch with
          | nil => exact next_ok (Ex.refl _ _) hs (by omega) hf4 hc2 hla (go _ (by simp [doReturn, hk]))
          | cons he hch =>
            rename_i e e' l l'
            simp only []
            split
            · rename_i hr
              have hr' := he.rcv
              rw [hr] at hr'
              split
              · rename_i hng
                have hdw := noGoexit_ok hch hng
                obtain ⟨ev, er, eg⟩ := e'
                simp only at hr'
                subst hr'
                refine next_ok (Ex.refl _ _) hs (by omega) (.mk ht htd hds .returning hro) hc2 ?_ (go _ (by simp [doReturn, hk, hdw]))
                rw [← hla]
                refine lastFn_top ?_ as
                rfl
              · trivial
            · rename_i hr
              have hr' := he.rcv
              rw [hr] at hr'
              obtain ⟨ev, er, eg⟩ := e'
              simp only at hr'
              subst hr'
              exact next_ok (Ex.refl _ _) hs (by omega) hf4 hc2 hla (go _ (by simp [doReturn, hk]))
    | _ => trivial
end
end Go.Proofs.YtmiojdppkooikaaGreatDoor.Abs
namespace Go.Proofs.YtmiojdppkooikaaGreatDoor.Abs
open Go

section
variable {P : Program} {U : Nat → Prop} {ws : World} {base : Nat} {bs : List Frame} {f : Nat} {ρ0 ρ ρ' : Ren} {h : T AObj} {nx lo : Nat} {w : World} {m m' : Machine}

theorem lastFn_of {a b : AFr} {cs : List AFr} (hl : lastFn a cs = f) (e : b.fn = a.fn) : lastFn b cs = f := (lastFn_top e cs).trans hl
theorem settled_eq {N : Nat} {lo hi : Nat} {t t' : T Value} {as : List AItem} {is : List Item} (h : TdR N ρ lo hi t t' as is) (hs : settledTodo as = true) : t' = t := by
  cases h with
  | plain _ => rfl
  | ops _ _ _ => rfl
  | drawn _ _ _ _ _ => cases (show false = true from hs)
  | busy _ _ _ _ _ => cases (show false = true from hs)

theorem aunwind_ok {fn : Nat} {t t' : T Value} {n : Nat} {as : List AItem} {is : List Item} {ds ds' : List Deferred} {mo mo' : FrameMode} {kind : CallKind} {ro ro' : Option Nat} {tm : Array Value} {cs : List AFr} {cs' : List Frame}
    (ht : TmR ρ t' n tm) (htd : TdR (envOf P).N ρ lo nx t t' as is) (hds : DsR ρ ds ds') (hmo : MoR ρ mo mo') (hro : RoR ρ ro ro') (hmr : mo ≠ .run)
    (hs : SI (envOf P).N U ws ρ h nx w) (hl : lo ≤ nx) (hc : FrsR (envOf P).N ρ base lo cs cs') (hlast : lastFn ⟨fn, t, n, as, ds, mo, kind, ro⟩ cs = f) :
    RN P U ws base bs f ρ (lone ⟨fn, tm, is, ds', mo', kind, ro'⟩ (cs' ++ bs) w) (aunwind (ctxOf P) fn t n as ds mo kind ro cs h nx) := by
  have hbl := hc.le
  have hun : stepG P true { frame := ⟨fn, tm, is, ds', mo', kind, ro'⟩, callers := cs' ++ bs, status := .running, dying := none } w = unwind P true ⟨fn, tm, is, ds', mo', kind, ro'⟩ (cs' ++ bs) none w := by
    cases hmo with
    | run => exact absurd rfl hmr
    | returning => rfl
    | panicking _ => rfl
  unfold aunwind
  cases hds with
  | cons hd hds =>
    rename_i d d' ds ds'
    obtain ⟨tg, args⟩ := d
    obtain ⟨tg', args'⟩ := d'
    obtain ⟨htg, hargs⟩ := hd
    simp only at htg hargs
    cases htg with
    | builtin b ts t cs => trivial
    | yield _ => trivial
    | collected hb =>
      simp only []
      split
      · rename_i x hx
        obtain ⟨calls, h'⟩ := x
        obtain ⟨ds2, w', hr, hs', hd2⟩ := aTake_ok (P := P) hs hb hx
        refine next_ok (Ex.refl _ _) hs' hl (.mk ht htd (by rw [app_eq]; exact hd2.append hds) hmo hro) hc (lastFn_of hlast rfl) (.one (step_lone_go ?_))
        rw [hun]
        simp [unwind, hr]
      · trivial
    | fn fn2 cap cap' hfn hcap =>
      cases fn2 with
      | func g =>
        simp only []
        split
        · rename_i b hb
          have ha : AR ρ ⟨app args.toList cap.toList⟩ (args' ++ cap') := by
            rw [app_eq]
            have := AR.of_LR (hargs.toList.append hcap.toList)
            have e : args' ++ cap' = ⟨args'.toList ++ cap'.toList⟩ := by apply Array.ext'; simp
            rw [e]; exact this
          obtain ⟨h1, h2⟩ := aenter_ok (lo := nx) (nx := nx) ha hb
          refine next_ok (cs' := _ :: cs') (Ex.refl _ _) hs (Nat.le_refl _) h1 (.cons hl (.mk ht htd hds hmo hro) hc) (by show lastFn _ cs = f; exact lastFn_of hlast rfl) (.one (step_lone_go ?_))
          rw [hun]
          have hi : (invoke (.fn (.func g) cap') args').run P w = .ok (.enter g (args' ++ cap')) w := h2 w
          simp [unwind, callDeferred, hi]
        · trivial
      | _ => trivial
  | nil =>
    simp only []
    split
    · trivial
    · rename_i fd hfd
      have hfd := getFunc_ok hfd
      cases hmo with
      | run => exact absurd rfl hmr
      | panicking hch =>
        simp only []
        cases hc with
        | nil _ => trivial
        | cons hl2 hf2 hc2 =>
          rename_i lo2 a c2 as2 cs2
          refine next_ok (Ex.refl _ _) hs (by omega) (araise_ok (hf2.mono (Ex.refl _ _) hl) hch) hc2 ?_ (.one (step_lone_go ?_))
          · rw [← hlast]
            refine lastFn_top ?_ as2
            obtain ⟨_, _, _, _, _, mo, _, _⟩ := a
            cases mo <;> rfl
          · rw [hun]
            simp [unwind, Frame.catches, hfd]
      | returning =>
        simp only []
        split
        · trivial
        · rename_i hset
          have ett := settled_eq htd hset
          subst ett
          split
          · rename_i vs hvs
            obtain ⟨v', hr, hv⟩ := results_ok hs ht hvs
            refine aReturn_ok (c := ⟨fn, tm, is, [], .returning, kind, ro'⟩) rfl hv hs hl hc (fun a rest e => by subst e; exact hlast) (fun fr2 cs2 w2 e => .one (step_lone_go ?_)) (fun hk he => ?_)
            · rw [hun]
              simp [unwind, hfd, hr, e]
            · subst he
              cases hc with
              | nil hb =>
                exact ⟨_, w, v', ρ, Steps.refl P _, Ex.refl _ _, hs, hv, hlast, ⟨rfl, rfl, hk, fd, hfd, hr⟩, by omega⟩
          · trivial

theorem aleave_ok {fn : Nat} {t : T Value} {n : Nat} {as : List AItem} {is : List Item} {ds ds' : List Deferred} {kind : CallKind} {ro ro' : Option Nat} {tm : Array Value} {cs : List AFr} {cs' : List Frame} {jump : Option Code}
    (ht : TmR ρ t n tm) (htd : ItsR (envOf P).N ρ as is) (hds : DsR ρ ds ds') (hro : RoR ρ ro ro')
    (hs : SI (envOf P).N U ws ρ h nx w) (hl : lo ≤ nx) (hc : FrsR (envOf P).N ρ base lo cs cs') (hlast : lastFn ⟨fn, t, n, as, ds, .run, kind, ro⟩ cs = f)
    (hst : ∀ fr2 cs2 w2, ((match ro' with
      | none => if jump matches none | some .ret then GStep.go { frame := { (⟨fn, tm, is, ds', .run, kind, ro'⟩ : Frame) with mode := .returning }, callers := cs' ++ bs, status := .running, dying := none } w else .ended (.stuck "exit, goto: no such block or label" (Frame.pos P ⟨fn, tm, is, ds', .run, kind, ro'⟩)) w
      | some l =>
        let (r, es) := (Instr.endRound l jump).runT P w #[]
        GStep.after (seen P fn es) <| match r with
        | .ok v w => doReturn P true ⟨fn, tm, is, ds', .run, kind, ro'⟩ (cs' ++ bs) none v w
        | .halt _ w => .ended (.stuck "range over a function: no such loop" (Frame.pos P ⟨fn, tm, is, ds', .run, kind, ro'⟩)) w) : GStep).bare = .go { frame := fr2, callers := cs2, status := .running, dying := none } w2 →
      Steps P m (lone fr2 cs2 w2)) :
    RN P U ws base bs f ρ m (aleave fn t n as ds kind ro jump (ctxOf P) cs h nx) := by
  unfold aleave
  cases hro with
  | none =>
    simp only [] at hst ⊢
    have hret : RN P U ws base bs f ρ m (.next ⟨fn, t, n, as, ds, .returning, kind, none⟩ cs h nx) ∨ ¬ (jump = none ∨ jump = some .ret) := by
      by_cases hj : jump = none ∨ jump = some .ret
      · left
        refine next_ok (Ex.refl _ _) hs hl (.mk ht (.plain htd) hds .returning .none) hc (lastFn_of hlast rfl) (hst _ _ _ ?_)
        rcases hj with rfl | rfl <;> rfl
      · exact .inr hj
    cases jump with
    | none => exact hret.resolve_right (fun h => h (.inl rfl))
    | some c => cases c with
      | ret => exact hret.resolve_right (fun h => h (.inr rfl))
      | _ => trivial
  | some hp =>
    rename_i l p
    simp only [] at hst ⊢
    split
    · trivial
    · rename_i st0 hst0
      obtain ⟨s0, p0⟩ := st0
      cases cs with
      | nil => trivial
      | cons a rest =>
        simp only []
        have fin : ∀ (st : LoopState) (pe : Option Code) (h' : T AObj) (b : Bool), b = jump.isNone → st = (if jump.isNone then .ready else .done) → pe = jump → loopSet (envOf P).N h l st pe = some h' → RN P U ws base bs f ρ m (aReturn kind (a :: rest) (.bool b) h' nx) := fun st pe h' b hb hst' hpe hls => by
          obtain ⟨r, r1, r2, r3, r4⟩ := loopSet_ok hs hp hls hst0
          refine aReturn_ok (c := ⟨fn, tm, is, ds', .run, kind, some p.B⟩) rfl (.bool b) r4 hl hc (fun _ _ e => by cases e; exact hlast) (fun fr2 cs2 w2 e => hst _ _ _ ?_) (fun _ e => by cases e)
          rw [hst', hpe, hb] at e
          simp only [Sem.runT_eq, run_endRound jump r3, GStep.bare_after]
          exact e
        cases jump with
        | none =>
          simp only []
          split
          · rename_i h' hls
            exact fin .ready none h' true rfl rfl rfl hls
          · trivial
        | some c =>
          simp only []
          split
          · rename_i h' hls
            exact fin .done (some c) h' false rfl rfl rfl hls
          · trivial
end
end Go.Proofs.YtmiojdppkooikaaGreatDoor.Abs
namespace Go.Proofs.YtmiojdppkooikaaGreatDoor.Abs
open Go

section
variable {P : Program} {U : Nat → Prop} {ws : World} {base : Nat} {bs : List Frame} {f : Nat} {ρ0 ρ ρ' : Ren} {h : T AObj} {nx lo : Nat} {w : World} {m m' : Machine}

theorem acode_ok {pl : T Plug} (hpl : PlugsOK P pl) {fn : Nat} {t : T Value} {n : Nat} {c : Code} {k : List AItem} {k' : List Item} {ds ds' : List Deferred} {kind : CallKind} {ro ro' : Option Nat} {tm : Array Value} {cs : List AFr} {cs' : List Frame}
    (hok : okCode (envOf P).N c = true) (ht : TmR ρ t n tm) (hI : ItsR (envOf P).N ρ k k') (hds : DsR ρ ds ds') (hro : RoR ρ ro ro')
    (hs : SI (envOf P).N U ws ρ h nx w) (hl : lo ≤ nx) (hc : FrsR (envOf P).N ρ base lo cs cs') (hlast : lastFn ⟨fn, t, n, .code c :: k, ds, .run, kind, ro⟩ cs = f) :
    RN P U ws base bs f ρ (lone ⟨fn, tm, .code c :: k', ds', .run, kind, ro'⟩ (cs' ++ bs) w) (acode (ctxOf P) pl fn t n c k ds kind ro cs h nx) := by
  have to : ∀ (as : List AItem) (is : List Item), ItsR (envOf P).N ρ as is → step P (lone ⟨fn, tm, .code c :: k', ds', .run, kind, ro'⟩ (cs' ++ bs) w) = .next (lone ⟨fn, tm, is, ds', .run, kind, ro'⟩ (cs' ++ bs) w) →
      RN P U ws base bs f ρ (lone ⟨fn, tm, .code c :: k', ds', .run, kind, ro'⟩ (cs' ++ bs) w) (.next ⟨fn, t, n, as, ds, .run, kind, ro⟩ cs h nx) := fun as is hi hst =>
    next_ok (Ex.refl _ _) hs hl (.mk ht (.plain hi) hds .run hro) hc (lastFn_of hlast rfl) (.one hst)
  have leave : ∀ jump, (stepG P true { frame := ⟨fn, tm, .code c :: k', ds', .run, kind, ro'⟩, callers := cs' ++ bs, status := .running, dying := none } w = (match ro' with
      | none => if jump matches none | some .ret then GStep.go { frame := { (⟨fn, tm, .code c :: k', ds', .run, kind, ro'⟩ : Frame) with mode := .returning }, callers := cs' ++ bs, status := .running, dying := none } w else .ended (.stuck "exit, goto: no such block or label" (Frame.pos P ⟨fn, tm, .code c :: k', ds', .run, kind, ro'⟩)) w
      | some l =>
        let (r, es) := (Instr.endRound l jump).runT P w #[]
        GStep.after (seen P fn es) <| match r with
        | .ok v w => doReturn P true ⟨fn, tm, .code c :: k', ds', .run, kind, ro'⟩ (cs' ++ bs) none v w
        | .halt _ w => .ended (.stuck "range over a function: no such loop" (Frame.pos P ⟨fn, tm, .code c :: k', ds', .run, kind, ro'⟩)) w)) →
      RN P U ws base bs f ρ (lone ⟨fn, tm, .code c :: k', ds', .run, kind, ro'⟩ (cs' ++ bs) w) (aleave fn t n (.code c :: k) ds kind ro jump (ctxOf P) cs h nx) := fun jump hst =>
    aleave_ok ht (.cons (.code c hok) hI) hds hro hs hl hc hlast fun fr2 cs2 w2 e => .one (step_lone_go (by rw [hst]; exact e))
  cases c with
  | skip => exact to _ _ hI (step_lone_go (by simp [stepG, stepG.exec]))
  | label l => exact to _ _ hI (step_lone_go (by simp [stepG, stepG.exec]))
  | seq a b =>
    obtain ⟨h1, h2⟩ := okCode_seq hok
    exact to _ _ (.cons (.code a h1) (.cons (.code b h2) hI)) (step_lone_go (by simp [stepG, stepG.exec]))
  | cond x a b =>
    obtain ⟨h0, h1, h2⟩ := okCode_cond hok
    have hv := aev_VR hs (a := ⟨tm, ds'⟩) ht h0
    simp only [acode]
    split
    · rename_i b' hb
      rw [hb] at hv
      have he : (⟨tm, ds'⟩ : Act).eval x = .bool b' := by
        generalize hx : (⟨tm, ds'⟩ : Act).eval x = xv at hv
        cases hv; rfl
      have hev : Frame.eval ⟨fn, tm, .code (.cond x a b) :: k', ds', .run, kind, ro'⟩ x = .bool b' := by rw [eval_act _ ds']; exact he
      cases b' with
      | true => exact to _ _ (.cons (.code a h1) hI) (step_lone_go (by simp [stepG, stepG.exec, hev]))
      | false => exact to _ _ (.cons (.code b h2) hI) (step_lone_go (by simp [stepG, stepG.exec, hev]))
    · trivial
  | block id b => exact to _ _ (.cons (.code b (okCode_block hok)) (.cons (.inBlock id) hI)) (step_lone_go (by simp [stepG, stepG.exec]))
  | loop b => exact to _ _ (.cons (.code b (okCode_loop hok)) (.cons (.inLoop b (okCode_loop hok)) hI)) (step_lone_go (by simp [stepG, stepG.exec]))
  | scope b => exact to _ _ (.cons (.code b (okCode_scope hok)) (.cons (.inScope b (okCode_scope hok)) hI)) (step_lone_go (by simp [stepG, stepG.exec]))
  | exit id =>
    simp only [acode]
    split
    · rename_i k2 hk
      obtain ⟨k2', h1, h2⟩ := aexit_ok hI hk
      exact to _ _ h2 (step_lone_go (by simp [stepG, stepG.exec, h1]))
    · rename_i hk
      have h1 := aexit_none hI hk
      exact leave _ (by simp only [stepG, stepG.exec, h1]; rfl)
  | goto l =>
    simp only [acode]
    split
    · rename_i k2 hk
      obtain ⟨k2', h1, h2⟩ := agoto_ok hI hk
      exact to _ _ h2 (step_lone_go (by simp [stepG, stepG.exec, h1]))
    · rename_i hk
      have h1 := agoto_none hI hk
      exact leave _ (by simp only [stepG, stepG.exec, h1]; rfl)
  | ret => exact leave (some .ret) (by cases ro' <;> rfl)
  | refuse why => trivial
  | region id ops draw =>
    have hko := okCode_region hok
    cases draw with
    | false =>
      refine next_ok (Ex.refl _ _) hs hl (.mk ht (.ops (restR_range ops) hko hI) hds .run hro) hc (lastFn_of hlast rfl) (.one (step_lone_go ?_))
      simp [stepG, stepG.exec]
    | true =>
      simp only [acode]
      split
      · rename_i hb
        obtain ⟨h1, h2⟩ := schedule_ok hb (P.follows .mixedOrders) (w.tape w.drawn (.order fn id))
        have hd : DrR ops ρ lo nx (rng ops.toList 0) [] (Region.schedule (P.follows .mixedOrders) ops (w.tape w.drawn (.order fn id))) := by
          refine ⟨h1, fun i hi => .inl ((rng_mem _ _ _).2 ⟨Nat.zero_le _, ?_⟩), fun i hi => (h2 i).2 ?_, fun i id hm => by simp at hm, fun i id hm => by simp at hm, by simp⟩
          · have := (h2 i).1 hi
            simpa using this
          · have := ((rng_mem _ _ _).1 hi).2
            simpa using this
        refine next_ok (Ex.refl _ _) (hs.drew (w.drawn + 1)) hl (.mk ht (.drawn (masks_ok ops) hd (fun x _ => rfl) hko hI) hds .run hro) hc (lastFn_of hlast rfl) (.one (step_lone_go ?_))
        simp [stepG, stepG.exec, choose, Sem.run, Question.forced, Question.cut]
      · trivial
  | rangeFunc fo ps as bd =>
    obtain ⟨h0, h1, h2⟩ := okCode_rf hok
    simp only [acode]
    split
    · trivial
    · rename_i x hx
      obtain ⟨l, mk, h', nx'⟩ := x
      obtain ⟨B, mk', w', ρ', p, hr, hex, hs', hp, hB, hmk, hn⟩ := aEnterLoop_ok (P := P) hs ht hro hx
      split
      · rename_i g first cap hg
        have hv := aev_VR hs (a := ⟨tm, ds'⟩) ht h0
        rw [hg] at hv
        have hb := hc.le
        generalize hve : (⟨tm, ds'⟩ : Act).eval fo = fv at hv
        have hev : Frame.eval ⟨fn, tm, .inRangeFunc B :: k', mk' ++ ds', .run, kind, ro'⟩ fo = fv := by rw [eval_act _ ds']; exact hve
        have hyv : VR ρ' (.func (.yield l) #[] #[]) (.func (.yield B) #[] #[]) := by rw [← hB]; exact .yield hp
        have hcst : ∀ (fr : Frame) (v : Value), fr.eval (.const v) = v := fun _ _ => rfl
        have hexb : Ex base ρ ρ' := hex.weak (by omega)
        have hfr : FrR (envOf P).N ρ' lo nx' ⟨fn, t, n, .inRangeFunc l :: k, app mk ds, .run, kind, ro⟩ ⟨fn, tm, .inRangeFunc B :: k', mk' ++ ds', .run, kind, ro'⟩ := by
          rw [← hB, app_eq]
          exact .mk (ht.mono hex.1) (.plain (.cons (.inRangeFunc hp) (hI.mono hex.1))) (hmk.append (hds.mono hex.1)) .run (hro.mono hex.1)
        have main : ∀ d' : Deferred, DfR ρ' { target := .fn g cap, args := ⟨app first.toList [.func (.yield l) #[] #[]]⟩ } d' →
            (resolve (Frame.eval ⟨fn, tm, .inRangeFunc B :: k', mk' ++ ds', .run, kind, ro'⟩) { callee := .value fo, args := #[.const (.func (.yield B) #[] #[])], argTypes := #[] } 0).run P w' = .ok d' w' →
            RN P U ws base bs f ρ (lone ⟨fn, tm, .code (.rangeFunc fo ps as bd) :: k', ds', .run, kind, ro'⟩ (cs' ++ bs) w)
              (acall (ctxOf P) pl ⟨fn, t, n, .inRangeFunc l :: k, app mk ds, .run, kind, ro⟩ cs h' nx' { target := .fn g cap, args := ⟨app first.toList [.func (.yield l) #[] #[]]⟩ }) := fun d' hd hres => by
          refine acall_ok (c := ⟨fn, tm, .inRangeFunc B :: k', mk' ++ ds', .run, kind, ro'⟩) hpl hd hexb hs' (by omega) hfr (hc.mono (hex.weak hl)) (lastFn_of hlast rfl) ?_
          have hstep : ∀ R : Result Next, (invoke d'.target d'.args).run P w' = R →
              (stepG P true { frame := ⟨fn, tm, .code (.rangeFunc fo ps as bd) :: k', ds', .run, kind, ro'⟩, callers := cs' ++ bs, status := .running, dying := none } w).bare =
              (stepG.apply P true ⟨fn, tm, .inRangeFunc B :: k', mk' ++ ds', .run, kind, ro'⟩ (cs' ++ bs) none (do let d ← resolve (Frame.eval ⟨fn, tm, .inRangeFunc B :: k', mk' ++ ds', .run, kind, ro'⟩) { callee := .value fo, args := #[.const (.func (.yield B) #[] #[])], argTypes := #[] } 0; invoke d.target d.args) w').bare := fun R _ => by
            simp only [stepG, stepG.exec, Sem.runT_eq, hr, GStep.bare_after]
          have hrun : ∀ R : Result Next, (invoke d'.target d'.args).run P w' = R →
              (do let d ← resolve (Frame.eval ⟨fn, tm, .inRangeFunc B :: k', mk' ++ ds', .run, kind, ro'⟩) { callee := .value fo, args := #[.const (.func (.yield B) #[] #[])], argTypes := #[] } 0; invoke d.target d.args : Sem Next).run P w' = R := fun R e => by
            simp only [Sem.run_bind, hres, Result.andThen_ok, e]
          refine ⟨fun v w2 e => ?_, fun w2 e => ?_, fun g a w2 e => ?_, fun l f t a b w2 e => ?_, fun d w2 e => ?_, fun v w2 e => ?_, fun w2 e hro2 => ?_⟩
          · exact .one (step_lone_go (by rw [hstep _ e]; simp [stepG.apply, hrun _ e]))
          · exact .one (step_lone_go (by rw [hstep _ e]; simp [stepG.apply, hrun _ e]))
          · exact .one (step_lone_go (by rw [hstep _ e]; simp [stepG.apply, hrun _ e]))
          · exact .one (step_lone_go (by rw [hstep _ e]; simp [stepG.apply, hrun _ e]))
          · exact .one (step_lone_go (by rw [hstep _ e]; simp [stepG.apply, hrun _ e]))
          · exact .one (step_lone_go (by rw [hstep _ e]; simp [stepG.apply, hrun _ e]))
          · simp only at hro2
            subst hro2
            split
            · rename_i v cs' ht2
              exact .one (step_lone_go (by rw [hstep _ e]; simp [stepG.apply, hrun _ e, ht2]))
            · rename_i ht2
              exact .one (step_lone_go (by rw [hstep _ e]; simp [stepG.apply, hrun _ e, ht2]))
        cases hv with
        | func _ _ _ b' c' hf' hb' hc' hA hC =>
          have hb2 : LR ρ first.toList b'.toList := AR.toList ⟨hb', hA⟩
          refine main { target := .fn g c', args := b' ++ #[.func (.yield B) #[] #[]] } ⟨.fn g cap c' hf' (AR.mono hex.1 ⟨hc', hC⟩), ?_⟩ ?_
          · rw [app_eq]
            have := AR.of_LR ((hb2.mono hex.1).append (.cons hyv .nil))
            have e2 : b' ++ #[Value.func (.yield B) #[] #[]] = ⟨b'.toList ++ [Value.func (.yield B) #[] #[]]⟩ := by apply Array.ext'; simp
            rw [e2]; exact this
          · unfold resolve
            simp [hev, Deferred.ofValue, hcst]
        | yield hl' =>
          rename_i l2 p2
          refine main { target := .fn (.yield p2.B) #[], args := #[] ++ #[.func (.yield B) #[] #[]] } ⟨.yield (hex.1 _ _ hl'), ?_⟩ ?_
          · have := AR.of_LR (.cons hyv (.nil (ρ := ρ')))
            simpa [app] using this
          · unfold resolve
            simp [hev, Deferred.ofValue, hcst]
      · trivial

theorem astep_ok {pl : T Plug} (hpl : PlugsOK P pl) {fr : AFr} {cs : List AFr} (hr : Rel P U ws base bs f ρ fr cs h nx m) : RN P U ws base bs f ρ m (astep P (ctxOf P) pl fr cs h nx) := by
  obtain ⟨⟨c, cs', w, lo, rfl, hs, hl, hf, hc⟩, hlast⟩ := hr
  cases hf with
  | mk ht htd hds hmo hro =>
    rename_i fn t t' n tm as is ds ds' mo mo' kind ro ro'
    unfold astep
    simp only []
    cases hmo with
    | returning => exact aunwind_ok ht htd hds .returning hro (by simp) hs hl hc hlast
    | panicking hch => exact aunwind_ok ht htd hds (.panicking hch) hro (by simp) hs hl hc hlast
    | run =>
      simp only []
      cases htd with
      | drawn hmk hd ha hk hI =>
        exact adrawn_ok hpl hmk ht hd ha hk hI hds hro hs hl hc (fun t todo => lastFn_of hlast rfl)
      | busy _ _ _ _ _ => trivial
      | ops hrest hk hI =>
        rename_i all rest l as is
        cases hrest with
        | nil =>
          refine next_ok (Ex.refl _ _) hs hl (.mk ht (.plain hI) hds .run hro) hc (lastFn_of hlast rfl) (.one (step_lone_go ?_))
          simp [stepG, stepG.exec]
        | cons ho hrest =>
          rename_i o i os il
          have hw := awant_ok (all := all) ht o
          have hk0 : okOps (envOf P).N (o :: os) = true := hk
          simp only [okOps, List.all_cons, Bool.and_eq_true] at hk
          simp only []
          split
          · rename_i haw
            exact aop_ok hpl ho (by rw [hw]; exact haw) hk.1 (fun _ _ => rfl) ht hs hl (.mk ht (.ops (.cons ho hrest) hk0 hI) hds .run hro) hc hlast
          · rename_i haw
            have h1 := step_unwanted (P := P) (fn := fn) (tm := tm) (k := is) (ds := ds') (kind := kind) (ro := ro') (cs := cs' ++ bs) (w := w) (rest := il) ho (by rw [hw]; exact haw)
            have hfin : Frame.finish ⟨fn, tm, .inRegion all (i :: il) :: is, ds', .run, kind, ro'⟩ undef = ⟨fn, putArr tm o.dst undef, .inRegion all il :: is, ds', .run, kind, ro'⟩ := by
              simp only [Frame.finish, ho, Option.bind_some]
              cases o.dst <;> rfl
            rw [hfin] at h1
            exact next_ok (Ex.refl _ _) hs hl (.mk (tput_TmR ht o.dst (VR.undef ρ)) (.ops hrest hk.2 hI) hds .run hro) hc (lastFn_of hlast rfl) (.one h1)
      | plain hI =>
        cases hI with
        | nil =>
          refine aleave_ok ht .nil hds hro hs hl hc hlast fun fr2 cs2 w2 e => .one (step_lone_go ?_)
          rw [← e]; rfl
        | cons hi hI =>
          rename_i a i as is
          cases hi with
          | code c hok => exact acode_ok hpl hok ht hI hds hro hs hl hc hlast
          | inBlock id =>
            refine next_ok (Ex.refl _ _) hs hl (.mk ht (.plain hI) hds .run hro) hc (lastFn_of hlast rfl) (.one (step_lone_go ?_))
            simp [stepG, stepG.exec]
          | inScope c hok =>
            refine next_ok (Ex.refl _ _) hs hl (.mk ht (.plain hI) hds .run hro) hc (lastFn_of hlast rfl) (.one (step_lone_go ?_))
            simp [stepG, stepG.exec]
          | inLoop c hok =>
            refine next_ok (Ex.refl _ _) hs hl (.mk ht (.plain (.cons (.code c hok) (.cons (.inLoop c hok) hI))) hds .run hro) hc (lastFn_of hlast rfl) (.one (step_lone_go ?_))
            simp [stepG, stepG.exec]
          | inRangeFunc _ => trivial
          | endRangeFunc hp =>
            rename_i l p
            simp only []
            split
            case h_2 => trivial
            rename_i x hx
            obtain ⟨st, pe⟩ := x
            have main : st ≠ .busy → ∀ h', loopSet (ctxOf P).E.N h l .exhausted pe = some h' → ∀ R : List AItem × List Item, ItsR (envOf P).N ρ R.1 R.2 → R.2 = (pe.map Item.code).toList ++ is →
                RN P U ws base bs f ρ (lone ⟨fn, tm, .endRangeFunc p.B :: is, ds', .run, kind, ro'⟩ (cs' ++ bs) w) (.next ⟨fn, t, n, R.1, ds, .run, kind, ro⟩ cs h' nx) := fun hst h' hls R hR e => by
              obtain ⟨r, r1, r2, r3, r4⟩ := loopSet_ok hs hp hls hx
              rw [← r2] at r4
              have e1 : ({ r with state := .exhausted, pending := r.pending } : Loop) = { r with state := .exhausted } := rfl
              refine next_ok (Ex.refl _ _) r4 hl (.mk ht (.plain hR) hds .run hro) hc (lastFn_of hlast rfl) (.one (step_lone_go ?_))
              have hel := run_endLoop (P := P) r3 (by rw [r1]; exact hst)
              simp [stepG, stepG.exec, hel, e, r2]
            have rest : st ≠ .busy → RN P U ws base bs f ρ (lone ⟨fn, tm, .endRangeFunc p.B :: is, ds', .run, kind, ro'⟩ (cs' ++ bs) w) (match loopSet (ctxOf P).E.N h l .exhausted pe with
              | some h' => match (generalizing := false) pe with
                | none => .next ⟨fn, t, n, as, ds, .run, kind, ro⟩ cs h' nx
                | some c => match okCode (ctxOf P).E.N c with
                  | true => .next ⟨fn, t, n, .code c :: as, ds, .run, kind, ro⟩ cs h' nx
                  | false => .fail
              | none => .fail) := fun hst => by
              split
              · rename_i h' hls
                split
                · exact main hst h' hls (as, is) hI rfl
                · rename_i c
                  split
                  · rename_i hok
                    exact main hst h' hls (.code c :: as, .code c :: is) (.cons (.code c hok) hI) rfl
                  · trivial
              · trivial
            cases st with
            | busy => trivial
            | ready => exact rest (by simp)
            | done => exact rest (by simp)
            | exhausted => exact rest (by simp)
          | beginRound =>
            cases hro with
            | none => trivial
            | some hp =>
              rename_i l p
              simp only []
              split
              case h_2 => trivial
              rename_i x hx
              obtain ⟨st, pe⟩ := x
              cases st with
              | ready =>
                simp only []
                split
                · rename_i h' hls
                  obtain ⟨r, r1, r2, r3, r4⟩ := loopSet_ok hs hp hls hx
                  rw [← r2] at r4
                  refine next_ok (Ex.refl _ _) r4 hl (.mk ht (.plain hI) hds .run (.some hp)) hc (lastFn_of hlast rfl) (.one (step_lone_go ?_))
                  have hel := run_beginRound (P := P) r3 r1
                  simp [stepG, stepG.exec, stepG.apply, hel, Frame.finish]
                · trivial
              | _ => trivial

theorem drive_ok {pl : T Plug} (hpl : PlugsOK P pl) : ∀ (k : Nat) {fr : AFr} {cs : List AFr} {h : T AObj} {nx : Nat} {ρ : Ren} {m : Machine}, Rel P U ws base bs f ρ fr cs h nx m → RN P U ws base bs f ρ m (drive P (ctxOf P) pl k fr cs h nx) := by
  intro k
  induction k with
  | zero => intro fr cs h nx ρ m _; trivial
  | succ k ih =>
    intro fr cs h nx ρ m hr
    have h1 := astep_ok hpl hr
    show RN P U ws base bs f ρ m (match astep P (ctxOf P) pl fr cs h nx with
      | .next fr cs h nx => drive P (ctxOf P) pl k fr cs h nx
      | r => r)
    generalize astep P (ctxOf P) pl fr cs h nx = r at h1
    cases r with
    | next fr' cs' h' nx' =>
      obtain ⟨m', ρ', s1, s2, s3⟩ := h1
      exact RN.trans s1 s2 (ih s3)
    | _ => exact h1
end
end Go.Proofs.YtmiojdppkooikaaGreatDoor.Abs
namespace Go.Proofs.YtmiojdppkooikaaGreatDoor.Abs
open Go
/-- the first place of a byte. -/
noncomputable def findB (c : Nat) (l : List UInt8) : Nat → Option Nat :=
  List.rec (motive := fun _ => Nat → Option Nat) (fun _ => none) (fun x _ ih i => match Nat.beq x.toNat c with
    | true => some i
    | false => ih (Nat.add i 1)) l
noncomputable def countB (c : Nat) (l : List UInt8) : Nat → Nat :=
  List.rec (motive := fun _ => Nat → Nat) (fun n => n) (fun x _ ih n => match Nat.beq x.toNat c with
    | true => ih (Nat.add n 1)
    | false => ih n) l
noncomputable def pIndexByteString (h : T AObj) (nx : Nat) (args : List Value) : ER :=
  match args with
  | [x, y] => match x with
    | .string s => match y with
      | .int .u8 (.ofNat c) => match Nat.blt c 256 with
        | true => match findB c s.data.toList 0 with
          | some i => .val (.int .i64 (.ofNat i)) h nx
          | none => .val (.int .i64 (.negSucc 0)) h nx
        | false => .fail
      | _ => .fail
    | _ => .fail
  | _ => .fail
noncomputable def pCountString (h : T AObj) (nx : Nat) (args : List Value) : ER :=
  match args with
  | [x, y] => match x with
    | .string s => match y with
      | .int .u8 (.ofNat c) => match Nat.blt c 256 with
        | true => .val (.int .i64 (.ofNat (countB c s.data.toList 0))) h nx
        | false => .fail
      | _ => .fail
    | _ => .fail
  | _ => .fail
/-- a word turns from one number to another. -/
noncomputable def pWord (N : Nat) (old new : Nat) (h : T AObj) (nx : Nat) (args : List Value) : Option (Value × T AObj × Nat) :=
  match args with
  | [x] => match x with
    | .pointer (some ⟨b, o, none⟩) => match Nat.ble N b with
      | true => match h.get b with
        | some (.cells t n es) => match Nat.blt o n with
          | true => match t.get o with
            | some (.int .i32 (.ofNat v)) => match Nat.beq v old with
              | true => some (.tuple #[], h.set b (.cells (t.set o (.int .i32 (.ofNat new))) n es), nx)
              | false => none
            | _ => none
          | false => none
        | _ => none
      | false => none
    | _ => none
  | _ => none
/-- bytes, each within its bounds. -/
noncomputable def u8s (l : List Value) : Option (List UInt8) :=
  List.rec (motive := fun _ => Option (List UInt8)) (some []) (fun v _ ih => match v with
    | .int .u8 (.ofNat n) => match Nat.blt n 256 with
      | true => match ih with
        | some l => some (UInt8.ofNat n :: l)
        | none => none
      | false => none
    | _ => none) l
noncomputable def lenU (l : List UInt8) : Nat := List.rec (motive := fun _ => Nat) 0 (fun _ _ ih => Nat.succ ih) l
/-- strings.Builder's String: TS: its type; TB: the byte's. -/
noncomputable def pString (N TS TB : Nat) (h : T AObj) (nx : Nat) (args : List Value) : Option (Value × T AObj × Nat) :=
  match args with
  | [x] => match x with
    | .pointer (some ⟨b, o, none⟩) => match Nat.beq o 0 with
      | true => match h.get b with
        | some (.cells t n es) => match and (Nat.beq es (Nat.add 4294967296 TS)) (and (Nat.blt TS 4294967296) (Nat.blt 1 n)) with
          | true => match t.get 1 with
            | some v => match v with
              | .slice none 0 0 => some (.string (mkB []), h, nx)
              | .slice (some ⟨g, og, none⟩) len _ => match and (Nat.beq og 0) (and (Nat.blt 0 len) (Nat.blt len 4294967296)) with
                | true => match h.get g with
                  | some (.cells tg ng eg) => match and (Nat.ble N g) (and (Nat.beq eg (rowC TB 1)) (Nat.ble len ng)) with
                    | true => match getN tg len 0 with
                      | some l => match u8s l with
                        | some r => some (.string (mkB r), h.set g (.ice TB r), nx)
                        | none => none
                      | none => none
                    | false => none
                  | some (.ice eg r) => match and (Nat.ble N g) (and (Nat.beq eg TB) (Nat.beq len (lenU r))) with
                    | true => some (.string (mkB r), h, nx)
                    | false => none
                  | _ => none
                | false => none
              | _ => none
            | none => none
          | false => none
        | _ => none
      | false => none
    | _ => none
  | _ => none
/-- strings.Builder's copyCheck. -/
noncomputable def pCopyCheck (N TS : Nat) (h : T AObj) (nx : Nat) (args : List Value) : Option (Value × T AObj × Nat) :=
  match args with
  | [x] => match x with
    | .pointer (some ⟨b, o, none⟩) => match Nat.beq o 0 with
      | true => match h.get b with
        | some (.cells t n es) => match and (Nat.beq es (Nat.add 4294967296 TS)) (and (Nat.blt TS 4294967296) (and (Nat.beq n 2) (Nat.ble N b))) with
          | true => match t.get 0 with
            | some v => match v with
              | .pointer none => some (.tuple #[], h.set b (.cells (t.set 0 (.pointer (some ⟨b, 0, none⟩))) n es), nx)
              | .pointer (some ⟨b2, o2, none⟩) => match and (Nat.beq b b2) (Nat.beq o2 0) with
                | true => some (.tuple #[], h, nx)
                | false => none
              | _ => none
            | none => none
          | false => none
        | _ => none
      | false => none
    | _ => none
  | _ => none
/-- two texts held against each other. -/
noncomputable def cmpL (a : List UInt8) : List UInt8 → Int :=
  List.rec (motive := fun _ => List UInt8 → Int) (fun b => match b with
    | [] => .ofNat 0
    | _ :: _ => .negSucc 0) (fun x _ ih b => match b with
    | [] => .ofNat 1
    | y :: b => match Nat.blt x.toNat y.toNat with
      | true => .negSucc 0
      | false => match Nat.blt y.toNat x.toNat with
        | true => .ofNat 1
        | false => ih b) a
noncomputable def pCmp (h : T AObj) (nx : Nat) (args : List Value) : ER :=
  match args with
  | [x, y] => match x with
    | .string s => match y with
      | .string t => .val (.int .i64 (cmpL (bL s) (bL t))) h nx
      | _ => .fail
    | _ => .fail
  | _ => .fail
/-- a row of bytes of whatever content. -/
noncomputable def pMakeNoZero (TB : Nat) (h : T AObj) (nx : Nat) (args : List Value) : ER :=
  match args with
  | [x] => match x with
    | .int .i64 (.ofNat n) => match Nat.ble n 1048576 with
      | true => .val (.slice (some ⟨nx, 0, none⟩) n 0) (h.set nx (.cells .leaf n (rowC TB 1))) (Nat.add nx 1)
      | false => .fail
    | _ => .fail
  | _ => .fail
end Go.Proofs.YtmiojdppkooikaaGreatDoor.Abs
namespace Go.Proofs.YtmiojdppkooikaaGreatDoor.Abs
open Go

theorem findB_ok {c : UInt8} : ∀ (l : List UInt8) (i : Nat), findB c.toNat l i = (l.findIdx? (· == c)).map (· + i)
  | [], i => rfl
  | x :: l, i => by
    have e : findB c.toNat (x :: l) i = (match Nat.beq x.toNat c.toNat with
      | true => some i
      | false => findB c.toNat l (i + 1)) := rfl
    rw [e, List.findIdx?_cons]
    by_cases h : x = c
    · subst h
      have : Nat.beq x.toNat x.toNat = true := Nat.beq_refl _
      rw [this]; simp
    · have hb : Nat.beq x.toNat c.toNat = false := by
        cases hb : Nat.beq x.toNat c.toNat with
        | false => rfl
        | true => exact absurd (UInt8.toNat_inj.1 (Nat.eq_of_beq_eq_true hb)) h
      rw [hb, findB_ok l (i + 1)]
      have : (x == c) = false := by simpa using h
      simp [this, Option.map_map, Function.comp_def]
      congr 1
      funext k
      omega
theorem find_range (s : ByteArray) (c : UInt8) : ((List.range s.size).find? fun i => s[i]! == c) = s.data.toList.findIdx? (· == c) := by
  have hs : s.size = s.data.toList.length := by rw [Array.length_toList]; rfl
  have hget : ∀ i, i < s.data.toList.length → s[i]! = s.data.toList[i]! := fun i hi => by
    have h2 : i < s.size := by omega
    have h3 : i < s.data.size := by simpa using hi
    rw [getElem!_pos s i h2]
    rw [getElem!_pos s.data.toList i hi]
    rfl
  rw [hs]
  generalize hl : s.data.toList = l at hget ⊢
  clear hl hs
  have key : ∀ (m : List UInt8) (k : Nat) (f : Nat → UInt8), (∀ i, i < m.length → f (k + i) = m[i]!) → ((List.range' k m.length).find? fun i => f i == c) = (m.findIdx? (· == c)).map (· + k) := by
    intro m
    induction m with
    | nil => intro k f _; rfl
    | cons x m ih =>
      intro k f hf
      rw [List.length_cons, List.range'_succ, List.find?_cons, List.findIdx?_cons]
      have h0 : f k = x := by simpa using hf 0 (by simp)
      rw [h0]
      by_cases h : x = c
      · subst h; simp
      · have hb : (x == c) = false := by simpa using h
        rw [hb]
        have := ih (k + 1) f (fun i hi => by
          have := hf (i + 1) (by simp; omega)
          rw [show k + 1 + i = k + (i + 1) by omega, this]
          simp)
        simp only [this]
        simp [Option.map_map, Function.comp_def]
        congr 1
        funext y
        omega
  have := key l 0 (fun i => s[i]!) (fun i hi => by simpa using hget i hi)
  rw [List.range_eq_range', this]
  simp
theorem countB_ok {c : UInt8} : ∀ (l : List UInt8) (n : Nat), countB c.toNat l n = l.foldl (fun n x => if x == c then n + 1 else n) n
  | [], n => rfl
  | x :: l, n => by
    have e : countB c.toNat (x :: l) n = (match Nat.beq x.toNat c.toNat with
      | true => countB c.toNat l (n + 1)
      | false => countB c.toNat l n) := rfl
    rw [e, List.foldl_cons]
    by_cases h : x = c
    · subst h
      rw [Nat.beq_refl]
      simp only [beq_self_eq_true, if_true]
      exact countB_ok l (n + 1)
    · have hb : Nat.beq x.toNat c.toNat = false := by
        cases hb : Nat.beq x.toNat c.toNat with
        | false => rfl
        | true => exact absurd (UInt8.toNat_inj.1 (Nat.eq_of_beq_eq_true hb)) h
      have hb2 : (x == c) = false := by simpa using h
      rw [hb, hb2]
      exact countB_ok l n
theorem count_int (c : UInt8) : ∀ (l : List UInt8) (n : Nat), l.foldl (fun (n : Int) x => if x == c then n + 1 else n) (n : Int) = ((l.foldl (fun (n : Nat) x => if x == c then n + 1 else n) n : Nat) : Int)
  | [], n => rfl
  | x :: l, n => by
    rw [List.foldl_cons, List.foldl_cons]
    split
    · exact count_int c l (n + 1)
    · exact count_int c l n
theorem u8_of {k : Nat} (h : k < 256) : ((Int.ofNat k).toNat.toUInt8).toNat = k := by
  show (k.toUInt8).toNat = k
  rw [Nat.toUInt8, UInt8.toNat_ofNat']
  omega
theorem LR.two {ρ : Ren} {a b : Value} {l : List Value} (h : LR ρ [a, b] l) : ∃ a' b', l = [a', b'] ∧ VR ρ a a' ∧ VR ρ b b' := by
  cases h with
  | cons h1 h => cases h with
    | cons h2 h => cases h; exact ⟨_, _, rfl, h1, h2⟩
theorem VR.str_inv {ρ : Ren} {s : ByteArray} {v : Value} (h : VR ρ (.string s) v) : v = .string s := by cases h; rfl
theorem VR.int_inv {ρ : Ren} {k : IntKind} {n : Int} {v : Value} (h : VR ρ (.int k n) v) : v = .int k n := by cases h; rfl
structure ExternAt (P : Program) (f : Nat) (e : Array Value → Sem Value) : Prop where
  fn : ∃ fn, P.funcs[f]? = some fn ∧ (fn.name == "runtime.NumGoroutine") = false ∧ fn.body.isNone = true ∧ Extern.findNext fn = none ∧ Extern.find fn = some e
theorem ExternAt.run {P : Program} {f : Nat} {e : Array Value → Sem Value} (h : ExternAt P f e) (args : Array Value) (w : World) : (callFunc f args).run P w = ((e args).run P w).andThen fun v w' => .ok (.value v) w' := by
  obtain ⟨fn, h1, h2, h3, h4, h5⟩ := h.fn
  rw [run_callFunc_extern h1 h2 h3 h4 h5]
theorem pIndexByteString_ok {P : Program} {f : Nat} (he : ExternAt P f Extern.BytealgIndexByte.indexByte) : PlugOK P f (.ext pIndexByteString) := by
  intro U ws ρ h nx w args args' s ha
  unfold pIndexByteString
  split
  case h_2 => trivial
  rename_i x y
  split
  case h_2 => trivial
  rename_i str
  split
  case h_2 => trivial
  rename_i c
  split
  case h_2 => trivial
  rename_i hc
  rw [Nat.blt_eq] at hc
  have hl := ha.toList
  obtain ⟨l'⟩ := args'
  have hl : LR ρ [.string str, .int .u8 (.ofNat c)] l' := hl
  obtain ⟨a', b', rfl, h1, h2⟩ := hl.two
  rw [h1.str_inv, h2.int_inv]
  have hrun := he.run #[.string str, .int .u8 (.ofNat c)] w
  have hval : (Extern.BytealgIndexByte.indexByte #[.string str, .int .u8 (.ofNat c)]).run P w = .ok (match findB c str.data.toList 0 with
    | some i => .int .i64 (.ofNat i)
    | none => .int .i64 (.negSucc 0)) w := by
    have e := findB_ok (c := (Int.ofNat c).toNat.toUInt8) str.data.toList 0
    rw [u8_of hc] at e
    rw [e]
    change Sem.run P (do
      let b ← Extern.Bytes.bytesOf (.string str)
      let c' ← Extern.Bytes.asByte (.int .u8 (Int.ofNat c))
      match (List.range b.size).find? fun i => b[i]! == c' with
      | some i => pure (goInt i)
      | none => pure (goInt (-1))) w = _
    simp only [Extern.Bytes.bytesOf, Extern.Bytes.asByte, Sem.run_bind, Sem.run_pure, Result.andThen_ok, find_range]
    cases str.data.toList.findIdx? (· == (Int.ofNat c).toNat.toUInt8) <;> rfl
  rw [hval] at hrun
  split
  · rename_i i hi
    rw [hi] at hrun
    exact ⟨_, w, ρ, hrun, Ex.refl _ _, s, .int _ _⟩
  · rename_i hi
    rw [hi] at hrun
    exact ⟨_, w, ρ, hrun, Ex.refl _ _, s, .int _ _⟩
theorem pCountString_ok {P : Program} {f : Nat} (he : ExternAt P f Extern.BytealgCount.count) : PlugOK P f (.ext pCountString) := by
  intro U ws ρ h nx w args args' s ha
  unfold pCountString
  split
  case h_2 => trivial
  rename_i x y
  split
  case h_2 => trivial
  rename_i str
  split
  case h_2 => trivial
  rename_i c
  split
  case h_2 => trivial
  rename_i hc
  rw [Nat.blt_eq] at hc
  have hl := ha.toList
  obtain ⟨l'⟩ := args'
  have hl : LR ρ [.string str, .int .u8 (.ofNat c)] l' := hl
  obtain ⟨a', b', rfl, h1, h2⟩ := hl.two
  rw [h1.str_inv, h2.int_inv]
  have hrun := he.run #[.string str, .int .u8 (.ofNat c)] w
  have hval : (Extern.BytealgCount.count #[.string str, .int .u8 (.ofNat c)]).run P w = .ok (.int .i64 (.ofNat (countB c str.data.toList 0))) w := by
    have e := countB_ok (c := (Int.ofNat c).toNat.toUInt8) str.data.toList 0
    rw [u8_of hc] at e
    rw [e]
    change Sem.run P (do
      let b ← Extern.Bytes.bytesOf (.string str)
      let c' ← Extern.Bytes.asByte (.int .u8 (Int.ofNat c))
      pure (goInt (b.foldl (fun n x => if x == c' then n + 1 else n) (0 : Nat)))) w = _
    simp only [Extern.Bytes.bytesOf, Extern.Bytes.asByte, Sem.run_bind, Sem.run_pure, Result.andThen_ok, Go.Lib.foldl_data, count_int]
    rfl
  rw [hval] at hrun
  exact ⟨_, w, ρ, hrun, Ex.refl _ _, s, .int _ _⟩
/-- a call that comes back, out of a contract. -/
theorem calls_finish {P : Program} {f : Nat} {args : Array Value} {w w1 : World} {v : Value} (h : Calls P f args w fun e w' => e = .returned v ∧ w' = w1) (c : Frame) (cs : List Frame) :
    Steps P (lone (Frame.enter P f args .normal) (c :: cs) w) (lone (c.finish v) cs w1) := by
  obtain ⟨e, w', fr, ⟨rfl, rfl⟩, hst, _, hl⟩ := h (c :: cs)
  exact Steps.trans hst (.one (step_leave_returned hl))
theorem pWord_ok {P : Program} {f old new : Nat}
    (hC : ∀ (a : Addr) (w : World), w.cell? a = some (.int .i32 (.ofNat old)) → w.frozen? a = false → Calls P f #[.pointer (some a)] w fun e w' => e = .returned (.tuple #[]) ∧ w' = w.setCell a (.int .i32 (.ofNat new)))
    (hE : ∀ args w, (callFunc f args).run P w = .ok (.enter f args) w) : PlugOK P f (.sum (pWord (envOf P).N old new)) := by
  intro U ws ρ h nx w args args' v h' nx' s ha hr
  unfold pWord at hr
  split at hr
  case h_2 => cases hr
  rename_i x
  split at hr
  case h_2 => cases hr
  rename_i b o
  split at hr
  case h_2 => cases hr
  rename_i hN
  have hN := Nat.le_of_ble_eq_true hN
  split at hr
  case h_2 => cases hr
  rename_i t n es hg
  split at hr
  case h_2 => cases hr
  rename_i hlt
  rw [Nat.blt_eq] at hlt
  split at hr
  case h_2 => cases hr
  rename_i v0 hv0
  split at hr
  case h_2 => cases hr
  rename_i hbe
  have hbe := Nat.eq_of_beq_eq_true hbe
  subst hbe
  cases hr
  obtain ⟨l'⟩ := args'
  have hl : LR ρ [.pointer (some ⟨b, o, none⟩)] l' := ha.toList
  have : ∃ p, ρ b = some p ∧ l' = [.pointer (some ⟨p.B, p.S + o, none⟩)] := by
    cases hl with
    | cons h1 h2 =>
      cases h2
      cases h1 with
      | ptr hp => exact ⟨_, hp, rfl⟩
  obtain ⟨p, hp, rfl⟩ := this
  refine ⟨hE _ _, fun c cs => ?_⟩
  obtain ⟨ob, hc, ho⟩ := s.rel b _ p hg hp
  obtain ⟨C, elem, fz, rfl, g1, g2, g3, g4, g5⟩ := ho
  obtain ⟨v', e, r⟩ := g3 o _ hlt hv0
  have e2 : v' = .int .i32 (.ofNat v0) := r.int_inv
  subst e2
  have hcell : w.cell? ⟨p.B, p.S + o, none⟩ = some (.int .i32 (.ofNat v0)) := by rw [cell_at hc]; exact e
  have hlt2 : p.S + o < C.size := by omega
  have hfz : w.frozen? ⟨p.B, p.S + o, none⟩ = false := by
    unfold World.frozen?
    simp only [hc]
    have := g4 (p.S + o) (by omega) hlt2
    obtain ⟨a1, a2⟩ := fz
    simp only [Bool.and_eq_false_iff, decide_eq_false_iff_not]
    simp only at this
    by_cases h1 : a1 ≤ p.S + o
    · exact .inr fun h2 => this ⟨h1, h2⟩
    · exact .inl h1
  have hst := calls_finish (hC _ w hcell hfz) c cs
  refine ⟨_, _, ρ, hst, Ex.refl _ _, ?_, VR.undef ρ⟩
  rw [setCell_wr w _ rfl _ hc]
  refine s.write hN hg hp ⟨_, elem, fz, rfl, by simpa using g1, by simpa using g2, fun i u hi hu => ?_, fun j hj hj' => g4 j hj (by simpa using hj'), g5.1, by simpa using g5.2⟩
  rw [T.get_set] at hu
  split at hu
  · rename_i ei
    subst ei
    cases hu
    exact ⟨_, by simp [hlt2], .int _ _⟩
  · rename_i ei
    obtain ⟨u', e1, r1⟩ := g3 i u hi hu
    refine ⟨u', ?_, r1⟩
    rw [Array.getElem?_setIfInBounds_ne (by show ¬ p.S + o = p.S + i; omega)]
    exact e1
end Go.Proofs.YtmiojdppkooikaaGreatDoor.Abs
namespace Go.Proofs.YtmiojdppkooikaaGreatDoor.Abs
open Go

section
variable {P : Program}
theorem runCall_ok {pl : T Plug} (hpl : PlugsOK P pl) {U : Nat → Prop} {ws : World} {ρ : Ren} {h : T AObj} {nx : Nat} {w : World} {args : List Value} {args' : Array Value} {f fuel : Nat} {v : Value} {h' : T AObj} {nx' : Nat}
    (s : SI (envOf P).N U ws ρ h nx w) (ha : AR ρ ⟨args⟩ args') (hr : runCall P (ctxOf P) pl fuel f args h nx = .done v h' nx') :
    (∀ w : World, (callFunc f args').run P w = .ok (.enter f args') w) ∧ ∀ bs, ∃ c w' v' ρ', Steps P (lone (Frame.enter P f args' .normal) bs w) (lone c bs w') ∧ Ex nx ρ ρ' ∧ SI (envOf P).N U ws ρ' h' nx' w' ∧ VR ρ' v v' ∧ c.fn = f ∧ c.leaving P w' (.returned v') := by
  unfold runCall at hr
  split at hr
  case h_2 => cases hr
  rename_i fr hfr
  obtain ⟨h1, h2⟩ := aenter_ok (lo := nx) (nx := nx) ha hfr
  refine ⟨h2, fun bs => ?_⟩
  have hfn : fr.fn = f := by
    unfold aenter at hfr
    repeat' split at hfr
    all_goals first | (cases hfr; rfl) | cases hfr
  have hrel : Rel P U ws nx bs f ρ fr [] h nx (lone (Frame.enter P f args' .normal) bs w) := ⟨⟨_, [], w, nx, rfl, s, Nat.le_refl _, h1, .nil (Nat.le_refl _)⟩, hfn⟩
  have := drive_ok hpl fuel hrel
  rw [hr] at this
  obtain ⟨c, w', v', ρ', g1, g2, g3, g4, g5, g6, _⟩ := this
  exact ⟨c, w', v', ρ', g1, g2, g3, g4, g5, g6⟩
end

structure Lit where
  fn : Nat
  nx0 : Nat
  args : List Value
  L0 : List (Nat × AObj)
  v : Value
  L1 : List (Nat × AObj)
  nx1 : Nat
noncomputable def putAll (l : List (Nat × AObj)) : T AObj → T AObj := List.rec (motive := fun _ => T AObj → T AObj) (fun h => h) (fun x _ ih h => ih (h.set x.1 x.2)) l
noncomputable def delAll (N : Nat) (l : List (Nat × AObj)) : T AObj → T AObj := List.rec (motive := fun _ => T AObj → T AObj) (fun h => h) (fun x _ ih h => match Nat.ble N x.1 with
  | true => ih (h.del x.1)
  | false => ih h) l
noncomputable def keysGe (N : Nat) (l : List (Nat × AObj)) : Bool := List.rec (motive := fun _ => Bool) true (fun x _ ih => match Nat.ble N x.1 with
  | true => ih
  | false => false) l
/-- nothing lies at so many numbers from k on. -/
noncomputable def noneIn (h : T AObj) (n : Nat) : Nat → Bool := Nat.rec (motive := fun _ => Nat → Bool) (fun _ => true) (fun _ ih k => match h.get k with
  | none => ih (Nat.add k 1)
  | some _ => false) n
theorem noneIn_ok {h : T AObj} : ∀ {n k : Nat}, noneIn h n k = true → ∀ b, k ≤ b → b < k + n → h.get b = none
  | 0, k, _, b, h1, h2 => by omega
  | n + 1, k, hn, b, h1, h2 => by
    have hn : (match h.get k with
      | none => noneIn h n (k + 1)
      | some _ => false) = true := hn
    split at hn
    · rename_i e
      by_cases hb : b = k
      · rw [hb]; exact e
      · exact noneIn_ok hn b (by omega) (by omega)
    · cases hn
theorem keysGe_ok {N : Nat} : ∀ {l : List (Nat × AObj)}, keysGe N l = true → ∀ x ∈ l, N ≤ x.1
  | [], _, x, hx => by simp at hx
  | y :: l, h, x, hx => by
    have h : (match Nat.ble N y.1 with
      | true => keysGe N l
      | false => false) = true := h
    split at h
    · rename_i e
      rcases List.mem_cons.1 hx with rfl | hx
      · exact Nat.le_of_ble_eq_true e
      · exact keysGe_ok h x hx
    · cases h
theorem putAll_get : ∀ (l : List (Nat × AObj)) (h : T AObj) (b : Nat) (o : AObj), (putAll l h).get b = some o → (b, o) ∈ l ∨ (h.get b = some o ∧ ∀ o', (b, o') ∉ l)
  | [], h, b, o, e => .inr ⟨e, fun o' => by simp⟩
  | x :: l, h, b, o, e => by
    have e : (putAll l (h.set x.1 x.2)).get b = some o := e
    rcases putAll_get l _ b o e with h1 | ⟨h1, h2⟩
    · exact .inl (List.mem_cons_of_mem _ h1)
    · rw [T.get_set] at h1
      split at h1
      · rename_i eb
        cases h1
        exact .inl (by rw [eb]; exact List.mem_cons_self)
      · rename_i eb
        refine .inr ⟨h1, fun o' hm => ?_⟩
        rcases List.mem_cons.1 hm with e1 | hm
        · exact eb (by rw [← e1])
        · exact h2 o' hm
theorem delAll_get {N : Nat} : ∀ (l : List (Nat × AObj)) (h : T AObj) (b : Nat) (o : AObj), (delAll N l h).get b = some o → h.get b = some o ∧ (N ≤ b → ∀ o', (b, o') ∉ l)
  | [], h, b, o, e => ⟨e, fun _ o' => by simp⟩
  | x :: l, h, b, o, e => by
    have e : (match Nat.ble N x.1 with
      | true => delAll N l (h.del x.1)
      | false => delAll N l h).get b = some o := e
    split at e
    · obtain ⟨h1, h2⟩ := delAll_get l _ b o e
      rw [T.get_del] at h1
      split at h1
      · cases h1
      · rename_i eb
        refine ⟨h1, fun hN o' hm => ?_⟩
        rcases List.mem_cons.1 hm with e1 | hm
        · exact eb (by rw [← e1])
        · exact h2 hN o' hm
    · rename_i hx
      obtain ⟨h1, h2⟩ := delAll_get l _ b o e
      refine ⟨h1, fun hN o' hm => ?_⟩
      rcases List.mem_cons.1 hm with e1 | hm
      · have : N ≤ x.1 := by rw [← e1]; exact hN
        exact (Nat.not_le_of_not_ble_eq_true (by rw [hx]; simp)) this
      · exact h2 hN o' hm

section
variable {N : Nat} {U : Nat → Prop} {ws : World} {ρ ρ' : Ren} {h h0 hR : T AObj} {nx nx1 : Nat} {w w' : World}
def foot (N : Nat) (ρ : Ren) (h0 : T AObj) (B : Nat) : Prop := ∃ b o p, N ≤ b ∧ h0.get b = some o ∧ ρ b = some p ∧ p.B = B
theorem SI.sub (s : SI N U ws ρ h nx w) (hsub : ∀ b o, h0.get b = some o → h.get b = some o) : SI N (foot N ρ h0) w ρ h0 nx w :=
  ⟨fun b o p hg hp => s.rel b o p (hsub b o hg) hp, fun b₁ b₂ o₁ o₂ p₁ p₂ h1 h2 => s.inj b₁ b₂ o₁ o₂ p₁ p₂ (hsub _ _ h1) (hsub _ _ h2), s.bnd, s.lt,
    fun b o p hN hg hp => .inl ⟨b, o, p, hN, hg, hp, rfl⟩, s.glob, s.nle, ⟨Nat.le_refl _, fun _ _ _ => rfl, rfl, rfl, rfl⟩⟩
/-- THE FRAME: a call that saw a part of the picture leaves the rest as it was. -/
theorem SI.framed (s : SI N U ws ρ h nx w) {L0 L1 : List (Nat × AObj)} (hsub : ∀ b o, h0.get b = some o → h.get b = some o) (hL0 : ∀ b o, h0.get b = some o → ∃ o', (b, o') ∈ L0)
    (hex : Ex nx ρ ρ') (hR1 : SI N (foot N ρ h0) w ρ' hR nx1 w') (hL1 : ∀ b o, (b, o) ∈ L1 → hR.get b = some o) (hN1 : ∀ x ∈ L1, N ≤ x.1)
    (hfresh : ∀ b, nx ≤ b → b < nx1 → h.get b = none) : SI N U ws ρ' (putAll L1 (delAll N L0 h)) nx1 w' := by
  -- what stays of the elder picture
  have elder : ∀ b o, (delAll N L0 h).get b = some o → h.get b = some o ∧ (N ≤ b → h0.get b = none) := fun b o e => by
    obtain ⟨h1, h2⟩ := delAll_get L0 h b o e
    refine ⟨h1, fun hN => ?_⟩
    cases hh : h0.get b with
    | none => rfl
    | some o' =>
      obtain ⟨o2, hm⟩ := hL0 b o' hh
      exact absurd hm (h2 hN o2)
  have back : ∀ b o p, h.get b = some o → ρ' b = some p → ρ b = some p := fun b o p hg hp => by
    cases hb : ρ b with
    | some q => rw [← hp, hex.1 _ _ hb]
    | none =>
      rcases Nat.lt_or_ge b nx with hl | hl
      · rw [hex.2 b hl hb] at hp; cases hp
      · have := hR1.lt b p hp
        rw [hfresh b hl this] at hg; cases hg
  have cls : ∀ b o, (putAll L1 (delAll N L0 h)).get b = some o → hR.get b = some o ∧ N ≤ b ∨ (h.get b = some o ∧ (N ≤ b → h0.get b = none)) := fun b o e => by
    rcases putAll_get L1 _ b o e with h1 | ⟨h1, _⟩
    · exact .inl ⟨hL1 b o h1, hN1 _ h1⟩
    · exact .inr (elder b o h1)
  -- an elder block that stays is none of the call's
  have apart : ∀ b o p, h.get b = some o → ρ b = some p → (N ≤ b → h0.get b = none) → ¬ foot N ρ h0 p.B := fun b o p hg hp hn ⟨b0, o0, p0, hN0, hg0, hp0, e⟩ => by
    have := s.inj b0 b o0 o p0 p (hsub _ _ hg0) hg hp0 hp e
    subst this
    rw [hn hN0] at hg0; cases hg0
  refine ⟨fun b o p hg hp => ?_, fun b₁ b₂ o₁ o₂ p₁ p₂ h1 h2 r1 r2 e => ?_, hR1.bnd, hR1.lt, fun b o p hN hg hp => ?_, hR1.glob, hR1.nle, ?_⟩
  · rcases cls b o hg with ⟨h1, _⟩ | ⟨h1, h2⟩
    · exact hR1.rel b o p h1 hp
    · have hp0 := back b o p h1 hp
      obtain ⟨c, hc, ho⟩ := s.rel b o p h1 hp0
      refine ⟨c, ?_, ho.mono hex.1⟩
      rw [hR1.same.heap p.B (s.bnd b p hp0) (apart b o p h1 hp0 h2)]
      exact hc
  · have mixed : ∀ b₁ b₂ o₁ o₂ p₁ p₂, hR.get b₁ = some o₁ → N ≤ b₁ → h.get b₂ = some o₂ → (N ≤ b₂ → h0.get b₂ = none) → ρ' b₁ = some p₁ → ρ' b₂ = some p₂ → p₁.B = p₂.B → False := fun b₁ b₂ o₁ o₂ p₁ p₂ h1 hN1 h2 hn r1 r2 e => by
      have r20 := back b₂ o₂ p₂ h2 r2
      rcases hR1.wr b₁ o₁ p₁ hN1 h1 r1 with hf | hf
      · exact apart b₂ o₂ p₂ h2 r20 hn (e ▸ hf)
      · have := s.bnd b₂ p₂ r20
        omega
    rcases cls b₁ o₁ h1 with ⟨g1, n1⟩ | ⟨g1, n1⟩ <;> rcases cls b₂ o₂ h2 with ⟨g2, n2⟩ | ⟨g2, n2⟩
    · exact hR1.inj b₁ b₂ o₁ o₂ p₁ p₂ g1 g2 r1 r2 e
    · exact (mixed b₁ b₂ o₁ o₂ p₁ p₂ g1 n1 g2 n2 r1 r2 e).elim
    · exact (mixed b₂ b₁ o₂ o₁ p₂ p₁ g2 n2 g1 n1 r2 r1 e.symm).elim
    · exact s.inj b₁ b₂ o₁ o₂ p₁ p₂ g1 g2 (back _ _ _ g1 r1) (back _ _ _ g2 r2) e
  · rcases cls b o hg with ⟨h1, _⟩ | ⟨h1, h2⟩
    · rcases hR1.wr b o p hN h1 hp with hf | hf
      · obtain ⟨b0, o0, p0, hN0, hg0, hp0, e⟩ := hf
        rw [← e]
        exact s.wr b0 o0 p0 hN0 (hsub _ _ hg0) hp0
      · right
        have := s.same.size
        omega
    · exact s.wr b o p hN h1 (back b o p h1 hp)
  · refine ⟨Nat.le_trans s.same.size hR1.same.size, fun B hB hU => ?_, hR1.same.os.trans s.same.os, hR1.same.output.trans s.same.output, hR1.same.tape.trans s.same.tape⟩
    · have hw : B < w.heap.size := Nat.lt_of_lt_of_le hB s.same.size
      rw [hR1.same.heap B hw (fun ⟨b0, o0, p0, hN0, hg0, hp0, e⟩ => by
        rcases s.wr b0 o0 p0 hN0 (hsub _ _ hg0) hp0 with hf | hf
        · exact hU (e ▸ hf)
        · omega)]
      exact s.same.heap B hB hU
end

noncomputable def entsEq (a b : List MapEntry) : Bool := List.rec (motive := fun _ => List MapEntry → Bool) (fun b => match b with
  | [] => true
  | _ :: _ => false) (fun x _ ih b => match b with
  | [] => false
  | y :: b => match and (Nat.beq x.born y.born) (and (veq 8 x.key y.key) (veq 8 x.val y.val)) with
    | true => ih b
    | false => false) a b
theorem entsEq_ok : ∀ {a b : List MapEntry}, entsEq a b = true → a = b
  | [], [], _ => rfl
  | [], _ :: _, h => by cases h
  | _ :: _, [], h => by cases h
  | x :: a, y :: b, h => by
    have h : (match and (Nat.beq x.born y.born) (and (veq 8 x.key y.key) (veq 8 x.val y.val)) with
      | true => entsEq a b
      | false => false) = true := h
    split at h
    · rename_i e
      simp only [Bool.and_eq_true] at e
      obtain ⟨e1, e2, e3⟩ := e
      have e1 := Nat.eq_of_beq_eq_true e1
      have e2 := veq_ok _ _ _ e2
      have e3 := veq_ok _ _ _ e3
      rw [entsEq_ok h]
      cases x; cases y
      simp only at e1 e2 e3
      rw [e1, e2, e3]
    · cases h
noncomputable def u8Eq (a b : List UInt8) : Bool := List.rec (motive := fun _ => List UInt8 → Bool) (fun b => match b with
  | [] => true
  | _ :: _ => false) (fun x _ ih b => match b with
  | [] => false
  | y :: b => match Nat.beq x.toNat y.toNat with
    | true => ih b
    | false => false) a b
theorem u8Eq_ok : ∀ {a b : List UInt8}, u8Eq a b = true → a = b
  | [], [], _ => rfl
  | [], _ :: _, h => by cases h
  | _ :: _, [], h => by cases h
  | x :: a, y :: b, h => by
    have h : (match Nat.beq x.toNat y.toNat with
      | true => u8Eq a b
      | false => false) = true := h
    split at h
    · rename_i e
      rw [u8Eq_ok h, UInt8.toNat_inj.1 (Nat.eq_of_beq_eq_true e)]
    · cases h
noncomputable def oeqF (a b : AObj) : Bool := match a with
  | .cells t n e => match b with
    | .cells t' n' e' => match and (Nat.beq n n') (Nat.beq e e') with
      | true => teq 8 t t'
      | false => false
    | _ => false
  | .map es c => match b with
    | .map es' c' => match Nat.beq c c' with
      | true => entsEq es es'
      | false => false
    | _ => false
  | .ice e l => match b with
    | .ice e' l' => match Nat.beq e e' with
      | true => u8Eq l l'
      | false => false
    | _ => false
  | _ => false
theorem oeqF_ok {a b : AObj} (h : oeqF a b = true) : a = b := by
  unfold oeqF at h
  split at h
  · split at h
    · split at h
      · rename_i e
        simp only [Bool.and_eq_true] at e
        rw [teq_ok h, Nat.eq_of_beq_eq_true e.1, Nat.eq_of_beq_eq_true e.2]
      · cases h
    · cases h
  · split at h
    · split at h
      · rename_i e
        rw [entsEq_ok h, Nat.eq_of_beq_eq_true e]
      · cases h
    · cases h
  · split at h
    · split at h
      · rename_i e
        rw [u8Eq_ok h, Nat.eq_of_beq_eq_true e]
      · cases h
    · cases h
  · cases h
noncomputable def allThere (h : T AObj) (l : List (Nat × AObj)) : Bool := List.rec (motive := fun _ => Bool) true (fun x _ ih => match h.get x.1 with
  | some o => match oeqF o x.2 with
    | true => ih
    | false => false
  | none => false) l
theorem allThere_ok {h : T AObj} : ∀ {l : List (Nat × AObj)}, allThere h l = true → ∀ b o, (b, o) ∈ l → h.get b = some o
  | [], _, b, o, hm => by simp at hm
  | x :: l, ha, b, o, hm => by
    have ha : (match h.get x.1 with
      | some o => match oeqF o x.2 with
        | true => allThere h l
        | false => false
      | none => false) = true := ha
    split at ha
    · rename_i o' e
      split at ha
      · rename_i e2
        rcases List.mem_cons.1 hm with e3 | hm
        · rw [← e3] at e e2
          rw [e, oeqF_ok e2]
        · exact allThere_ok ha b o hm
      · cases ha
    · cases ha
noncomputable def pLit (N : Nat) (L : Lit) (h : T AObj) (nx : Nat) (args : List Value) : Option (Value × T AObj × Nat) :=
  match Nat.beq nx L.nx0 with
  | true => match allEq (veq 8) args L.args with
    | true => match allThere h L.L0 with
      | true => match keysGe N L.L1 with
        | true => match noneIn h (Nat.sub L.nx1 L.nx0) nx with
          | true => some (L.v, putAll L.L1 (delAll N L.L0 h), L.nx1)
          | false => none
        | false => none
      | false => none
    | false => none
  | false => none
noncomputable def okRun (L : Lit) (r : R) : Bool := match r with
  | .done v h nx => match and (veq 8 v L.v) (Nat.beq nx L.nx1) with
    | true => allThere h L.L1
    | false => false
  | _ => false
theorem pLit_ok {P : Program} {pl : T Plug} (hpl : PlugsOK P pl) (L : Lit) (fuel : Nat) (hr : okRun L (runCall P (ctxOf P) pl fuel L.fn L.args (putAll L.L0 .leaf) L.nx0) = true) : PlugOK P L.fn (.sum (pLit (envOf P).N L)) := by
  intro U ws ρ h nx w args args' v h' nx' s ha hp
  unfold pLit at hp
  split at hp
  case h_2 => cases hp
  rename_i e1
  have e1 := Nat.eq_of_beq_eq_true e1
  split at hp
  case h_2 => cases hp
  rename_i e2
  have e2 := allEq_ok (veq_ok 8) e2
  split at hp
  case h_2 => cases hp
  rename_i e3
  have e3 := allThere_ok e3
  split at hp
  case h_2 => cases hp
  rename_i e4
  have e4 := keysGe_ok e4
  split at hp
  case h_2 => cases hp
  rename_i e5
  have e5 := noneIn_ok e5
  cases hp
  subst e1
  subst e2
  unfold okRun at hr
  split at hr
  case h_2 => cases hr
  rename_i v1 hR nx1 hrun
  split at hr
  case h_2 => cases hr
  rename_i e6
  simp only [Bool.and_eq_true] at e6
  have e7 := veq_ok _ _ _ e6.1
  have e8 := Nat.eq_of_beq_eq_true e6.2
  have e9 := allThere_ok hr
  subst e7
  subst e8
  have mem0 : ∀ b o, (putAll L.L0 (.leaf : T AObj)).get b = some o → (b, o) ∈ L.L0 := fun b o hg => by
    rcases putAll_get L.L0 .leaf b o hg with h1 | ⟨h1, _⟩
    · exact h1
    · simp at h1
  have hsub : ∀ b o, (putAll L.L0 (.leaf : T AObj)).get b = some o → h.get b = some o := fun b o hg => e3 b o (mem0 b o hg)
  obtain ⟨g1, g2⟩ := runCall_ok hpl (s.sub hsub) ha hrun
  refine ⟨g1 w, fun c cs => ?_⟩
  obtain ⟨c1, w', v', ρ', k1, k2, k3, k4, k5, k6⟩ := g2 (c :: cs)
  refine ⟨v', w', ρ', Steps.trans k1 (.one (step_leave_returned k6)), k2, ?_, k4⟩
  exact s.framed hsub (fun b o hg => ⟨o, mem0 b o hg⟩) k2 k3 e9 e4 (fun b h1 h2 => e5 b h1 (by show b < L.nx0 + (L.nx1 - L.nx0); omega))
/-- several summaries of one function, by the number at which they begin. -/
noncomputable def pLits (N : Nat) (ls : T Lit) (h : T AObj) (nx : Nat) (args : List Value) : Option (Value × T AObj × Nat) :=
  match ls.get nx with
  | some L => pLit N L h nx args
  | none => none
theorem pLits_ok {P : Program} {g : Nat} {ls : T Lit} (hl : ∀ k L, ls.get k = some L → PlugOK P g (.sum (pLit (envOf P).N L))) : PlugOK P g (.sum (pLits (envOf P).N ls)) := by
  intro U ws ρ h nx w args args' v h' nx' s ha hp
  unfold pLits at hp
  split at hp
  · rename_i L e
    exact hl _ L e U ws ρ h nx w args args' v h' nx' s ha hp
  · cases hp
theorem PlugsOK.leaf (P : Program) : PlugsOK P .leaf := fun g p h => by simp at h
theorem PlugsOK.set {P : Program} {pl : T Plug} (h : PlugsOK P pl) {g : Nat} {p : Plug} (hp : PlugOK P g p) : PlugsOK P (pl.set g p) := fun g' p' e => by
  rw [T.get_set] at e
  split at e
  · rename_i eg; cases e; subst eg; exact hp
  · exact h g' p' e
end Go.Proofs.YtmiojdppkooikaaGreatDoor.Abs
namespace Go.Proofs.YtmiojdppkooikaaGreatDoor.Abs
open Go
theorem lenU_eq (l : List UInt8) : lenU l = l.length := by
  induction l with
  | nil => rfl
  | cons x l ih => show Nat.succ (lenU l) = _; rw [ih]; rfl
theorem u8s_spec : ∀ {l : List Value} {r : List UInt8}, u8s l = some r → r.length = l.length ∧ ∀ (i : Nat) (x : UInt8), r[i]? = some x → l[i]? = some (.int .u8 x.toNat)
  | [], r, h => by
    cases (show some [] = some r from h)
    exact ⟨rfl, fun i x e => by simp at e⟩
  | v :: l, r, h => by
    have h : (match (generalizing := false) v with
      | .int .u8 (.ofNat n) => match Nat.blt n 256 with
        | true => match u8s l with
          | some l => some (UInt8.ofNat n :: l)
          | none => none
        | false => none
      | _ => none) = some r := h
    split at h
    case h_2 => cases h
    rename_i n _
    split at h
    case h_2 => cases h
    rename_i hn
    rw [Nat.blt_eq] at hn
    split at h
    case h_2 => cases h
    rename_i r0 hr
    cases h
    obtain ⟨h1, h2⟩ := u8s_spec hr
    refine ⟨by simp [h1], fun i x e => ?_⟩
    cases i with
    | zero =>
      simp at e; subst e
      have : (UInt8.ofNat n).toNat = n := by rw [UInt8.toNat_ofNat']; omega
      simp [this]
    | succ i => simp at e; simpa using h2 i x e

/-- so many bytes lie from a place on. -/
theorem lies_from {P : Program} {e : TypeId} (hc : P.cellsOf e = 1) (count off n : Nat) (hn : off + n ≤ count) : liesAt P P.depth e count off e n = true := by
  have hd : P.depth = (2 * (P.types.size + Made.depth) + 1) + 1 := rfl
  rw [hd]
  simp only [liesAt, Bool.or_eq_true]
  left
  rw [hd]
  simp [rowAt, hc, hn, sameLayout, Nat.mod_one]
theorem run_unsafeString_from {P : Program} (w : World) (pt it ty e : TypeId) (hp : P.underlying pt = some (.pointer e)) (hc : P.cellsOf e = 1) (g S cells : Nat) (hsh : w.shape? g = some (e, cells)) (l : List UInt8) (h0 : l ≠ []) (hn : S + l.length ≤ cells) (h63 : l.length ≤ 9223372036854775807)
    (hcell : ∀ j x, l[j]? = some x → w.cell? ((⟨g, S, none⟩ : Addr).add j) = some (.int .u8 x.toNat)) :
    (Builtin.unsafeString_ #[pt, it] ty #[.pointer (some ⟨g, S, none⟩), .int .i64 l.length]).run P w = .ok (.string ⟨l.toArray⟩) (w.freeze ⟨g, S, none⟩ l.length) := by
  have hl : l.length ≠ 0 := by simpa using h0
  have hlb := Lib.run_loadBytes (P := P) w l ⟨g, S, none⟩ .empty hcell
  have hlies := lies_from (P := P) hc (cells / P.cellsOf e) S l.length (by rw [hc]; simpa using hn)
  have h63' : ¬ (9223372036854775807 : Int) < (l.length : Int) := by omega
  have hdef : Builtin.unsafeString_ #[pt, it] ty #[.pointer (some ⟨g, S, none⟩), .int .i64 l.length] =
      (do
        let n ← asInt (.int .i64 l.length)
        if n < 0 then runtimePanic (.error "unsafe.String: len out of range")
        if n > IntKind.i64.max then unsupported (.unsafePointer "String: a length above the largest int")
        if n = 0 then pure (.string .empty)
        else if ← variablesAt ⟨g, S, none⟩ (← elemOf pt) n.toNat then do
          let s ← loadBytes ⟨g, S, none⟩ .empty n.toNat
          freeze ⟨g, S, none⟩ n.toNat
          pure (.string s)
        else unsupported (.unsafePointer "String: not so many bytes at ptr")) := rfl
  rw [hdef]
  have hmax : IntKind.i64.max = 9223372036854775807 := rfl
  have hneg : ¬ (l.length : Int) < 0 := by omega
  simp [asInt, asIntOf, hmax, h63', hneg, hl, variablesAt, hsh, elemOf, run_underlying hp, hlies, hlb]

structure BuilderWalks (P : Program) (fC fS TS TB : Nat) : Prop where
  eC : ∀ args w, (callFunc fC args).run P w = .ok (.enter fC args) w
  eS : ∀ args w, (callFunc fS args).run P w = .ok (.enter fS args) w
  pt : ∃ p, P.underlying p = some (.pointer TB)
  one : P.cellsOf TB = 1
  used : ∀ (b : Nat) (w : World), w.cell? ⟨b, 0, none⟩ = some (.pointer (some ⟨b, 0, none⟩)) → Calls P fC #[.pointer (some ⟨b, 0, none⟩)] w fun e w' => e = .returned (.tuple #[]) ∧ w' = w
  fresh : ∀ (b : Nat) (w : World), w.cell? ⟨b, 0, none⟩ = some (.pointer none) → w.shape? b = some (TS, 2) → w.frozen? ⟨b, 0, none⟩ = false →
    Calls P fC #[.pointer (some ⟨b, 0, none⟩)] w fun e w' => e = .returned (.tuple #[]) ∧ w' = w.setCell ⟨b, 0, none⟩ (.pointer (some ⟨b, 0, none⟩))
  empty : ∀ (b : Nat) (w : World), w.cell? ⟨b, 1, none⟩ = some (.slice none 0 0) → Calls P fS #[.pointer (some ⟨b, 0, none⟩)] w fun e w' => e = .returned (.string ⟨#[]⟩) ∧ w' = w.drew
  row : ∀ (b g S cap : Nat) (l : List UInt8) (w : World), l ≠ [] → cap ≠ 0 → w.cell? ⟨b, 1, none⟩ = some (.slice (some ⟨g, S, none⟩) l.length cap) →
    (∀ pt it ty, P.underlying pt = some (.pointer TB) → (Builtin.unsafeString_ #[pt, it] ty #[.pointer (some ⟨g, S, none⟩), .int .i64 l.length]).run P w.drew = .ok (.string ⟨l.toArray⟩) (w.drew.freeze ⟨g, S, none⟩ l.length)) →
    Calls P fS #[.pointer (some ⟨b, 0, none⟩)] w fun e w' => e = .returned (.string ⟨l.toArray⟩) ∧ w' = w.drew.freeze ⟨g, S, none⟩ l.length

/-- one pointer. -/
theorem LR.ptr1 {ρ : Ren} {b o : Nat} {l : List Value} (h : LR ρ [.pointer (some ⟨b, o, none⟩)] l) : ∃ p, ρ b = some p ∧ l = [.pointer (some ⟨p.B, p.S + o, none⟩)] := by
  cases h with
  | cons h1 h2 =>
    cases h2
    cases h1 with
    | ptr hp => exact ⟨_, hp, rfl⟩
theorem not_frozen {w : World} {B o : Nat} {C : Array Value} {elem : TypeId} {fz : Nat × Nat} (hc : w.heap[B]? = some (.cells C elem fz)) (h : ¬ (fz.1 ≤ o ∧ o < fz.2)) : w.frozen? ⟨B, o, none⟩ = false := by
  unfold World.frozen?
  simp only [hc]
  obtain ⟨a1, a2⟩ := fz
  simp only [Bool.and_eq_false_iff, decide_eq_false_iff_not]
  simp only at h
  by_cases h1 : a1 ≤ o
  · exact .inr fun h2 => h ⟨h1, h2⟩
  · exact .inl h1
theorem freeze_wr {w : World} {B S n : Nat} (hn : n ≠ 0) {C : Array Value} {elem : TypeId} {fz : Nat × Nat} (hc : w.heap[B]? = some (.cells C elem fz)) : ∃ fz', w.freeze ⟨B, S, none⟩ n = World.wr w B (.cells C elem fz') := by
  obtain ⟨lo, hi⟩ := fz
  obtain ⟨hlt, e⟩ := Array.getElem?_eq_some_iff.1 hc
  refine ⟨if lo == hi then (S, S + n) else (min lo S, max hi (S + n)), ?_⟩
  unfold World.freeze World.wr
  rw [if_neg hn]
  congr 1
  apply Array.ext (by simp)
  intro i h1 h2
  rw [Array.getElem_modify, Array.getElem_setIfInBounds]
  split
  · rename_i e'; subst e'; simp [e]
  · rfl

/-- a row that is read only may be frozen further. -/
theorem SI.refreeze {N : Nat} {U : Nat → Prop} {ws : World} {ρ : Ren} {h : T AObj} {nx : Nat} {w : World} (s : SI N U ws ρ h nx w) {b : Nat} {e : Nat} {l : List UInt8} {p : Pl} (hg : h.get b = some (.ice e l)) (hp : ρ b = some p) {C : Array Value} {fz : Nat × Nat} (hc : w.heap[p.B]? = some (.cells C e fz)) (hN : N ≤ b) (fz' : Nat × Nat) :
    SI N U ws ρ h nx (World.wr w p.B (.cells C e fz')) := by
  obtain ⟨c, hc', hor⟩ := s.rel b _ p hg hp
  obtain ⟨C', fz'', rfl, a1, a2⟩ := hor
  rw [hc] at hc'
  cases hc'
  have := s.write (o' := .ice e l) hN hg hp (c := .cells C e fz') ⟨C, fz', rfl, a1, a2⟩
  refine ⟨fun b' o' p' hg' hp' => ?_, fun b₁ b₂ o₁ o₂ p₁ p₂ h1 h2 => s.inj b₁ b₂ o₁ o₂ p₁ p₂ h1 h2, this.bnd, this.lt, fun b' o' p' hN' hg' hp' => s.wr b' o' p' hN' hg' hp', this.glob, this.nle, this.same⟩
  have e2 : (h.set b (.ice e l)).get b' = some o' := by
    rw [T.get_set]
    split
    · rename_i e'; rw [e', hg] at hg'; exact hg'
    · exact hg'
  exact this.rel b' o' p' e2 hp'
section
variable {P : Program} {fC fS TS TB : Nat}
theorem pCopyCheck_ok (H : BuilderWalks P fC fS TS TB) : PlugOK P fC (.sum (pCopyCheck (envOf P).N TS)) := by
  intro U ws ρ h nx w args args' v h' nx' s ha hr
  unfold pCopyCheck at hr
  split at hr
  case h_2 => cases hr
  rename_i x
  split at hr
  case h_2 => cases hr
  rename_i b o
  split at hr
  case h_2 => cases hr
  rename_i ho
  have ho := Nat.eq_of_beq_eq_true ho
  subst ho
  split at hr
  case h_2 => cases hr
  rename_i t n es hg
  split at hr
  case h_2 => cases hr
  rename_i hcs
  simp only [Bool.and_eq_true] at hcs
  obtain ⟨h1, h2, h3, h4⟩ := hcs
  have h1 := Nat.eq_of_beq_eq_true h1
  rw [Nat.blt_eq] at h2
  have h3 := Nat.eq_of_beq_eq_true h3
  have h4 := Nat.le_of_ble_eq_true h4
  have h1 : es = 4294967296 + TS := h1
  subst h1
  subst h3
  split at hr
  case h_2 => cases hr
  rename_i v0 hv0
  obtain ⟨l'⟩ := args'
  obtain ⟨p, hp, rfl⟩ := LR.ptr1 (ρ := ρ) ha.toList
  refine ⟨H.eC _ _, fun c cs => ?_⟩
  obtain ⟨ob, hc, hor⟩ := s.rel b _ p hg hp
  obtain ⟨C, elem, fz, rfl, g1, g2, g3, g4, g5, g6⟩ := hor
  obtain ⟨hS, hsz, hel⟩ := g6.1 (by omega) (by omega)
  have hel : elem = TS := by have : 4294967296 + elem = 4294967296 + TS := hel; exact Nat.add_left_cancel this
  subst hel
  rw [hS] at g1 g3 g4
  rw [hS]
  obtain ⟨v', e, r⟩ := g3 0 _ (by omega) hv0
  split at hr
  · cases hr
    cases r
    have hcell : w.cell? ⟨p.B, 0, none⟩ = some (.pointer none) := by rw [cell_at hc]; exact e
    have hfz := not_frozen hc (g4 0 (Nat.le_refl _) (by omega))
    have hst := calls_finish (H.fresh p.B w hcell (by simp [World.shape?, hc, hsz]) hfz) c cs
    refine ⟨_, _, ρ, hst, Ex.refl _ _, ?_, VR.undef ρ⟩
    rw [setCell_wr w _ rfl _ hc]
    refine s.write h4 hg hp ⟨_, elem, fz, rfl, by rw [hS]; simpa using g1, by simpa using g2, fun i u hi hu => ?_, fun j hj hj' => g4 j (Nat.zero_le _) (by simpa using hj'), g5, by simpa using g6⟩
    rw [hS, Nat.zero_add]
    rw [T.get_set] at hu
    split at hu
    · rename_i ei
      subst ei
      cases hu
      refine ⟨.pointer (some ⟨p.B, 0, none⟩), by simp [hsz], ?_⟩
      have := VR.ptr (ρ := ρ) (o := 0) hp
      rw [hS] at this
      exact this
    · rename_i ei
      obtain ⟨u', e1, r1⟩ := g3 i u hi hu
      refine ⟨u', ?_, r1⟩
      rw [Array.getElem?_setIfInBounds_ne (fun e => ei e.symm)]
      rw [Nat.zero_add] at e1
      exact e1
  · split at hr
    case h_2 => cases hr
    rename_i hbb
    simp only [Bool.and_eq_true] at hbb
    obtain ⟨k1, k2⟩ := hbb
    have k1 := Nat.eq_of_beq_eq_true k1
    have k2 := Nat.eq_of_beq_eq_true k2
    subst k1
    subst k2
    cases hr
    have hv' : v' = .pointer (some ⟨p.B, 0, none⟩) := by
      cases r with
      | ptr hq =>
        rw [hp] at hq
        cases hq
        rw [hS]
    subst hv'
    have hcell : w.cell? ⟨p.B, 0, none⟩ = some (.pointer (some ⟨p.B, 0, none⟩)) := by rw [cell_at hc]; exact e
    have hst := calls_finish (H.used p.B w hcell) c cs
    exact ⟨_, _, ρ, hst, Ex.refl _ _, s, VR.undef ρ⟩
  · cases hr
theorem str_row (H : BuilderWalks P fC fS TS TB) {B g S cap len : Nat} {r : List UInt8} {w : World} {C : Array Value} {fz : Nat × Nat} (hrl : r.length = len) (h0 : len ≠ 0) (hle : len < 4294967296) (hcap : len ≤ cap)
    (hcell : w.cell? ⟨B, 1, none⟩ = some (.slice (some ⟨g, S, none⟩) len cap)) (hg : w.heap[g]? = some (.cells C TB fz)) (hs : S + r.length ≤ C.size) (hb : ∀ (i : Nat) (x : UInt8), r[i]? = some x → C[S + i]? = some (.int .u8 x.toNat)) :
    ∃ fz', Calls P fS #[.pointer (some ⟨B, 0, none⟩)] w fun e w' => e = .returned (.string ⟨r.toArray⟩) ∧ w' = World.wr w.drew g (.cells C TB fz') := by
  subst hrl
  have hg' : w.drew.heap[g]? = some (.cells C TB fz) := hg
  obtain ⟨fz', hf⟩ := freeze_wr (w := w.drew) (B := g) (S := S) h0 hg'
  refine ⟨fz', ?_⟩
  rw [← hf]
  refine H.row B g S cap r w (fun e => h0 (by rw [e]; rfl)) (by omega) hcell fun pt it ty hpt => ?_
  refine run_unsafeString_from w.drew pt it ty TB hpt H.one g S C.size (by simp [World.shape?, hg']) r (fun e => h0 (by rw [e]; rfl)) hs (by omega) fun j x hx => ?_
  rw [add_mk, cell_at hg']
  exact hb j x hx
theorem pString_ok (H : BuilderWalks P fC fS TS TB) : PlugOK P fS (.sum (pString (envOf P).N TS TB)) := by
  intro U ws ρ h nx w args args' v h' nx' s ha hr
  unfold pString at hr
  split at hr
  case h_2 => cases hr
  rename_i x
  split at hr
  case h_2 => cases hr
  rename_i b o
  split at hr
  case h_2 => cases hr
  rename_i ho
  have ho := Nat.eq_of_beq_eq_true ho
  subst ho
  split at hr
  case h_2 => cases hr
  rename_i t n es hg
  split at hr
  case h_2 => cases hr
  rename_i hcs
  simp only [Bool.and_eq_true] at hcs
  obtain ⟨h1, h2, h3⟩ := hcs
  have h1 := Nat.eq_of_beq_eq_true h1
  rw [Nat.blt_eq] at h2 h3
  have h1 : es = 4294967296 + TS := h1
  subst h1
  split at hr
  case h_2 => cases hr
  rename_i v0 hv0
  obtain ⟨l'⟩ := args'
  obtain ⟨p, hp, rfl⟩ := LR.ptr1 (ρ := ρ) ha.toList
  refine ⟨H.eS _ _, fun c cs => ?_⟩
  obtain ⟨ob, hc, hor⟩ := s.rel b _ p hg hp
  obtain ⟨C, elem, fz, rfl, g1, g2, g3, g4, g5, g6⟩ := hor
  obtain ⟨hS, hsz, hel⟩ := g6.1 (by omega) (by omega)
  rw [hS] at g1 g3 g4
  rw [hS]
  obtain ⟨v', e, r⟩ := g3 1 _ (by omega) hv0
  rw [Nat.zero_add] at e
  have sd : SI (envOf P).N U ws ρ h nx w.drew := s.drew (w.drawn + 1)
  split at hr
  · cases hr
    cases r
    have hst := calls_finish (H.empty p.B w (by rw [cell_at hc]; exact e)) c cs
    exact ⟨_, _, ρ, hst, Ex.refl _ _, sd, .string _⟩
  · rename_i g og len el
    split at hr
    case h_2 => cases hr
    rename_i hcs
    simp only [Bool.and_eq_true] at hcs
    obtain ⟨k1, k2, k3⟩ := hcs
    have k1 := Nat.eq_of_beq_eq_true k1
    rw [Nat.blt_eq] at k2 k3
    subst k1
    cases r with
    | slc hq hcq hnq =>
      rename_i cap q
      rw [Nat.add_zero] at e
      have hcell : w.cell? ⟨p.B, 1, none⟩ = some (.slice (some ⟨q.B, q.S, none⟩) len cap) := by rw [cell_at hc]; exact e
      split at hr
      · rename_i tg ng eg hgg
        split at hr
        case h_2 => cases hr
        rename_i hcs
        simp only [Bool.and_eq_true] at hcs
        obtain ⟨m1, m2, m3⟩ := hcs
        have m1 := Nat.le_of_ble_eq_true m1
        have m2 := Nat.eq_of_beq_eq_true m2
        have m3 := Nat.le_of_ble_eq_true m3
        subst m2
        split at hr
        case h_2 => cases hr
        rename_i l hl
        split at hr
        case h_2 => cases hr
        rename_i r hu
        cases hr
        obtain ⟨u1, u2⟩ := u8s_spec hu
        obtain ⟨n1, n2⟩ := getN_spec _ _ _ _ hl
        obtain ⟨ob, hcg, hor⟩ := s.rel g _ q hgg hq
        obtain ⟨Cg, elg, fzg, rfl, a1, a2, a3, a4, a5, a6⟩ := hor
        have hel2 : elg = TB := by
          have e0 : rowC TB 1 = 8589934592 + (TB * 65536 + 1) := rfl
          have := a6.2 (by rw [e0]; omega)
          rw [e0] at this
          rw [← this]; show (8589934592 + (TB * 65536 + 1) - 8589934592) / 65536 = TB
          omega
        subst hel2
        have hb : ∀ (i : Nat) (x : UInt8), r[i]? = some x → Cg[q.S + i]? = some (.int .u8 x.toNat) := fun i x hx => by
          have hi : i < len := by
            have := (List.getElem?_eq_some_iff.1 hx).1
            omega
          have := n2 i _ (u2 i x hx)
          rw [Nat.zero_add] at this
          obtain ⟨v'', e2, r2⟩ := a3 i _ (by omega) this
          rw [r2.int_inv] at e2
          exact e2
        obtain ⟨fz', hC⟩ := str_row H (r := r) (len := len) (by omega) (by omega) k3 hnq hcell hcg (by omega) hb
        have hst := calls_finish hC c cs
        refine ⟨_, _, ρ, hst, Ex.refl _ _, ?_, .string _⟩
        exact sd.write m1 hgg hq ⟨Cg, fz', rfl, by omega, hb⟩
      · rename_i eg r hgg
        split at hr
        case h_2 => cases hr
        rename_i hcs
        simp only [Bool.and_eq_true] at hcs
        obtain ⟨m0, m1, m2⟩ := hcs
        have m0 := Nat.le_of_ble_eq_true m0
        have m1 := Nat.eq_of_beq_eq_true m1
        have m2 := Nat.eq_of_beq_eq_true m2
        rw [lenU_eq] at m2
        subst m1
        cases hr
        obtain ⟨ob, hcg, hor⟩ := s.rel g _ q hgg hq
        obtain ⟨Cg, fzg, rfl, a1, a2⟩ := hor
        obtain ⟨fz', hC⟩ := str_row H (r := r) (len := len) m2.symm (by omega) k3 hnq hcell hcg a1 a2
        have hst := calls_finish hC c cs
        refine ⟨_, _, ρ, hst, Ex.refl _ _, ?_, .string _⟩
        exact sd.refreeze hgg hq hcg m0 fz'
      · cases hr
  · cases hr
end

def cmpG (a b : List UInt8) : Int :=
  match (List.range (min a.length b.length)).find? fun i => a[i]! != b[i]! with
  | some i => if a[i]! < b[i]! then -1 else 1
  | none => if a.length < b.length then -1 else if a.length > b.length then 1 else 0
theorem cmpG_cons (x y : UInt8) (a b : List UInt8) : cmpG (x :: a) (y :: b) = if x < y then -1 else if y < x then 1 else cmpG a b := by
  unfold cmpG
  have e : min (x :: a).length (y :: b).length = min a.length b.length + 1 := by simp only [List.length_cons]; omega
  rw [e, List.range_succ_eq_map, List.find?_cons]
  by_cases h : x = y
  · subst h
    have h1 : ((x :: a)[0]! != (x :: b)[0]!) = false := by simp
    have h2 : ¬ x < x := by simp [UInt8.lt_iff_toNat_lt]
    simp only [h1, h2, if_false, List.find?_map]
    have e2 : ((fun i => (x :: a)[i]! != (x :: b)[i]!) ∘ Nat.succ) = fun i => a[i]! != b[i]! := by
      funext i; simp
    rw [e2]
    cases (List.range (min a.length b.length)).find? fun i => a[i]! != b[i]! with
    | none => simp
    | some i => simp
  · have h1 : ((x :: a)[0]! != (y :: b)[0]!) = true := by simpa using h
    simp only [h1]
    by_cases h2 : x < y
    · simp [h2]
    · have h3 : y < x := by
        rw [UInt8.lt_iff_toNat_lt] at h2 ⊢
        have : x.toNat ≠ y.toNat := fun e => h (UInt8.toNat_inj.1 e)
        omega
      simp [h2, h3]
theorem cmpL_eq : ∀ (a b : List UInt8), cmpL a b = cmpG a b
  | [], [] => by simp [cmpG]; rfl
  | [], y :: b => by simp [cmpG]; rfl
  | x :: a, [] => by simp [cmpG]; rfl
  | x :: a, y :: b => by
    rw [cmpG_cons]
    have e : cmpL (x :: a) (y :: b) = (match Nat.blt x.toNat y.toNat with
      | true => .negSucc 0
      | false => match Nat.blt y.toNat x.toNat with
        | true => .ofNat 1
        | false => cmpL a b) := rfl
    rw [e]
    by_cases h : x < y
    · rw [if_pos h, blt_true (UInt8.lt_iff_toNat_lt.1 h)]; rfl
    · have h' : ¬ x.toNat < y.toNat := fun e => h (UInt8.lt_iff_toNat_lt.2 e)
      rw [if_neg h, blt_false (by omega)]
      by_cases h2 : y < x
      · rw [if_pos h2, blt_true (UInt8.lt_iff_toNat_lt.1 h2)]; rfl
      · have h2' : ¬ y.toNat < x.toNat := fun e => h2 (UInt8.lt_iff_toNat_lt.2 e)
        rw [if_neg h2, blt_false (by omega)]
        exact cmpL_eq a b
theorem cmp_bL (s t : ByteArray) : Extern.BytealgCompare.cmp s t = cmpG (bL s) (bL t) := by
  have hs : s.size = (bL s).length := (size_bL s).symm
  have ht : t.size = (bL t).length := (size_bL t).symm
  have hget : ∀ (s : ByteArray) (i : Nat), s[i]! = (bL s)[i]! := fun s i => by
    by_cases h2 : i < s.size
    · rw [getElem!_pos s i h2, getElem!_pos (bL s) i (by rw [← size_bL]; exact h2)]
      rfl
    · rw [getElem!_neg s i h2, getElem!_neg (bL s) i (by rw [← size_bL]; exact h2)]
  unfold Extern.BytealgCompare.cmp cmpG
  simp only [hget, hs, ht]
  rfl
theorem pCmp_ok {P : Program} {f : Nat} (he : ExternAt P f Extern.BytealgCompare.compare) : PlugOK P f (.ext pCmp) := by
  intro U ws ρ h nx w args args' s ha
  unfold pCmp
  split
  case h_2 => trivial
  rename_i x y
  split
  case h_2 => trivial
  rename_i a
  split
  case h_2 => trivial
  rename_i b
  have hl := ha.toList
  obtain ⟨l'⟩ := args'
  have hl : LR ρ [.string a, .string b] l' := hl
  obtain ⟨a', b', rfl, h1, h2⟩ := hl.two
  rw [h1.str_inv, h2.str_inv]
  have hrun := he.run #[.string a, .string b] w
  have hval : (Extern.BytealgCompare.compare #[.string a, .string b]).run P w = .ok (.int .i64 (cmpL (bL a) (bL b))) w := by
    rw [cmpL_eq, ← cmp_bL]
    rfl
  rw [hval] at hrun
  exact ⟨_, w, ρ, hrun, Ex.refl _ _, s, .int _ _⟩
theorem pMakeNoZero_ok {P : Program} {f : Nat} {ps : Array TypeId} {t e : TypeId} (he : ExternAt P f (Extern.BytealgMakeNoZero.makeNoZero ps #[t])) (ht : P.underlying t = some (.slice e)) : PlugOK P f (.ext (pMakeNoZero e)) := by
  intro U ws ρ h nx w args args' s ha
  unfold pMakeNoZero
  split
  case h_2 => trivial
  rename_i x
  split
  case h_2 => trivial
  rename_i n
  split
  case h_2 => trivial
  rename_i hn
  have hn := Nat.le_of_ble_eq_true hn
  have hl := ha.toList
  obtain ⟨l'⟩ := args'
  have hl : LR ρ [.int .i64 (.ofNat n)] l' := hl
  have : l' = [.int .i64 (.ofNat n)] := by
    cases hl with
    | cons h1 h2 => cases h2; rw [h1.int_inv]
  subst this
  obtain ⟨cs, hrun, hle, _⟩ := Lib.run_makeNoZero (P := P) w ps t e ht n (by omega)
  have hr := he.run #[.int .i64 (.ofNat n)] w
  have hrun : (Extern.BytealgMakeNoZero.makeNoZero ps #[t] #[.int .i64 (.ofNat n)]).run P w = .ok (.slice (some ⟨w.heap.size, 0, none⟩) n cs.size) (w.drew.drew.alloc (.cells cs e)) := hrun
  rw [hrun] at hr
  have hnx := s.nx_none (Nat.le_refl nx)
  let q : Pl := ⟨w.heap.size, 0, cs.size⟩
  have s1 := s.ghost hnx (.cells .leaf n (rowC e 1)) (Nat.le_succ nx)
  have ho : OR (upd ρ nx q) q (.cells .leaf n (rowC e 1)) (.cells cs e) := by
    refine ⟨cs, e, (0, 0), rfl, by simpa [q] using hle, by rw [esz_row (by decide)]; simp [q], fun i v hi hv => by simp at hv, fun i _ _ => by simp, .inr (by rw [esz_row (by decide)]; simpa [q] using hle), TyR.row (by decide)⟩
  have s2 := s1.born hnx (Nat.lt_succ_self nx) (T.get_set_self h nx _) rfl ho (w.drawn + 2)
  refine ⟨_, _, upd ρ nx q, hr, Ex.upd hnx, s2, ?_⟩
  exact VR.slc (ρ := upd ρ nx q) (o := 0) (n := n) (e := 0) (c := cs.size) (upd_self ρ nx q) (by unfold capR; simp [q]) hle
end Go.Proofs.YtmiojdppkooikaaGreatDoor.Abs
namespace Go.Proofs.YtmiojdppkooikaaGreatDoor.Abs
open Go
noncomputable def driveA (P : Program) (K : Ctx) (pl : T Plug) (ok : Value → T AObj → Nat → Bool) (fuel : Nat) (d : Nat) : AFr → List AFr → T AObj → Nat → Bool :=
  Nat.rec (motive := fun _ => AFr → List AFr → T AObj → Nat → Bool) (fun _ _ _ _ => false)
    (fun _ ih fr cs h nx => match drive P K pl fuel fr cs h nx with
      | .done v h nx => ok v h nx
      | .alts l => List.rec (motive := fun _ => Bool) true (fun S _ r => match ih S.fr S.cs S.h S.nx with
        | true => r
        | false => false) l
      | _ => false) d
noncomputable def runCallA (P : Program) (K : Ctx) (pl : T Plug) (ok : Value → T AObj → Nat → Bool) (fuel d : Nat) (f : Nat) (args : List Value) (h : T AObj) (nx : Nat) : Bool :=
  match aenter K f args .normal with
  | some fr => driveA P K pl ok fuel d fr [] h nx
  | none => false
section
variable {P : Program} {U : Nat → Prop} {ws : World} {base : Nat} {bs : List Frame} {f : Nat}
theorem driveA_ok {pl : T Plug} (hpl : PlugsOK P pl) {ok : Value → T AObj → Nat → Bool} {fuel : Nat} : ∀ (d : Nat) {fr : AFr} {cs : List AFr} {h : T AObj} {nx : Nat} {ρ : Ren} {m : Machine}, Rel P U ws base bs f ρ fr cs h nx m →
    driveA P (ctxOf P) pl ok fuel d fr cs h nx = true → ∃ v h' nx', ok v h' nx' = true ∧ RN P U ws base bs f ρ m (.done v h' nx') := by
  intro d
  induction d with
  | zero => intro fr cs h nx ρ m _ hr; cases hr
  | succ d ih =>
    intro fr cs h nx ρ m hrel hr
    have hr : (match drive P (ctxOf P) pl fuel fr cs h nx with
      | .done v h nx => ok v h nx
      | .alts l => List.rec (motive := fun _ => Bool) true (fun S _ r => match driveA P (ctxOf P) pl ok fuel d S.fr S.cs S.h S.nx with
        | true => r
        | false => false) l
      | _ => false) = true := hr
    have h1 := drive_ok hpl fuel hrel
    split at hr
    · rename_i v h' nx' e
      rw [e] at h1
      exact ⟨v, h', nx', hr, h1⟩
    · rename_i l e
      rw [e] at h1
      obtain ⟨S, m', ρ', hS, s1, s2, s3⟩ := h1
      have key : ∀ l : List St, List.rec (motive := fun _ => Bool) true (fun S _ r => match driveA P (ctxOf P) pl ok fuel d S.fr S.cs S.h S.nx with
        | true => r
        | false => false) l = true → ∀ S ∈ l, driveA P (ctxOf P) pl ok fuel d S.fr S.cs S.h S.nx = true := by
        intro l
        induction l with
        | nil => intro _ S hS; simp at hS
        | cons x l ihl =>
          intro hl S hS
          have hl : (match driveA P (ctxOf P) pl ok fuel d x.fr x.cs x.h x.nx with
            | true => List.rec (motive := fun _ => Bool) true (fun S _ r => match driveA P (ctxOf P) pl ok fuel d S.fr S.cs S.h S.nx with
              | true => r
              | false => false) l
            | false => false) = true := hl
          split at hl
          · rename_i hx
            rcases List.mem_cons.1 hS with rfl | hS
            · exact hx
            · exact ihl hl S hS
          · cases hl
      obtain ⟨v, h', nx', g1, g2⟩ := ih s3 (key l hr S hS)
      exact ⟨v, h', nx', g1, RN.trans s1 s2 g2⟩
    · cases hr
theorem runCallA_ok {pl : T Plug} (hpl : PlugsOK P pl) {ρ : Ren} {h : T AObj} {nx : Nat} {w : World} {args : List Value} {args' : Array Value} {fuel d : Nat} {ok : Value → T AObj → Nat → Bool}
    (s : SI (envOf P).N U ws ρ h nx w) (ha : AR ρ ⟨args⟩ args') (hr : runCallA P (ctxOf P) pl ok fuel d f args h nx = true) :
    (∀ w : World, (callFunc f args').run P w = .ok (.enter f args') w) ∧ ∀ bs, ∃ v h' nx' c w' v' ρ', ok v h' nx' = true ∧ Steps P (lone (Frame.enter P f args' .normal) bs w) (lone c bs w') ∧ Ex nx ρ ρ' ∧ SI (envOf P).N U ws ρ' h' nx' w' ∧ VR ρ' v v' ∧ c.fn = f ∧ c.leaving P w' (.returned v') := by
  unfold runCallA at hr
  split at hr
  case h_2 => cases hr
  rename_i fr hfr
  obtain ⟨h1, h2⟩ := aenter_ok (lo := nx) (nx := nx) ha hfr
  refine ⟨h2, fun bs => ?_⟩
  have hfn : fr.fn = f := by
    unfold aenter at hfr
    repeat' split at hfr
    all_goals first | (cases hfr; rfl) | cases hfr
  have hrel : Rel P U ws nx bs f ρ fr [] h nx (lone (Frame.enter P f args' .normal) bs w) := ⟨⟨_, [], w, nx, rfl, s, Nat.le_refl _, h1, .nil (Nat.le_refl _)⟩, hfn⟩
  obtain ⟨v, h', nx', g0, c, w', v', ρ', g1, g2, g3, g4, g5, g6, _⟩ := driveA_ok hpl d hrel hr
  exact ⟨v, h', nx', c, w', v', ρ', g0, g1, g2, g3, g4, g5, g6⟩
end
theorem SI.upTo {N : Nat} {U : Nat → Prop} {ws : World} {ρ : Ren} {h : T AObj} {nx nx' : Nat} {w : World} (s : SI N U ws ρ h nx w) (hl : nx ≤ nx') : SI N U ws ρ h nx' w :=
  ⟨s.rel, s.inj, s.bnd, fun b p hp => Nat.lt_of_lt_of_le (s.lt b p hp) hl, s.wr, s.glob, Nat.le_trans s.nle hl, s.same⟩
noncomputable def okLit (L : Lit) (v : Value) (h : T AObj) (nx : Nat) : Bool := match and (veq 8 v L.v) (Nat.ble nx L.nx1) with
  | true => allThere h L.L1
  | false => false
theorem pLit_okA {P : Program} {pl : T Plug} (hpl : PlugsOK P pl) (L : Lit) (fuel d : Nat) (hr : runCallA P (ctxOf P) pl (okLit L) fuel d L.fn L.args (putAll L.L0 .leaf) L.nx0 = true) : PlugOK P L.fn (.sum (pLit (envOf P).N L)) := by
  intro U ws ρ h nx w args args' v h' nx' s ha hp
  unfold pLit at hp
  split at hp
  case h_2 => cases hp
  rename_i e1
  have e1 := Nat.eq_of_beq_eq_true e1
  split at hp
  case h_2 => cases hp
  rename_i e2
  have e2 := allEq_ok (veq_ok 8) e2
  split at hp
  case h_2 => cases hp
  rename_i e3
  have e3 := allThere_ok e3
  split at hp
  case h_2 => cases hp
  rename_i e4
  have e4 := keysGe_ok e4
  split at hp
  case h_2 => cases hp
  rename_i e5
  have e5 := noneIn_ok e5
  cases hp
  subst e1
  subst e2
  have mem0 : ∀ b o, (putAll L.L0 (.leaf : T AObj)).get b = some o → (b, o) ∈ L.L0 := fun b o hg => by
    rcases putAll_get L.L0 .leaf b o hg with h1 | ⟨h1, _⟩
    · exact h1
    · simp at h1
  have hsub : ∀ b o, (putAll L.L0 (.leaf : T AObj)).get b = some o → h.get b = some o := fun b o hg => e3 b o (mem0 b o hg)
  obtain ⟨g1, g2⟩ := runCallA_ok hpl (s.sub hsub) ha hr
  refine ⟨g1 w, fun c cs => ?_⟩
  obtain ⟨v1, hR, nx1, c1, w', v', ρ', k0, k1, k2, k3, k4, k5, k6⟩ := g2 (c :: cs)
  unfold okLit at k0
  split at k0
  case h_2 => cases k0
  rename_i e6
  simp only [Bool.and_eq_true] at e6
  have e7 := veq_ok _ _ _ e6.1
  have e8 := Nat.le_of_ble_eq_true e6.2
  have e9 := allThere_ok k0
  subst e7
  refine ⟨v', w', ρ', Steps.trans k1 (.one (step_leave_returned k6)), k2, ?_, k4⟩
  exact s.framed hsub (fun b o hg => ⟨o, mem0 b o hg⟩) k2 (k3.upTo e8) e9 e4 (fun b h1 h2 => e5 b h1 (by show b < L.nx0 + (L.nx1 - L.nx0); omega))
end Go.Proofs.YtmiojdppkooikaaGreatDoor.Abs
namespace Go.Proofs.YtmiojdppkooikaaGreatDoor.Abs
open Go
/-- an array of texts that reads as listed holds the texts, cell for cell. -/
theorem cells_of_strs {H : Type} {enc : TypeId × Value → H} {P : Program} {w : World} {base : Nat} {sp : Nat → Bool} {held : Bool} {fuel : Nat} {t e : TypeId} {n : Nat} {cs : List Value} {zs : List (List UInt8)} {p : List MemPlace}
    (ht : P.underlying t = some (.array n e)) (he : P.underlying e = some .string) (hce : P.cellsOf e = 1)
    (h : DataW.trod enc P w base sp held fuel t cs = some (.agg (zs.map fun z => .lit (.string z)), p)) : ∀ (i : Nat) (z : List UInt8), zs[i]? = some z → cs[i]? = some (.string (mkB z)) := by
  cases fuel with
  | zero => simp [DataW.trod] at h
  | succ fuel =>
    simp only [DataW.trod, ht, hce, Nat.mul_one] at h
    split at h
    · rename_i hl
      obtain ⟨xs, hm, hx⟩ := Option.map_eq_some_iff.1 h
      have hxs : xs.map (·.1) = zs.map fun z => (DataW.lit (.string z) : DataW H) := by
        have := congrArg Prod.fst hx
        simpa using this
      have hxl : xs.length = n := by simpa using Lib.mapM_length hm
      have hzl : zs.length = n := by
        have := congrArg List.length hxs
        simp at this
        omega
      intro i z hz
      have hi : i < n := by
        have := (List.getElem?_eq_some_iff.1 hz).1
        omega
      obtain ⟨b, hb, hf⟩ := Lib.mapM_at hm i i (by simp [hi])
      obtain ⟨s, hc, rfl, _⟩ := DataW.trod_string he hf
      have h1 : cs[i]? = some (.string s) := by
        have := congrArg (·[0]?) hc
        simpa [List.getElem?_take, List.getElem?_drop] using this
      have h2 : (xs.map (·.1))[i]? = some (DataW.lit (.string s.data.toList) : DataW H) := by simp [hb]
      rw [hxs] at h2
      simp only [List.getElem?_map, hz, Option.map_some, Option.some.injEq, DataW.lit.injEq, Lit.string.injEq] at h2
      rw [h1, h2]
      rfl
    · cases h
theorem laid_vars {P : Program} {W : World} {name : String} {d : DataW Unit} : ∀ {l : List (String × DataW Unit)} {ps : List MemPlace}, DataW.LaidVars P W l ps → (name, d) ∈ l →
    ∃ g t cs fuel p, P.globalNamed name = some g ∧ (P.globals[g]?).map (·.type) = some t ∧ W.var? P name = some cs ∧ DataW.trod (fun _ => ()) P W 0 (fun _ => true) false fuel t cs.toList = some (d, p) ∧ ∀ x ∈ MemPlace.row ⟨g, 0, none⟩ cs.size, x ∈ ps
  | [], _, _, hm => by simp at hm
  | (n, d') :: r, ps, h, hm => by
    obtain ⟨g, t, cs, fuel, p, q, h1, h2, h3, h4, h5, rfl⟩ := h
    rcases List.mem_cons.1 hm with e | hm
    · cases e
      exact ⟨g, t, cs, fuel, p, h1, h2, h3, h4, fun x hx => by simp [hx]⟩
    · obtain ⟨g', t', cs', fuel', p', k1, k2, k3, k4, k5⟩ := laid_vars h5 hm
      exact ⟨g', t', cs', fuel', p', k1, k2, k3, k4, fun x hx => by simp [k5 x hx]⟩
/-- a block of variables' cells, known. -/
def LaidAt (W : World) (g : Nat) (vals : List Value) : Prop := ∃ C t, W.heap[g]? = some (.cells C t (0, 0)) ∧ ∀ (i : Nat) (v : Value), vals[i]? = some v → C[i]? = some v
theorem laidAt_of {P : Program} {W : World} {name : String} {d : DataW Unit} {l : List (String × DataW Unit)} (h : laidMet P l W) (hm : (name, d) ∈ l) {g t : Nat} (hg : P.globalNamed name = some g) (ht : (P.globals[g]?).map (·.type) = some t)
    {vals : List Value} (h0 : vals ≠ []) (hv : ∀ (fuel : Nat) (cs : List Value) (p : List MemPlace), DataW.trod (fun _ => ()) P W 0 (fun _ => true) false fuel t cs = some (d, p) → ∀ (i : Nat) (v : Value), vals[i]? = some v → cs[i]? = some v) : LaidAt W g vals := by
  obtain ⟨ps, h1, _, h3⟩ := h
  obtain ⟨g', t', cs, fuel, p, k1, k2, k3, k4, k5⟩ := laid_vars h1 hm
  obtain rfl := Option.some.inj (hg.symm.trans k1)
  obtain rfl := Option.some.inj (ht.symm.trans k2)
  have hall := hv fuel cs.toList p k4
  have hpos : 0 < cs.size := by
    cases vals with
    | nil => exact absurd rfl h0
    | cons x r =>
      have := hall 0 x rfl
      have := (List.getElem?_eq_some_iff.1 this).1
      simpa using this
  have hmem : MemPlace.cell g 0 ∈ MemPlace.row ⟨g, 0, none⟩ cs.size := by
    unfold MemPlace.row
    simpa using hpos
  obtain ⟨⟨c, ty, hc⟩, _⟩ := h3 g 0 (k5 _ hmem)
  refine ⟨c, ty, hc, fun i v hi => ?_⟩
  have e1 := World.var?_cell hg k3 i
  have e2 := hall i v hi
  rw [cell_at hc] at e1
  rw [e1]
  simpa using e2
theorem laidAt_strs {P : Program} {W : World} {name : String} {l : List (String × DataW Unit)} {zs : List (List UInt8)} (h : laidMet P l W) (hm : (name, .agg (zs.map fun z => .lit (.string z))) ∈ l) {g t e n : Nat} (hg : P.globalNamed name = some g) (hty : (P.globals[g]?).map (·.type) = some t)
    (ht : P.underlying t = some (.array n e)) (he : P.underlying e = some .string) (hce : P.cellsOf e = 1) (h0 : zs ≠ []) : LaidAt W g (zs.map fun z => .string (mkB z)) :=
  laidAt_of h hm hg hty (by simpa using h0) fun fuel cs p hd i v hi => by
    rw [List.getElem?_map] at hi
    obtain ⟨z, hz, rfl⟩ := Option.map_eq_some_iff.1 hi
    exact cells_of_strs ht he hce hd i z hz
theorem laidAt_ints {P : Program} {W : World} {name : String} {l : List (String × DataW Unit)} {k : IntKind} {zs : List Int} (h : laidMet P l W) (hm : (name, Lib.tabData k zs) ∈ l) {g t e n : Nat} (hg : P.globalNamed name = some g) (hty : (P.globals[g]?).map (·.type) = some t)
    (ht : P.underlying t = some (.array n e)) (he : P.underlying e = some (.int k)) (hce : P.cellsOf e = 1) (hct : P.cellsOf t = n) (h0 : zs ≠ []) : LaidAt W g (zs.map fun z => .int k z) :=
  laidAt_of h hm hg hty (by simpa using h0) fun fuel cs p hd i v hi => by
    rw [Lib.cells_of_tab ht he hce hct hd]
    exact hi
/-- THE START: the listed variables' blocks, and nothing else. -/
theorem start_laid {N : Nat} {W : World} (hW : N ≤ W.heap.size) (L : List (Nat × List Value)) (hL : ∀ x ∈ L, x.1 < N ∧ LaidAt W x.1 x.2) (hp : ∀ x ∈ L, ∀ v ∈ x.2, pureV 3 v = true) :
    SI N (fun _ => False) W (fun b => if b < N then some ⟨b, 0, 0⟩ else none) (putAll (L.map fun x => (x.1, .cells (T.ofList x.2) (lenF x.2) 0)) .leaf) N W := by
  have look : ∀ b o, (putAll (L.map fun x => (x.1, (.cells (T.ofList x.2) (lenF x.2) 0 : AObj))) .leaf).get b = some o → ∃ x ∈ L, x.1 = b ∧ o = .cells (T.ofList x.2) (lenF x.2) 0 := fun b o e => by
    rcases putAll_get _ _ b o e with h | ⟨h, _⟩
    · obtain ⟨x, hx, e⟩ := List.mem_map.1 h
      cases e
      exact ⟨x, hx, rfl, rfl⟩
    · simp at h
  refine ⟨fun b o p h hr => ?_, fun b₁ b₂ o₁ o₂ p₁ p₂ h1 h2 r1 r2 e => ?_, fun b p h => ?_, fun b p h => ?_, fun b o p hN h hr => ?_, fun b h => ⟨0, by simp [h]⟩, Nat.le_refl _, ⟨Nat.le_refl _, fun _ _ _ => rfl, rfl, rfl, rfl⟩⟩
  · obtain ⟨x, hx, rfl, rfl⟩ := look b o h
    obtain ⟨hlt, C, t, hC, hv⟩ := hL x hx
    simp only [hlt, if_true, Option.some.injEq] at hr
    subst hr
    have hsz : x.2.length ≤ C.size := by
      rcases Nat.lt_or_ge C.size x.2.length with hh | hh
      · have := hv C.size x.2[C.size] (by simp [hh])
        have := (Array.getElem?_eq_some_iff.1 this).1
        omega
      · exact hh
    refine ⟨_, hC, C, t, (0, 0), rfl, by simpa [lenF_eq] using hsz, by simp [esz_lt], fun i v hi hg => ?_, fun i _ _ => by simp, .inl (esz_lt (by decide)), TyR.low (by decide)⟩
    rw [T.get_ofList] at hg
    refine ⟨v, by simpa using hv i v hg, pureV_VR _ 3 v (hp x hx v ?_)⟩
    exact List.mem_iff_getElem?.2 ⟨i, hg⟩
  · split at r1
    · split at r2
      · cases r1; cases r2; exact e
      · cases r2
    · cases r1
  · split at h
    · cases h; simp only; omega
    · cases h
  · split at h
    · assumption
    · cases h
  · obtain ⟨x, hx, rfl, rfl⟩ := look b o h
    have := (hL x hx).1
    omega
end Go.Proofs.YtmiojdppkooikaaGreatDoor.Abs
