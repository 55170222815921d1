/- A part of the proof that EngineNil returns true. This part: a machine that computes on pictures of Go memory, each of whose steps is shown to be matched by the model; no conditions. -/
import Derived.Test.YtmiojdppkooikaaGreatDoorAbsB
namespace Go.Proofs.YtmiojdppkooikaaGreatDoor.Abs
open Go

section
variable {P : Program} {N : Nat} {U : Nat → Prop} {ws : World} {ρ : Ren} {h : T AObj} {nx : Nat} {w : World} {id : Nat}

/- ---------- numbers ---------- -/
def pow2 (n : Nat) : Nat := Nat.pow 2 n
def bitsOf : IntKind → Nat
  | .i8 => 8 | .u8 => 8 | .i16 => 16 | .u16 => 16 | .i32 => 32 | .u32 => 32 | .i64 => 64 | .u64 => 64
theorem bitsOf_eq (k : IntKind) : bitsOf k = k.bits := by cases k <;> rfl
noncomputable def bitOp (f : Nat → Nat → Nat) (slow : Int) (k : IntKind) (x y : Int) : Value :=
  match x, y with
  | .ofNat a, .ofNat b => match Nat.blt a (pow2 (bitsOf k)) with
    | true => match Nat.blt b (pow2 (bitsOf k)) with
      | true => .int k (wrapF k (.ofNat (f a b)))
      | false => .int k slow
    | false => .int k slow
  | _, _ => .int k slow
noncomputable def shrI (x : Int) (n : Nat) : Int :=
  match x with
  | .ofNat a => .ofNat (Nat.div a (pow2 n))
  | _ => x.fdiv (2 ^ n)
noncomputable def shlI (x : Int) (n : Nat) : Int :=
  match x with
  | .ofNat a => .ofNat (Nat.mul a (pow2 n))
  | _ => x * 2 ^ n
theorem shrI_eq (x : Int) (n : Nat) : shrI x n = x.fdiv (2 ^ n) := by
  cases x with
  | ofNat a =>
    show (Int.ofNat (a / 2 ^ n)) = _
    rw [Int.fdiv_eq_ediv_of_nonneg _ (Int.pow_nonneg (by decide))]
    simp
  | negSucc a => rfl
theorem shlI_eq (x : Int) (n : Nat) : shlI x n = x * 2 ^ n := by
  cases x with
  | ofNat a =>
    show (Int.ofNat (a * 2 ^ n)) = _
    simp
  | negSucc a => rfl
theorem bv_toNat {k : IntKind} {a : Nat} (h : a < 2 ^ k.bits) : (BitVec.ofInt k.bits (Int.ofNat a)) = BitVec.ofNat k.bits a := by
  simp
theorem bitOp_ok {f : Nat → Nat → Nat} {g : ∀ n, BitVec n → BitVec n → BitVec n} {k : IntKind} {x y : Int}
    (hg : ∀ a b : Nat, a < 2 ^ k.bits → b < 2 ^ k.bits → (g k.bits (BitVec.ofNat k.bits a) (BitVec.ofNat k.bits b)).toNat = f a b) :
    bitOp f (k.wrap ((g k.bits (BitVec.ofInt k.bits x) (BitVec.ofInt k.bits y)).toNat)) k x y = .int k (k.wrap ((g k.bits (BitVec.ofInt k.bits x) (BitVec.ofInt k.bits y)).toNat)) := by
  unfold bitOp
  split
  · rename_i a b
    split
    · rename_i ha
      split
      · rename_i hb
        have ha : a < 2 ^ k.bits := by rw [← bitsOf_eq]; simpa [Nat.blt_eq, pow2] using ha
        have hb : b < 2 ^ k.bits := by rw [← bitsOf_eq]; simpa [Nat.blt_eq, pow2] using hb
        rw [wrapF_eq, bv_toNat ha, bv_toNat hb, hg a b ha hb]
        rfl
      · rfl
    · rfl
  · rfl
noncomputable def intOp (op : BinOp) (k k' : IntKind) (x y : Int) : Option Value :=
  match op with
  | .add => some (.int k (wrapF k (Int.add x y)))
  | .sub => some (.int k (wrapF k (Int.sub x y)))
  | .mul => some (.int k (wrapF k (Int.mul x y)))
  | .eql => some (.bool (eqI x y))
  | .neq => some (.bool (not (eqI x y)))
  | .lss => some (.bool (ltI x y))
  | .leq => some (.bool (not (ltI y x)))
  | .gtr => some (.bool (ltI y x))
  | .geq => some (.bool (not (ltI x y)))
  | .and => some (bitOp Nat.land (k.wrap ((BitVec.ofInt k.bits x &&& BitVec.ofInt k.bits y).toNat)) k x y)
  | .or => some (bitOp Nat.lor (k.wrap ((BitVec.ofInt k.bits x ||| BitVec.ofInt k.bits y).toNat)) k x y)
  | .xor => some (bitOp Nat.xor (k.wrap ((BitVec.ofInt k.bits x ^^^ BitVec.ofInt k.bits y).toNat)) k x y)
  | .andNot => some (.int k (k.wrap ((BitVec.ofInt k.bits x &&& ~~~(BitVec.ofInt k.bits y)).toNat)))
  | .quo => match eqI y 0 with
    | true => none
    | false => some (.int k (wrapF k (Int.tdiv x y)))
  | .rem => match eqI y 0 with
    | true => none
    | false => some (.int k (Int.tmod x y))
  | .shl => match y with
    | .ofNat n => some (.int k (wrapF k (shlI x (Nat.min n (bitsOf k)))))
    | _ => none
  | .shr => match y with
    | .ofNat n => some (.int k (shrI x (Nat.min n (bitsOf k))))
    | _ => none
def isShift : BinOp → Bool
  | .shl => true
  | .shr => true
  | _ => false
def sameKind (k k' : IntKind) : Bool :=
  match k, k' with
  | .i8, .i8 | .i16, .i16 | .i32, .i32 | .i64, .i64 | .u8, .u8 | .u16, .u16 | .u32, .u32 | .u64, .u64 => true
  | _, _ => false
theorem sameKind_eq {k k' : IntKind} (h : sameKind k k' = true) : k = k' := by cases k <;> cases k' <;> first | rfl | cases h
theorem intOp_ok {op : BinOp} {t : TypeId} {k k' : IntKind} {x y : Int} {v : Value} (h : intOp op k k' x y = some v) (hk : isShift op = true ∨ sameKind k k' = true) :
    (binOp op t (.int k x) (.int k' y)).run P w = .ok v w := by
  have hkk : isShift op = false → k = k' := fun h => by
    rcases hk with h' | h'
    · rw [h'] at h; cases h
    · exact sameKind_eq h'
  cases op
  case shl =>
    simp only [intOp] at h
    split at h
    · rename_i n
      cases h
      have : ¬ ((Int.ofNat n) < 0) := by simp
      simp only [binOp, Op.shift, this, if_false, Int.ofNat_eq_natCast, Int.toNat_natCast, wrapF_eq, shlI_eq, bitsOf_eq]
      rfl
    · cases h
  case shr =>
    simp only [intOp] at h
    split at h
    · rename_i n
      cases h
      have : ¬ ((Int.ofNat n) < 0) := by simp
      simp only [binOp, Op.shift, this, if_false, Int.ofNat_eq_natCast, Int.toNat_natCast, shrI_eq, bitsOf_eq]
      rfl
    · cases h
  case quo =>
    obtain rfl := hkk rfl
    simp only [intOp] at h
    split at h
    · cases h
    · rename_i h0
      cases h
      rw [eqI_eq] at h0
      have h0 : y ≠ 0 := by simpa using h0
      simp only [binOp, Op.intDiv, h0, if_false, wrapF_eq]
      simp
  case rem =>
    obtain rfl := hkk rfl
    simp only [intOp] at h
    split at h
    · cases h
    · rename_i h0
      cases h
      rw [eqI_eq] at h0
      have h0 : y ≠ 0 := by simpa using h0
      simp only [binOp, Op.intDiv, h0, if_false]
      simp
  case and =>
    obtain rfl := hkk rfl
    simp only [intOp, Option.some.injEq] at h
    subst h
    rw [bitOp_ok (g := fun n a b => a &&& b) (fun a b ha hb => by simp [BitVec.toNat_and, Nat.mod_eq_of_lt ha, Nat.mod_eq_of_lt hb])]
    simp only [binOp, Op.intBits]
    simp
  case or =>
    obtain rfl := hkk rfl
    simp only [intOp, Option.some.injEq] at h
    subst h
    rw [bitOp_ok (g := fun n a b => a ||| b) (fun a b ha hb => by simp [BitVec.toNat_or, Nat.mod_eq_of_lt ha, Nat.mod_eq_of_lt hb])]
    simp only [binOp, Op.intBits]
    simp
  case xor =>
    obtain rfl := hkk rfl
    simp only [intOp, Option.some.injEq] at h
    subst h
    rw [bitOp_ok (g := fun n a b => a ^^^ b) (fun a b ha hb => by simp [BitVec.toNat_xor, Nat.mod_eq_of_lt ha, Nat.mod_eq_of_lt hb])]
    simp only [binOp, Op.intBits]
    simp
  all_goals
    obtain rfl := hkk rfl
    simp only [intOp, Option.some.injEq] at h
    subst h
    simp only [binOp, Op.intArith, Op.intBits, Op.intCmp, wrapF_eq, eqI_eq, ltI_eq]
    simp
    try first
      | rfl
      | (rw [← decide_not]; congr 1; apply propext; omega)

/- ---------- comparisons ---------- -/
def isConst : Operand → Bool
  | .const _ => true
  | _ => false
/-- x == y where one of the two may be nil; none: not told. -/
def nilEq (d : TypeDesc) (x y : Value) : Option Bool :=
  match d with
  | .pointer _ => match x with
    | .pointer none => match y with
      | .pointer none => some true
      | .pointer (some _) => some false
      | _ => none
    | .pointer (some _) => match y with
      | .pointer none => some false
      | _ => none
    | _ => none
  | .slice _ => match x with
    | .slice none _ _ => match y with
      | .slice none _ _ => some true
      | .slice (some _) _ _ => some false
      | _ => none
    | .slice (some _) _ _ => match y with
      | .slice none _ _ => some false
      | _ => none
    | _ => none
  | .map _ _ => match x with
    | .map none => match y with
      | .map none => some true
      | .map (some _) => some false
      | _ => none
    | .map (some _) => match y with
      | .map none => some false
      | _ => none
    | _ => none
  | .interface _ => match x with
    | .nilIface => match y with
      | .nilIface => some true
      | .iface _ _ => some false
      | _ => none
    | .iface _ _ => match y with
      | .nilIface => some false
      | _ => none
    | _ => none
  | .func _ _ _ => match x with
    | .nilFunc => match y with
      | .nilFunc => some true
      | .func _ _ _ => some false
      | _ => none
    | .func _ _ _ => match y with
      | .nilFunc => some false
      | _ => none
    | _ => none
  | .bool => match x with
    | .bool a => match y with
      | .bool b => some (match a with | true => b | false => not b)
      | _ => none
    | _ => none
  | _ => none
theorem nilEq_ok {t : TypeId} {x : TI} (ht : TyOK P t x) {a b a' b' : Value} (ha : VR ρ a a') (hb : VR ρ b b') {r : Bool} (h : nilEq x.desc a b = some r) :
    (Op.equal t a' b').run P w = .ok r w := by
  have hu := ht.run_und (w := w)
  unfold Op.equal Op.maxDepth Op.equalIn
  simp only [Sem.run_bind, hu, Result.andThen_ok]
  unfold nilEq at h
  split at h
  all_goals (try (cases h; done))
  all_goals
    rename_i hd
    rw [hd]
    split at h
    all_goals (try (cases h; done))
    all_goals
      split at h
      all_goals (try (cases h; done))
      all_goals
        cases ha <;> cases hb <;> simp only [Option.some.injEq] at h <;> subst h <;>
        first
          | rfl
          | (simp; done)
          | (simp only [Sem.run_pure, Result.ok.injEq, and_true]; rename_i b1 _ b2; cases b1 <;> cases b2 <;> rfl)
          | (rename_i p q; cases p <;> cases q <;> (first | rfl | (simp; done)))
          | (rename_i p; cases p <;> (first | rfl | (simp; done)))

theorem pure_all {vs vs' : List Value} (h : LR ρ vs vs') (hp : vs.all (pureV 3) = true) : vs' = vs := by
  induction h with
  | nil => rfl
  | cons hv ht ih =>
    simp only [List.all_cons, Bool.and_eq_true] at hp
    rw [pureV_eq hp.1 hv, ih hp.2]

/-- x op y; ox, oy: is one of the operands a constant. -/
noncomputable def qBin (P : Program) (E : Env) (op : BinOp) (t : Nat) (ox oy : Operand) (x y : Value) : QR :=
  match x with
  | .int k a => match y with
    | .int k' b => match or (isShift op) (sameKind k k') with
      | true => match intOp op k k' a b with
        | some v => .val v
        | none => .fail
      | false => .fail
    | _ => .fail
  | .string a => match y with
    | .string b => match strOp op a b with
      | some v => .val v
      | none => .fail
    | _ => .fail
  | _ =>
    match op with
    | .eql => eqs false
    | .neq => eqs true
    | _ => .fail
where
  eqs (neg : Bool) : QR :=
    match or (isConst ox) (isConst oy) with
    | true => match E.ti t with
      | some d => match nilEq d.desc x y with
        | some r => .val (.bool (Bool.rec r (not r) neg))
        | none => slow neg d
      | none => .fail
    | false => match E.ti t with
      | some d => match d.desc with
        | .interface _ => .fail
        | _ => match nilEq d.desc x y with
          | some r => .val (.bool (Bool.rec r (not r) neg))
          | none => slow neg d
      | none => .fail
  slow (neg : Bool) (_d : TI) : QR :=
    match and (pureV 3 x) (pureV 3 y) with
    | true => match pureRun P (do eqGuard (Bool.rec .eql .neq neg) t ox oy x y; binOp (Bool.rec .eql .neq neg) t x y) with
      | some (.bool b) => .val (.bool b)
      | _ => .fail
    | false => .fail
theorem eqGuard_skip {op : BinOp} {t : TypeId} {ox oy : Operand} {x y : Value} (h : op ≠ .eql ∧ op ≠ .neq ∨ (∀ a b, ¬ (x = .nilIface ∧ y = .nilIface) ∧ ¬ (x = .agg a ∧ y = .agg b))) :
    (eqGuard op t ox oy x y).run P w = .ok () w := by
  unfold eqGuard
  by_cases ho : op = .eql ∨ op = .neq
  · have h2 : ∀ a b, ¬ (x = .nilIface ∧ y = .nilIface) ∧ ¬ (x = .agg a ∧ y = .agg b) := h.resolve_left (fun hh => by rcases ho with h1 | h1; exact hh.1 h1; exact hh.2 h1)
    clear h
    rcases ho with rfl | rfl
    all_goals
     cases x <;> cases y <;> first
      | rfl
      | exact absurd (And.intro rfl rfl) (h2 #[] #[]).1
      | exact absurd (And.intro rfl rfl) (h2 _ _).2
  · cases op <;> first | rfl | exact absurd (Or.inl rfl) ho | exact absurd (Or.inr rfl) ho
theorem eqGuard_const {op : BinOp} {t : TypeId} {ox oy : Operand} {x y : Value} (h : isConst ox = true ∨ isConst oy = true) (hn : ∀ a b, ¬ (x = .agg a ∧ y = .agg b)) :
    (eqGuard op t ox oy x y).run P w = .ok () w := by
  by_cases hx : x = .nilIface ∧ y = .nilIface
  · obtain ⟨rfl, rfl⟩ := hx
    unfold eqGuard
    rcases h with h | h
    · cases ox <;> first | (cases h; done) | (cases op <;> rfl)
    · cases oy <;> first | (cases h; done) | (cases ox <;> cases op <;> rfl)
  · exact eqGuard_skip (.inr fun a b => ⟨hx, hn a b⟩)
theorem bin_eq_run {x y : Value} {t : TypeId} (hx : ∀ k a, x ≠ .int k a) (hxs : ∀ a, x ≠ .string a) (hf : ∀ k a, x ≠ .float k a) (hc : ∀ k a b, x ≠ .complex k a b) (neg : Bool) :
    (binOp (Bool.rec .eql .neq neg) t x y).run P w = ((Op.equal t x y).run P w).andThen fun r w => .ok (.bool (Bool.rec r (not r) neg)) w := by
  cases neg
  · show (binOp .eql t x y).run P w = _
    cases x <;> first
      | exact absurd rfl (hx _ _)
      | exact absurd rfl (hxs _)
      | exact absurd rfl (hf _ _)
      | exact absurd rfl (hc _ _ _)
      | (simp only [binOp, Sem.run_bind, Sem.run_pure]; done)
      | (cases y <;> (simp only [binOp, Sem.run_bind, Sem.run_pure]; done))
  · show (binOp .neq t x y).run P w = _
    cases x <;> first
      | exact absurd rfl (hx _ _)
      | exact absurd rfl (hxs _)
      | exact absurd rfl (hf _ _)
      | exact absurd rfl (hc _ _ _)
      | (simp only [binOp, Sem.run_bind, Sem.run_pure]; done)
      | (cases y <;> (simp only [binOp, Sem.run_bind, Sem.run_pure]; done))
theorem nilEq_shape {d : TypeDesc} {x y : Value} {r : Bool} (h : nilEq d x y = some r) :
    (∀ k a, x ≠ .int k a) ∧ (∀ a, x ≠ .string a) ∧ (∀ k a, x ≠ .float k a) ∧ (∀ k a b, x ≠ .complex k a b) ∧ (∀ a b, ¬ (x = .agg a ∧ y = .agg b)) ∧
      ((∃ ms, d = .interface ms) ∨ ¬ (x = .nilIface ∧ y = .nilIface)) := by
  unfold nilEq at h
  split at h
  all_goals (try (cases h; done))
  all_goals
    split at h
    all_goals (try (cases h; done))
    all_goals
      refine ⟨by intros; simp, by intros; simp, by intros; simp, by intros; simp, by intros; simp, ?_⟩
      first | exact .inl ⟨_, rfl⟩ | exact .inr (by simp)
theorem qBin_ok {op : BinOp} {t : Nat} {ox oy : Operand} {x y x' y' : Value} (hx : VR ρ x x') (hy : VR ρ y y') :
    QV P (do eqGuard op t ox oy x' y'; binOp op t x' y') ρ id w (qBin P (envOf P) op t ox oy x y) := by
  have eqsOK : ∀ neg, op = Bool.rec .eql .neq neg → QV P (do eqGuard op t ox oy x' y'; binOp op t x' y') ρ id w (qBin.eqs P (envOf P) t ox oy x y neg) := by
    intro neg hop
    have slowOK : ∀ d, QV P (do eqGuard op t ox oy x' y'; binOp op t x' y') ρ id w (qBin.slow P t ox oy x y neg d) := by
      intro d
      unfold qBin.slow
      split
      · rename_i hp
        have hp : pureV 3 x = true ∧ pureV 3 y = true := by simpa using hp
        split
        · rename_i b hr
          rw [pureV_eq hp.1 hx, pureV_eq hp.2 hy, hop]
          exact ⟨_, pureRun_ok hr w, .bool b⟩
        · trivial
      · trivial
    have done_ : ∀ d r, TyOK P t d → nilEq d.desc x y = some r → (isConst ox = true ∨ isConst oy = true ∨ ¬ ∃ ms, d.desc = .interface ms) →
        QV P (do eqGuard op t ox oy x' y'; binOp op t x' y') ρ id w (.val (.bool (Bool.rec r (not r) neg))) := by
      intro d r hd hr hcase
      obtain ⟨s1, s2, s3, s4, s5, s6⟩ := nilEq_shape hr
      have t1 : ∀ k a, x' ≠ .int k a := fun k a e => by subst e; cases hx; exact s1 _ _ rfl
      have t2 : ∀ a, x' ≠ .string a := fun a e => by subst e; cases hx; exact s2 _ rfl
      have t3 : ∀ k a, x' ≠ .float k a := fun k a e => by subst e; cases hx; exact s3 _ _ rfl
      have t4 : ∀ k a b, x' ≠ .complex k a b := fun k a b e => by subst e; cases hx; exact s4 _ _ _ rfl
      have t5 : ∀ a b, ¬ (x' = .agg a ∧ y' = .agg b) := fun a b e => by
        obtain ⟨rfl, rfl⟩ := e; cases hx; cases hy; exact s5 _ _ ⟨rfl, rfl⟩
      have g : (eqGuard op t ox oy x' y').run P w = .ok () w := by
        rcases hcase with h1 | h1 | h1
        · exact eqGuard_const (.inl h1) t5
        · exact eqGuard_const (.inr h1) t5
        · refine eqGuard_skip (.inr fun a b => ⟨fun e => ?_, t5 a b⟩)
          obtain ⟨rfl, rfl⟩ := e
          cases hx; cases hy
          exact (s6.resolve_left h1) ⟨rfl, rfl⟩
      refine ⟨_, ?_, .bool _⟩
      simp only [Sem.run_bind, g, Result.andThen_ok]
      rw [hop, bin_eq_run t1 t2 t3 t4, nilEq_ok hd hx hy hr]
      rfl
    unfold qBin.eqs
    split
    · rename_i hc
      have hc : isConst ox = true ∨ isConst oy = true := by simpa using hc
      split
      · rename_i d hd
        split
        · rename_i r hr
          exact done_ d r (ti_ok hd) hr (by rcases hc with h | h; exact .inl h; exact .inr (.inl h))
        · exact slowOK d
      · trivial
    · split
      · rename_i d hd
        split
        · trivial
        · rename_i hni
          split
          · rename_i r hr
            exact done_ d r (ti_ok hd) hr (.inr (.inr fun ⟨ms, e⟩ => hni ms e))
          · exact slowOK d
      · trivial
  unfold qBin
  split
  · rename_i k a
    cases hx
    split
    case h_2 => trivial
    rename_i k' b
    cases hy
    split
    case h_2 => trivial
    rename_i hk
    have hk : isShift op = true ∨ sameKind k k' = true := by simpa using hk
    split
    case h_2 => trivial
    rename_i v hv
    have g : (eqGuard op t ox oy (.int k a) (.int k' b)).run P w = .ok () w := eqGuard_skip (.inr fun a b => ⟨by simp, by simp⟩)
    refine ⟨v, ?_, ?_⟩
    · simp only [Sem.run_bind, g, Result.andThen_ok]
      exact intOp_ok hv hk
    · have : (∃ b, v = .bool b) ∨ ∃ k z, v = .int k z := by
        unfold intOp at hv
        have hb : ∀ f s k x y, ∃ k' z, bitOp f s k x y = .int k' z := fun f s k x y => by
          unfold bitOp
          (repeat' split) <;> exact ⟨_, _, rfl⟩
        split at hv <;> (try split at hv) <;> first
          | (cases hv; done)
          | (cases hv; exact .inl ⟨_, rfl⟩)
          | (cases hv; exact .inr ⟨_, _, rfl⟩)
          | (cases hv; obtain ⟨k', z, e⟩ := hb _ _ _ _ _; rw [e]; exact .inr ⟨_, _, rfl⟩)
      rcases this with ⟨b, rfl⟩ | ⟨k, z, rfl⟩
      · exact .bool b
      · exact .int k z
  · rename_i a
    cases hx
    split
    case h_2 => trivial
    rename_i b
    cases hy
    split
    case h_2 => trivial
    rename_i v hv
    have g : (eqGuard op t ox oy (.string a) (.string b)).run P w = .ok () w := eqGuard_skip (.inr fun a b => ⟨by simp, by simp⟩)
    have hb : (binOp op t (.string a) (.string b)) = Op.stringOp op a b := by cases op <;> rfl
    refine ⟨v, ?_, ?_⟩
    · simp only [Sem.run_bind, g, Result.andThen_ok, hb]
      exact strOp_ok hv w
    · unfold strOp at hv
      split at hv <;> (try split at hv) <;> first
        | (cases hv; done)
        | (cases hv; exact .bool _)
        | (cases hv; exact .string _)
  · split
    · exact eqsOK false rfl
    · exact eqsOK true rfl
    · trivial
end
end Go.Proofs.YtmiojdppkooikaaGreatDoor.Abs
namespace Go.Proofs.YtmiojdppkooikaaGreatDoor.Abs
open Go

section
variable {P : Program} {N : Nat} {U : Nat → Prop} {ws : World} {ρ : Ren} {h : T AObj} {nx : Nat} {w : World} {id : Nat}

noncomputable def qUn (op : UnOp) (x : Value) : QR :=
  match op with
  | .not => match x with
    | .bool b => .val (.bool (not b))
    | _ => .fail
  | .neg => match x with
    | .int k n => .val (.int k (wrapF k (Int.sub 0 n)))
    | _ => .fail
  | .xor => match x with
    | .int k n => .val (bitOp Nat.xor (k.wrap ((BitVec.ofInt k.bits (if k.signed then -1 else k.max) ^^^ BitVec.ofInt k.bits n).toNat)) k (if k.signed then -1 else k.max) n)
    | _ => .fail
  | .plus => .fail
theorem qUn_ok {op : UnOp} {x x' : Value} (hx : VR ρ x x') : QV P (Op.unary op x') ρ id w (qUn op x) := by
  unfold qUn
  split
  · split
    · cases hx; exact ⟨_, rfl, .bool _⟩
    · trivial
  · split
    · cases hx
      refine ⟨_, ?_, .int _ _⟩
      simp only [Op.unary, Op.intArith, wrapF_eq]
      rfl
    · trivial
  · split
    · rename_i k n
      cases hx
      rw [bitOp_ok (g := fun n a b => a ^^^ b) (fun a b ha hb => by simp [BitVec.toNat_xor, Nat.mod_eq_of_lt ha, Nat.mod_eq_of_lt hb])]
      exact ⟨_, rfl, .int _ _⟩
    · trivial
  · trivial

/- ---------- conversions ---------- -/
noncomputable def byteVals (l : List UInt8) : List Value := List.rec (motive := fun _ => List Value) [] (fun b _ ih => .int .u8 (.ofNat b.toNat) :: ih) l
theorem byteVals_eq : ∀ (l : List UInt8), byteVals l = l.map fun b => .int .u8 b.toNat
  | [] => rfl
  | b :: l => by
    show (Value.int .u8 (.ofNat b.toNat)) :: byteVals l = _
    rw [byteVals_eq l]; rfl
theorem LR.bytes (ρ : Ren) : ∀ (l : List UInt8), LR ρ (byteVals l) (byteVals l)
  | [] => .nil
  | _ :: l => .cons (.int _ _) (LR.bytes ρ l)
noncomputable def valBytes (l : List Value) : Option (List UInt8) :=
  List.rec (motive := fun _ => Option (List UInt8)) (some []) (fun v _ ih => match v with
    | .int .u8 n => match ih with
      | some l => some (UInt8.ofNat n.toNat :: l)
      | none => none
    | _ => none) l
theorem valBytes_cons (v : Value) (l : List Value) : valBytes (v :: l) = match v with
    | .int .u8 n => match valBytes l with
      | some l => some (UInt8.ofNat n.toNat :: l)
      | none => none
    | _ => none := rfl
theorem bytesLoop {ρ : Ren} {wo : World} {f : Value → ByteArray → Sem (ForInStep ByteArray)} (hf : ∀ n s, f (.int .u8 n) s = pure (ForInStep.yield (s.push (UInt8.ofNat n.toNat)))) :
    ∀ {l l' : List Value}, LR ρ l l' → ∀ (r : List UInt8), valBytes l = some r → ∀ (s : ByteArray),
    (forIn l' s f : Sem ByteArray).run P wo = .ok (mkB (bL s ++ r)) wo := by
  intro l l' hl
  induction hl with
  | nil =>
    intro r hr s
    have : some [] = some r := hr
    cases this
    simp [mkB_bL]
  | cons hv ht ih =>
    rename_i v v' l l'
    intro r hr s
    rw [valBytes_cons] at hr
    split at hr
    · rename_i n
      split at hr
      · rename_i r' hr'
        cases hr
        cases hv
        have := ih r' hr' (s.push (UInt8.ofNat n.toNat))
        simp only [List.forIn_cons, hf, Sem.run_bind, Sem.run_pure, Result.andThen_ok]
        rw [this]
        congr 2
        show bL (s.push (UInt8.ofNat n.toNat)) ++ r' = bL s ++ (UInt8.ofNat n.toNat :: r')
        have : bL (s.push (UInt8.ofNat n.toNat)) = bL s ++ [UInt8.ofNat n.toNat] := by
          unfold bL
          show (s.data.push _).toList = _
          simp
        rw [this]; simp
      · cases hr
    · cases hr

noncomputable def qConvert (E : Env) (h : T AObj) (id src dst : Nat) (x : Value) : QR :=
  match E.ti src with
  | some a => match E.ti dst with
    | some b =>
      match b.desc with
      | .int k => match x with
        | .int _ n => .val (.int k (wrapF k n))
        | _ => .fail
      | .slice e => match x with
        | .string s => match a.desc with
          | .slice _ => .fail
          | _ => match E.ti e with
            | some y => match y.desc with
              | .int .u8 => .new (.cells (T.ofList (byteVals (bL s))) (lenF (bL s)) (rowC e 1)) (.slice (some ⟨id, 0, none⟩) (lenF (bL s)) 0)
              | _ => .fail
            | none => .fail
        | _ => .fail
      | .string => match a.desc with
        | .slice e => match E.ti e with
          | some y => match y.desc with
            | .int .u8 => match x with
              | .slice none 0 0 => .val (.string (mkB []))
              | .slice (some ⟨b, o, none⟩) len _ => match h.get b with
                | some (.cells t n _) => match Nat.ble (Nat.add o len) n with
                  | true => match getN t len o with
                    | some l => match valBytes l with
                      | some r => .val (.string (mkB r))
                      | none => .fail
                    | none => .fail
                  | false => .fail
                | _ => .fail
              | _ => .fail
            | _ => .fail
          | none => .fail
        | .string => match x with
          | .string s => .val (.string s)
          | _ => .fail
        | _ => .fail
      | _ => .fail
    | none => .fail
  | none => .fail
theorem chooseCap (P : Program) (n m e : Nat) (w : World) : ∃ cap, n ≤ cap ∧ (choose (.appendCap n m e)).run P w = .ok cap { w with drawn := w.drawn + 1 } :=
  ⟨(Question.appendCap n m e).cut (w.tape w.drawn (.appendCap n m e)), Nat.le_add_right _ _, by rw [run_choose]; rfl⟩
theorem mark_new (P : Program) (w : World) (C : Array Value) (e : TypeId) (d : Nat) :
    (markStringish ⟨w.heap.size, 0, none⟩).run P { w with heap := w.heap.push (.cells C e), drawn := d } =
      .ok () { w with heap := w.heap.push (.cells C e (C.size, C.size + 1)), drawn := d } := by
  have hsh : World.shape? { w with heap := w.heap.push (.cells C e), drawn := d } w.heap.size = some (e, C.size) := by
    simp [World.shape?]
  unfold markStringish
  simp only [Sem.run_bind, run_shape, Result.andThen_ok]
  rw [hsh]
  simp only [run_freeze]
  congr 1
  unfold World.freeze
  rw [if_neg (by omega)]
  simp only [World.mk.injEq, and_true, true_and]
  apply Array.ext (by simp)
  intro i h1 h2
  rw [Array.getElem_modify]
  by_cases hi : w.heap.size = i
  · subst hi; simp
  · have hlt : i < w.heap.size := by simp at h1; omega
    rw [if_neg hi, Array.getElem_push_lt hlt, Array.getElem_push_lt hlt]
theorem qConvert_ok (s : SI N U ws ρ h nx w) {src dst : Nat} {x x' : Value} (hx : VR ρ x x') : QV P (convert src dst x') ρ id w (qConvert (envOf P) h id src dst x) := by
  unfold qConvert
  split
  case h_2 => trivial
  rename_i a ha
  have ha := (ti_ok ha).run_und (w := w)
  split
  case h_2 => trivial
  rename_i b hb
  have hb := (ti_ok hb).run_und (w := w)
  split
  · rename_i k hd
    split
    case h_2 => trivial
    cases hx
    rw [hd] at hb
    refine ⟨_, ?_, .int _ _⟩
    unfold convert
    simp only [Sem.run_bind, ha, hb, Result.andThen_ok, Conv.intToInt, wrapF_eq]
    cases a.desc <;> rfl
  · rename_i e hd
    split
    case h_2 => trivial
    rename_i st
    split
    · trivial
    rename_i hns
    split
    case h_2 => trivial
    rename_i y hy
    have hy := (ti_ok hy).run_und (w := w)
    split
    case h_2 => trivial
    rename_i hyd
    rw [hyd] at hy
    rw [hd] at hb
    cases hx
    obtain ⟨cap, hle, hc⟩ := chooseCap P st.size 0 e w
    let C : Array Value := st.data.map (fun b => .int .u8 b.toNat) ++ Array.replicate (cap - st.size) (.int .u8 0)
    have hsz : st.data.size = st.size := rfl
    have hCs : C.size = cap := by
      simp only [C, Array.size_append, Array.size_map, Array.size_replicate, hsz]; omega
    have hst : (Conv.stringToBytes e st).run P w = .ok (.slice (some ⟨w.heap.size, 0, none⟩) st.size cap) { w with heap := w.heap.push (.cells C e (cap, cap + 1)), drawn := w.drawn + 1 } := by
      unfold Conv.stringToBytes
      simp only [Sem.run_bind, hc, Result.andThen_ok, newRow, run_newObj, Sem.run_pure]
      have := mark_new P w C e (w.drawn + 1)
      rw [hCs] at this
      simp only [C] at this
      rw [this]
      rfl
    refine ⟨.slice (some ⟨w.heap.size, 0, none⟩) st.size cap, .cells C e (cap, cap + 1), w.drawn + 1, ⟨w.heap.size, 0, cap⟩, ?_, rfl, fun ρ' he hi => ⟨?_, ?_⟩⟩
    · rw [← hst]
      unfold convert
      simp only [Sem.run_bind, ha, hb, Result.andThen_ok]
      cases hda : a.desc <;> first
        | exact absurd hda (hns _)
        | (simp only [Sem.run_bind, hy, Result.andThen_ok]; done)
    · have hln : (byteVals (bL st)).length = st.size := by rw [byteVals_eq, List.length_map, size_bL]
      have hor := OR_row (LR.bytes ρ' (bL st)) w.heap.size cap 1 e (List.replicate (cap - st.size) (.int .u8 0)) (by omega) (by simp [hln]; omega) (by decide)
      obtain ⟨C', el, fz, hC', h1, h2, h3, h4, h5⟩ := hor
      have hCC : C' = C := by
        injection hC' with hC' _ _
        rw [← hC']
        apply Array.ext'
        simp [C, byteVals_eq, bL]
      subst hCC
      refine ⟨C, e, (cap, cap + 1), rfl, ?_, h2, ?_, fun i _ hi => ?_, ?_⟩
      · simpa [objOf, lenF_eq, size_bL, hln] using h1
      · rw [lenF_eq, ← size_bL]
        rw [lenF_eq, hln] at h3
        exact h3
      · have : i < cap := by rw [← hCs]; exact hi
        show ¬ (cap ≤ i ∧ i < cap + 1)
        omega
      · rw [lenF_eq, ← size_bL]
        rw [lenF_eq, hln] at h5
        exact ⟨h5.1, TyR.row (by decide)⟩
    · rw [lenF_eq, ← size_bL]
      exact VR.slc (ρ := ρ') (o := 0) (n := st.size) (e := 0) (c := cap) hi (by unfold capR; simp) hle
  · rename_i hd
    rw [hd] at hb
    split
    · rename_i e hda
      rw [hda] at ha
      split
      case h_2 => trivial
      rename_i y hy
      have hy := (ti_ok hy).run_und (w := w)
      split
      case h_2 => trivial
      rename_i hyd
      rw [hyd] at hy
      have hrun : ∀ x', (convert src dst x').run P w = (Conv.bytesToString x').run P w ∨ (∃ s, x' = .string s) ∨ (∃ k n, x' = .int k n) ∨ (∃ k n, x' = .float k n) ∨ (∃ k n m, x' = .complex k n m) := fun x' => by
        cases x' <;> first
          | (left; unfold convert; simp only [Sem.run_bind, ha, hb, Result.andThen_ok, hy]; done)
          | exact .inr (.inl ⟨_, rfl⟩)
          | exact .inr (.inr (.inl ⟨_, _, rfl⟩))
          | exact .inr (.inr (.inr (.inl ⟨_, _, rfl⟩)))
          | exact .inr (.inr (.inr (.inr ⟨_, _, _, rfl⟩)))
      split
      · cases hx
        refine ⟨_, ?_, .string _⟩
        have := (hrun (.slice none 0 0)).resolve_right (by simp)
        rw [this]
        rfl
      · rename_i b o len _
        split
        case h_2 => trivial
        rename_i t n es hg
        split
        case h_2 => trivial
        rename_i hle
        have hle : o + len ≤ n := Nat.le_of_ble_eq_true hle
        split
        case h_2 => trivial
        rename_i l hl
        split
        case h_2 => trivial
        rename_i r hr
        cases hx with
        | slc hp hc hn =>
          rename_i c p
          obtain ⟨ob, hob, hor⟩ := s.rel _ _ _ hg hp
          obtain ⟨l', hlr, hlen, hload⟩ := loads_ok (P := P) hob hor hl hle
          refine ⟨_, ?_, .string (mkB r)⟩
          have := (hrun (.slice (some ⟨p.B, p.S + o, none⟩) len c)).resolve_right (by simp)
          rw [this]
          unfold Conv.bytesToString
          simp only [Sem.run_bind, hload, Result.andThen_ok]
          rw [List.forIn_toArray]
          rw [bytesLoop (P := P) (wo := w) (fun _ _ => rfl) hlr r hr ByteArray.empty]
          rfl
      · trivial
    · rename_i hda
      rw [hda] at ha
      split
      case h_2 => trivial
      cases hx
      refine ⟨_, ?_, .string _⟩
      unfold convert
      simp only [Sem.run_bind, ha, hb, Result.andThen_ok]
      rfl
    · trivial
  · trivial
end
end Go.Proofs.YtmiojdppkooikaaGreatDoor.Abs
namespace Go.Proofs.YtmiojdppkooikaaGreatDoor.Abs
open Go

def sameK (d : TypeDesc) (a b : Value) : Option Bool :=
  match d with
  | .int _ => match a with
    | .int k x => match b with
      | .int k' y => match sameKind k k' with
        | true => some (eqI x y)
        | false => none
      | _ => none
    | _ => none
  | _ => none
noncomputable def sameS (d : TypeDesc) (a b : Value) : Option Bool :=
  match d with
  | .string => match a with
    | .string x => match b with
      | .string y => some (eqL (bL x) (bL y))
      | _ => none
    | _ => none
  | _ => sameK d a b
theorem ba_eq (x y : ByteArray) : eqL (bL x) (bL y) = (x == y) := by
  have e : (x == y) = (x.data == y.data) := by cases x; cases y; rfl
  rw [eqL_eq, e, Bool.eq_iff_iff, beq_iff_eq, beq_iff_eq]
  exact ⟨fun h' => Array.ext' h', fun e => by unfold bL; rw [e]⟩
theorem sameS_ok {ρ : Ren} {d : TypeDesc} {a b a' b' : Value} (ha : VR ρ a a') (hb : VR ρ b b') {r : Bool} (h : sameS d a b = some r) : Instr.sameNow d a' b' = some r := by
  unfold sameS at h
  split at h
  · split at h
    · split at h
      · cases h; cases ha; cases hb
        simp only [Instr.sameNow, ba_eq]
      · cases h
    · cases h
  · unfold sameK at h
    split at h
    · split at h
      · split at h
        · split at h
          · rename_i hk
            cases h; cases ha; cases hb
            have := sameKind_eq hk
            subst this
            simp only [Instr.sameNow, if_true, eqI_eq]
          · cases h
        · cases h
      · cases h
    · cases h

noncomputable def aFindNow (d : TypeDesc) (k : Value) (es : List MapEntry) : Nat → Option (Option (Nat × Value)) :=
  List.rec (motive := fun _ => Nat → Option (Option (Nat × Value))) (fun _ => some none)
    (fun e _ ih i => match sameS d k e.key with
      | some true => some (some (i, e.val))
      | some false => ih (Nat.add i 1)
      | none => none) es
theorem aFindNow_cons (d : TypeDesc) (k : Value) (e : MapEntry) (es : List MapEntry) (i : Nat) : aFindNow d k (e :: es) i = match sameS d k e.key with
      | some true => some (some (i, e.val))
      | some false => aFindNow d k es (i + 1)
      | none => none := rfl
def FR (ρ : Ren) : Option (Nat × Value) → Option (Nat × Value) → Prop
  | none, none => True
  | some (i, v), some (j, v') => i = j ∧ VR ρ v v'
  | _, _ => False
theorem aFindNow_ok {ρ : Ren} {d : TypeDesc} {k k' : Value} (hk : VR ρ k k') : ∀ {es es' : List MapEntry}, EsR ρ es es' → ∀ {i : Nat} {r : Option (Nat × Value)}, aFindNow d k es i = some r →
    ∃ r', Instr.findNow d k' es' i = some r' ∧ FR ρ r r' := by
  intro es es' h
  induction h with
  | nil => intro i r hr; have : some none = some r := hr; cases this; exact ⟨none, rfl, trivial⟩
  | cons he ht ih =>
    intro i r hr
    rw [aFindNow_cons] at hr
    split at hr
    · rename_i e e' _ _ _ hs
      cases hr
      exact ⟨some (i, e'.val), by simp only [Instr.findNow, sameS_ok hk he.key hs], rfl, he.val⟩
    · rename_i hs
      obtain ⟨r', h1, h2⟩ := ih hr
      exact ⟨r', by simp only [Instr.findNow, sameS_ok hk he.key hs]; exact h1, h2⟩
    · cases hr
noncomputable def aFindAsk (P : Program) (key : Nat) (k : Value) (es : List MapEntry) : Nat → Option (Option (Nat × Value)) :=
  List.rec (motive := fun _ => Nat → Option (Option (Nat × Value))) (fun _ => some none)
    (fun e _ ih i => match pureV 3 e.key with
      | true => match pureRun P (Op.equal key k e.key) with
        | some true => some (some (i, e.val))
        | some false => ih (Nat.add i 1)
        | none => none
      | false => none) es
theorem aFindAsk_cons (P : Program) (key : Nat) (k : Value) (e : MapEntry) (es : List MapEntry) (i : Nat) : aFindAsk P key k (e :: es) i = match pureV 3 e.key with
      | true => match pureRun P (Op.equal key k e.key) with
        | some true => some (some (i, e.val))
        | some false => aFindAsk P key k es (i + 1)
        | none => none
      | false => none := rfl
theorem aFindAsk_ok {P : Program} {ρ : Ren} {key : Nat} {k : Value} {w : World} : ∀ {es es' : List MapEntry}, EsR ρ es es' → ∀ {i : Nat} {r : Option (Nat × Value)}, aFindAsk P key k es i = some r →
    ∃ r', (Instr.findAsking key k es' i).run P w = .ok r' w ∧ FR ρ r r' := by
  intro es es' h
  induction h with
  | nil => intro i r hr; have : some none = some r := hr; cases this; exact ⟨none, rfl, trivial⟩
  | cons he ht ih =>
    intro i r hr
    rw [aFindAsk_cons] at hr
    split at hr
    · rename_i hp
      have hkey := pureV_eq hp he.key
      split at hr
      · rename_i e e' _ _ _ _ hs
        cases hr
        exact ⟨some (i, e'.val), by simp only [Instr.findAsking, Sem.run_bind, hkey, pureRun_ok hs w, Result.andThen_ok, if_true, Sem.run_pure], rfl, he.val⟩
      · rename_i hs
        obtain ⟨r', h1, h2⟩ := ih hr
        refine ⟨r', ?_, h2⟩
        simp only [Instr.findAsking, Sem.run_bind, hkey, pureRun_ok hs w, Result.andThen_ok, Bool.false_eq_true, if_false]
        exact h1
      · cases hr
    · cases hr
def simpleKey : TypeDesc → Bool
  | .int _ => true
  | .string => true
  | _ => false
def slowKey : TypeDesc → Bool
  | .struct _ => true
  | .array _ _ => true
  | _ => false
noncomputable def aFind (P : Program) (d : TypeDesc) (key : Nat) (k : Value) (es : List MapEntry) : Option (Option (Nat × Value)) :=
  match simpleKey d with
  | true => aFindNow d k es 0
  | false => match slowKey d with
    | true => match pureV 3 k with
      | true => aFindAsk P key k es 0
      | false => none
    | false => none
theorem aFind_ok {P : Program} {ρ : Ren} {key : Nat} {x : TI} (hx : TyOK P key x) {k k' : Value} (hk : VR ρ k k') {es es' : List MapEntry} (he : EsR ρ es es') {r : Option (Nat × Value)}
    (h : aFind P x.desc key k es = some r) (w : World) : ∃ r', (Instr.findKey key k' es').run P w = .ok r' w ∧ FR ρ r r' := by
  unfold aFind at h
  unfold Instr.findKey
  simp only [Sem.run_bind, hx.run_und, Result.andThen_ok]
  split at h
  · obtain ⟨r', h1, h2⟩ := aFindNow_ok hk he h
    exact ⟨r', by rw [h1]; rfl, h2⟩
  · split at h
    · rename_i hs
      split at h
      · rename_i hp
        obtain rfl := pureV_eq hp hk
        cases he with
        | nil =>
          have : some none = some r := h
          cases this
          exact ⟨none, by simp [Instr.findNow], trivial⟩
        | cons he ht =>
          rename_i e e' l l'
          obtain ⟨r', h1, h2⟩ := aFindAsk_ok (w := w) (.cons he ht) h
          have : Instr.findNow x.desc k' (e' :: l') 0 = none := by
            unfold Instr.findNow
            have : Instr.sameNow x.desc k' e'.key = none := by
              cases hd : x.desc <;> rw [hd] at hs <;> first | (cases hs; done) | rfl
            rw [this]
          rw [this]
          exact ⟨r', h1, h2⟩
      · cases h
    · cases h
/-- may it be a key? -/
noncomputable def keyOK (P : Program) (d : TypeDesc) (emp : Bool) (key : Nat) (k : Value) : Bool :=
  match simpleKey d with
  | true => true
  | false => match pureV 3 k with
    | true => match pureRun P (Instr.checkKey emp 10000 key k) with
      | some _ => true
      | none => false
    | false => false
theorem keyOK_ok {P : Program} {ρ : Ren} {key : Nat} {x : TI} (hx : TyOK P key x) {k k' : Value} (hk : VR ρ k k') {emp : Bool} (h : keyOK P x.desc emp key k = true) (w : World) :
    (Instr.checkKey emp 10000 key k').run P w = .ok () w := by
  unfold keyOK at h
  split at h
  · rename_i hs
    unfold Instr.checkKey
    simp only [Sem.run_bind, hx.run_und, Result.andThen_ok]
    cases hd : x.desc <;> rw [hd] at hs <;> first | (cases hs; done) | (cases k' <;> rfl)
  · split at h
    · rename_i hp
      obtain rfl := pureV_eq hp hk
      split at h
      · rename_i u hr
        exact pureRun_ok hr w
      · cases h
    · cases h

section
variable {P : Program} {N : Nat} {U : Nat → Prop} {ws : World} {ρ : Ren} {h : T AObj} {nx : Nat} {w : World} {id : Nat}

def isNilL {α : Type} : List α → Bool
  | [] => true
  | _ => false
noncomputable def qLookup (P : Program) (E : Env) (h : T AObj) (ty : Nat) (m k : Value) (ok : Bool) : QR :=
  match E.ti ty with
  | some x => match x.desc with
    | .map key elem => match E.ti key with
      | some kt => match E.ti elem with
        | some et => match et.zero with
          | some z =>
            match m with
            | .map none => go kt.desc key z []
            | .map (some b) => match h.get b with
              | some (.map es _) => go kt.desc key z es
              | _ => .fail
            | _ => .fail
          | none => .fail
        | none => .fail
      | none => .fail
    | _ => .fail
  | none => .fail
where
  go (d : TypeDesc) (key : Nat) (z : Value) (es : List MapEntry) : QR :=
    match keyOK P d (isNilL es) key k with
    | true => match aFind P d key k es with
      | some (some (_, v)) => match ok with
        | true => .val (.tuple #[v, .bool true])
        | false => .val v
      | some none => match ok with
        | true => .val (.tuple #[z, .bool false])
        | false => .val z
      | none => .fail
    | false => .fail
theorem SI.getMap (s : SI N U ws ρ h nx w) {b : Nat} {p : Pl} (hp : ρ b = some p) {es : List MapEntry} {clk : Nat} (hg : h.get b = some (.map es clk)) :
    ∃ es' : Array MapEntry, w.heap[p.B]? = some (.map es' clk) ∧ EsR ρ es es'.toList ∧ (getObj p.B).run P w = .ok (.map es' clk) w := by
  obtain ⟨c, hc, _, es', rfl, he⟩ := s.rel b _ p hg hp
  refine ⟨es', hc, he, ?_⟩
  simp only [getObj, Sem.run, hc]
theorem EsR.length {ρ : Ren} {l l' : List MapEntry} (h : EsR ρ l l') : l.length = l'.length := by
  induction h with
  | nil => rfl
  | cons _ _ ih => simp [ih]
theorem VR.pair {v v' : Value} (h : VR ρ v v') (b : Bool) : VR ρ (.tuple #[v, .bool b]) (.tuple #[v', .bool b]) :=
  VR.tuple_iff.2 ⟨_, rfl, AR.of_LR (.cons h (.cons (.bool b) .nil))⟩
theorem qLookup_ok (s : SI N U ws ρ h nx w) {ty : Nat} {m m' k k' : Value} {ok : Bool} (hm : VR ρ m m') (hk : VR ρ k k') :
    QV P (Instr.lookup ty m' k' ok) ρ id w (qLookup P (envOf P) h ty m k ok) := by
  unfold qLookup
  split
  case h_2 => trivial
  rename_i x hx
  have hx := ti_ok hx
  split
  case h_2 => trivial
  rename_i key elem hd
  split
  case h_2 => trivial
  rename_i kt hkt
  have hkt := ti_ok hkt
  split
  case h_2 => trivial
  rename_i et het
  have het := ti_ok het
  split
  case h_2 => trivial
  rename_i z hz
  have hu := hx.run_und (w := w)
  rw [hd] at hu
  have hzr := pureV_VR ρ 3 z (het.pure z hz)
  have core : ∀ (es : List MapEntry) (es' : Array MapEntry), EsR ρ es es'.toList →
      ((m' = .map none ∧ es' = #[]) ∨ ∃ r clk, m' = .map (some r) ∧ (getObj r).run P w = .ok (.map es' clk) w) →
      QV P (Instr.lookup ty m' k' ok) ρ id w (qLookup.go P k ok kt.desc key z es) := by
    intro es es' he hget
    unfold qLookup.go
    have hemp : es'.isEmpty = isNilL es := by
      have := he.length
      cases es with
      | nil =>
        have h1 : es'.size = 0 := by simp at this; simpa using this.symm
        simp [isNilL, Array.isEmpty, h1]
      | cons a l =>
        have h1 : es'.size ≠ 0 := by simp at this; omega
        simpa [isNilL, Array.isEmpty] using h1
    split
    case h_2 => trivial
    rename_i hck
    have hck := keyOK_ok hkt hk hck w
    have pre : ∀ r', (Instr.findKey key k' es'.toList).run P w = .ok r' w →
        (Instr.lookup ty m' k' ok).run P w = (match r' with
          | some (_, v) => .ok (if ok then .tuple #[v, .bool true] else v) w
          | none => .ok (if ok then .tuple #[z, .bool false] else z) w) := by
      intro r' hr'
      unfold Instr.lookup
      simp only [Sem.run_bind, hu, Result.andThen_ok]
      rcases hget with ⟨rfl, rfl⟩ | ⟨r, clk, rfl, hgo⟩
      · simp only [pure_bind, Sem.run_bind, hemp, hck, Result.andThen_ok, hr']
        cases r' with
        | none => simp only [Sem.run_bind, het.run_zero hz, Result.andThen_ok, Sem.run_pure]
        | some iv => rfl
      · simp only [Sem.run_bind, hgo, Result.andThen_ok, Sem.run_pure, hemp, hck, hr']
        cases r' with
        | none => simp only [Sem.run_bind, het.run_zero hz, Result.andThen_ok, Sem.run_pure]
        | some iv => rfl
    split
    · rename_i i v hf
      obtain ⟨r', h1, h2⟩ := aFind_ok hkt hk he hf w
      cases r' with
      | none => exact h2.elim
      | some iv =>
        obtain ⟨j, v'⟩ := iv
        have hr := pre _ h1
        cases ok
        · exact ⟨_, by rw [hr]; rfl, h2.2⟩
        · exact ⟨_, by rw [hr]; rfl, h2.2.pair true⟩
    · rename_i hf
      obtain ⟨r', h1, h2⟩ := aFind_ok hkt hk he hf w
      cases r' with
      | some iv => exact h2.elim
      | none =>
        have hr := pre _ h1
        cases ok
        · exact ⟨_, by rw [hr]; rfl, hzr⟩
        · exact ⟨_, by rw [hr]; rfl, hzr.pair false⟩
    · trivial
  split
  · cases hm
    exact core [] #[] .nil (.inl ⟨rfl, rfl⟩)
  · rename_i b
    split
    case h_2 => trivial
    rename_i es clk hg
    cases hm with
    | mp hp =>
      obtain ⟨es', h1, h2, h3⟩ := s.getMap (P := P) hp hg
      exact core es es' h2 (.inr ⟨_, _, rfl, h3⟩)
  · trivial

/- ---------- lengths ---------- -/
noncomputable def qLen (E : Env) (h : T AObj) (ty : Nat) (x : Value) : QR :=
  match E.ti ty with
  | some d => match d.desc with
    | .string => match x with
      | .string s => .val (.int .i64 (.ofNat (lenF (bL s))))
      | _ => .fail
    | .slice _ => match x with
      | .slice _ n _ => .val (.int .i64 (.ofNat n))
      | _ => .fail
    | .array n _ => .val (.int .i64 (.ofNat n))
    | .map _ _ => match x with
      | .map none => .val (.int .i64 (.ofNat 0))
      | .map (some b) => match h.get b with
        | some (.map es _) => .val (.int .i64 (.ofNat (lenF es)))
        | _ => .fail
      | _ => .fail
    | _ => .fail
  | none => .fail
theorem qLen_ok (s : SI N U ws ρ h nx w) {ts : Array TypeId} {t : TypeId} {ty : Nat} (h0 : ts[0]? = some ty) {x x' : Value} (hx : VR ρ x x') :
    QV P (Builtin.len_ ts t #[x']) ρ id w (qLen (envOf P) h ty x) := by
  unfold qLen
  split
  case h_2 => trivial
  rename_i d hd
  have hu := (ti_ok hd).run_und (w := w)
  have e0 : (#[x'] : Array Value)[0]? = some x' := rfl
  split
  · rename_i hdd
    rw [hdd] at hu
    split
    case h_2 => trivial
    cases hx
    refine ⟨_, ?_, .int _ _⟩
    unfold Builtin.len_
    simp only [h0, e0, Sem.run_bind, hu, Result.andThen_ok]
    rw [lenF_eq, ← size_bL]; rfl
  · rename_i hdd
    rw [hdd] at hu
    split
    case h_2 => trivial
    cases hx
    · refine ⟨_, ?_, .int _ _⟩
      unfold Builtin.len_
      simp only [h0, e0, Sem.run_bind, hu, Result.andThen_ok]
      rfl
    · refine ⟨_, ?_, .int _ _⟩
      unfold Builtin.len_
      simp only [h0, e0, Sem.run_bind, hu, Result.andThen_ok]
      rfl
  · rename_i hdd
    rw [hdd] at hu
    refine ⟨_, ?_, .int _ _⟩
    unfold Builtin.len_
    simp only [h0, e0, Sem.run_bind, hu, Result.andThen_ok]
    cases x' <;> rfl
  · rename_i hdd
    rw [hdd] at hu
    split
    · cases hx
      refine ⟨_, ?_, .int _ _⟩
      unfold Builtin.len_
      simp only [h0, e0, Sem.run_bind, hu, Result.andThen_ok]
      rfl
    · rename_i b
      split
      case h_2 => trivial
      rename_i es clk hg
      cases hx with
      | mp hp =>
        obtain ⟨es', h1, h2, h3⟩ := s.getMap (P := P) hp hg
        refine ⟨_, ?_, .int _ _⟩
        unfold Builtin.len_
        simp only [h0, e0, Sem.run_bind, hu, Result.andThen_ok, h3, Sem.run_pure]
        rw [lenF_eq, h2.length]; simp [goInt]
    · trivial
  · trivial
noncomputable def qCap (E : Env) (ty : Nat) (x : Value) : QR :=
  match E.ti ty with
  | some d => match d.desc with
    | .slice _ => match x with
      | .slice none _ 0 => .val (.int .i64 (.ofNat 0))
      | .slice (some _) _ e => match Nat.beq (Nat.mod e 2) 1 with
        | true => .val (.int .i64 (.ofNat (Nat.div e 2)))
        | false => .fail
      | _ => .fail
    | _ => .fail
  | none => .fail
theorem qCap_ok {ts : Array TypeId} {t : TypeId} {ty : Nat} (h0 : ts[0]? = some ty) {x x' : Value} (hx : VR ρ x x') :
    QV P (Builtin.cap_ ts t #[x']) ρ id w (qCap (envOf P) ty x) := by
  unfold qCap
  split
  case h_2 => trivial
  rename_i d hd
  have hu := (ti_ok hd).run_und (w := w)
  have e0 : (#[x'] : Array Value)[0]? = some x' := rfl
  split
  case h_2 => trivial
  rename_i hdd
  rw [hdd] at hu
  split
  · cases hx
    refine ⟨_, ?_, .int _ _⟩
    unfold Builtin.cap_
    simp only [h0, e0, Sem.run_bind, hu, Result.andThen_ok]
    rfl
  · split
    · rename_i e _ he
      have he : e % 2 = 1 := Nat.eq_of_beq_eq_true he
      cases hx with
      | slc hp hc hn =>
        refine ⟨_, ?_, .int _ _⟩
        unfold capR at hc
        rw [if_pos he] at hc
        unfold Builtin.cap_
        simp only [h0, e0, Sem.run_bind, hu, Result.andThen_ok]
        rw [hc]; rfl
    · trivial
  · trivial
/-- of whole numbers alone. -/
noncomputable def maxI (mn : Bool) (l : List Value) : QR :=
  match l with
  | [.int k a, .int k' b] => match sameKind k k' with
    | true => match mn with
      | true => .val (.int k (match ltI b a with | true => b | false => a))
      | false => .val (.int k (match ltI a b with | true => b | false => a))
    | false => .fail
  | _ => .fail
theorem maxI_ok {ts : Array TypeId} {t : TypeId} {x y x' y' : Value} (hx : VR ρ x x') (hy : VR ρ y y') :
    QV P (Builtin.max_ ts t #[x', y']) ρ id w (maxI false [x, y]) ∧ QV P (Builtin.min_ ts t #[x', y']) ρ id w (maxI true [x, y]) := by
  unfold maxI
  constructor
  all_goals
    split
    case h_2 => trivial
    rename_i k a k' b heq
    injection heq with h1 h2
    injection h2 with h2 _
    subst h1; subst h2
    split
    case h_2 => trivial
    cases hx; cases hy
    refine ⟨_, ?_, .int _ _⟩
    simp only [ltI_eq]
    first
      | (unfold Builtin.max_; simp only [Builtin.max2, List.foldlM, Sem.run_bind, Sem.run_pure, Result.andThen_ok]; by_cases h : a < b <;> simp [h])
      | (unfold Builtin.min_; simp only [Builtin.min2, List.foldlM, Sem.run_bind, Sem.run_pure, Result.andThen_ok]; by_cases h : b < a <;> simp [h])
end
end Go.Proofs.YtmiojdppkooikaaGreatDoor.Abs
namespace Go.Proofs.YtmiojdppkooikaaGreatDoor.Abs
open Go

section
variable {P : Program} {N : Nat} {U : Nat → Prop} {ws : World} {ρ : Ren} {h : T AObj} {nx : Nat} {w : World} {id : Nat}

noncomputable def qRange (E : Env) (h : T AObj) (id ty : Nat) (x : Value) : QR :=
  match E.ti ty with
  | some d => match d.desc with
    | .map _ _ => match x with
      | .map none => .new (.mIter none 0 #[] 0) (.pointer (some ⟨id, 0, none⟩))
      | .map (some b) => match h.get b with
        | some (.map _ clk) => .new (.mIter (some b) clk #[] clk) (.pointer (some ⟨id, 0, none⟩))
        | _ => .fail
      | _ => .fail
    | .string => match x with
      | .string s => .new (.sIter s 0) (.pointer (some ⟨id, 0, none⟩))
      | _ => .fail
    | _ => .fail
  | none => .fail
theorem qRange_ok (s : SI N U ws ρ h nx w) {ty : Nat} {x x' : Value} (hx : VR ρ x x') : QV P (Instr.range ty x') ρ id w (qRange (envOf P) h id ty x) := by
  unfold qRange
  split
  case h_2 => trivial
  rename_i d hd
  have hu := (ti_ok hd).run_und (w := w)
  split
  · rename_i hdd
    rw [hdd] at hu
    split
    · cases hx
      refine ⟨.pointer (some ⟨w.heap.size, 0, none⟩), .mapIter none 0 #[] 0, w.drawn, ⟨w.heap.size, 0, 0⟩, ?_, rfl, fun ρ' he hi => ⟨⟨rfl, rfl⟩, VR.ptr (o := 0) hi⟩⟩
      unfold Instr.range
      simp only [Sem.run_bind, hu, Result.andThen_ok, Sem.run_pure, run_newObj]
    · rename_i b
      split
      case h_2 => trivial
      rename_i es clk hg
      cases hx with
      | mp hp =>
        rename_i p
        obtain ⟨es', h1, h2, h3⟩ := s.getMap (P := P) hp hg
        refine ⟨.pointer (some ⟨w.heap.size, 0, none⟩), .mapIter (some p.B) clk #[] clk, w.drawn, ⟨w.heap.size, 0, 0⟩, ?_, rfl, fun ρ' he hi => ⟨⟨rfl, p, he _ _ hp, rfl⟩, VR.ptr (o := 0) hi⟩⟩
        unfold Instr.range
        simp only [Sem.run_bind, hu, Result.andThen_ok, h3, Sem.run_pure, run_newObj]
    · trivial
  · rename_i hdd
    rw [hdd] at hu
    split
    case h_2 => trivial
    rename_i st
    cases hx
    refine ⟨.pointer (some ⟨w.heap.size, 0, none⟩), .stringIter st 0, w.drawn, ⟨w.heap.size, 0, 0⟩, ?_, rfl, fun ρ' he hi => ⟨⟨rfl, rfl⟩, VR.ptr (o := 0) hi⟩⟩
    unfold Instr.range
    simp only [Sem.run_bind, hu, Result.andThen_ok, Sem.run_pure, run_newObj]
  · trivial

/-- the entry that was born at a time. -/
noncomputable def bornAt (es : List MapEntry) (n : Nat) : Option MapEntry :=
  List.rec (motive := fun _ => Option MapEntry) none (fun e _ ih => match Nat.beq e.born n with
    | true => some e
    | false => ih) es
theorem bornAt_cons (e : MapEntry) (es : List MapEntry) (n : Nat) : bornAt (e :: es) n = match Nat.beq e.born n with
    | true => some e
    | false => bornAt es n := rfl
theorem bornAt_ok {n : Nat} : ∀ {es es' : List MapEntry}, EsR ρ es es' → ∀ {e : MapEntry}, bornAt es n = some e → ∃ e', es'.find? (·.born == n) = some e' ∧ EnR ρ e e' := by
  intro es es' hr
  induction hr with
  | nil => intro e he; have : none = some e := he; cases this
  | cons he ht ih =>
    rename_i a a' l l'
    intro e hb
    rw [bornAt_cons] at hb
    split at hb
    · rename_i hn
      cases hb
      have hn := Nat.eq_of_beq_eq_true hn
      refine ⟨a', ?_, he⟩
      rw [List.find?_cons]
      have : (a'.born == n) = true := by rw [he.born, hn]; simp
      rw [this]
    · rename_i hn
      have hn := Nat.ne_of_beq_eq_false hn
      obtain ⟨e', h1, h2⟩ := ih hb
      refine ⟨e', ?_, h2⟩
      rw [List.find?_cons]
      have : (a'.born == n) = false := by rw [he.born]; simpa using hn
      rw [this]; exact h1
noncomputable def lastOf (l : List Nat) : Option Nat := List.rec (motive := fun _ => Option Nat) none (fun x l ih => match l with
  | [] => some x
  | _ :: _ => ih) l
theorem lastOf_eq : ∀ (l : List Nat), lastOf l = l.getLast?
  | [] => rfl
  | [x] => rfl
  | x :: y :: l => by
    show lastOf (y :: l) = _
    rw [lastOf_eq (y :: l)]; simp
noncomputable def qEntry (h : T AObj) (x : Value) : QR :=
  match x with
  | .pointer (some ⟨b, 0, none⟩) => match h.get b with
    | some (.mIter (some m) _ seen stepped) => match lastOf seen.toList with
      | some stamp => match h.get m with
        | some (.map es clk) => match Nat.beq clk stepped with
          | true => match bornAt es stamp with
            | some e => .val (.tuple #[e.key, e.val])
            | none => .fail
          | false => .fail
        | _ => .fail
      | none => .fail
    | _ => .fail
  | _ => .fail
theorem SI.getIter (s : SI N U ws ρ h nx w) {b : Nat} {p : Pl} (hp : ρ b = some p) {m : Nat} {since : Nat} {seen : Array Nat} {st : Nat} (hg : h.get b = some (.mIter (some m) since seen st)) :
    p.S = 0 ∧ ∃ q, ρ m = some q ∧ w.heap[p.B]? = some (.mapIter (some q.B) since seen st) ∧ (getObj p.B).run P w = .ok (.mapIter (some q.B) since seen st) w := by
  obtain ⟨c, hc, h0, q, hq, rfl⟩ := s.rel b _ p hg hp
  exact ⟨h0, q, hq, hc, by simp only [getObj, Sem.run, hc]⟩
theorem qEntry_ok (s : SI N U ws ρ h nx w) {x x' : Value} (hx : VR ρ x x') : QV P (Instr.entry x') ρ id w (qEntry h x) := by
  unfold qEntry
  split
  case h_2 => trivial
  rename_i b
  split
  case h_2 => trivial
  rename_i m since seen stepped hg
  split
  case h_2 => trivial
  rename_i stamp hl
  split
  case h_2 => trivial
  rename_i es clk hm
  split
  case h_2 => trivial
  rename_i hck
  have hck := Nat.eq_of_beq_eq_true hck
  split
  case h_2 => trivial
  rename_i e he
  cases hx with
  | ptr hp =>
    rename_i p
    obtain ⟨h0, q, hq, _, h1⟩ := s.getIter (P := P) hp hg
    obtain ⟨es', _, h3, h4⟩ := s.getMap (P := P) hq hm
    obtain ⟨e', h5, h6⟩ := bornAt_ok h3 he
    refine ⟨.tuple #[e'.key, e'.val], ?_, VR.tuple_iff.2 ⟨_, rfl, AR.of_LR (.cons h6.key (.cons h6.val .nil))⟩⟩
    rw [lastOf_eq] at hl
    have hb : seen.back? = some stamp := by rw [Array.back?_eq_getElem?]; rw [List.getLast?_eq_getElem?] at hl; simpa using hl
    have h5' : es'.find? (fun e => e.born == stamp) = some e' := by rw [← Array.find?_toList]; exact h5
    unfold Instr.entry
    have e0 : p.S + 0 = 0 := by omega
    simp only [e0, Sem.run_bind, h1, Result.andThen_ok, hb, h4]
    have hc : (clk != stepped) = false := by rw [hck]; simp
    simp only [hc, Bool.false_eq_true, if_false, h5']
    rfl

noncomputable def qAssert (E : Env) (x : Value) (asserted : Nat) (commaOk : Bool) : QR :=
  match E.ti asserted with
  | some d => match d.desc with
    | .interface _ => .fail
    | _ => match x with
      | .iface t v => match Nat.beq t asserted with
        | true => match commaOk with
          | true => .val (.tuple #[v, .bool true])
          | false => .val v
        | false => match commaOk with
          | true => match d.zero with
            | some z => .val (.tuple #[z, .bool false])
            | none => .fail
          | false => .fail
      | .nilIface => match commaOk with
        | true => match d.zero with
          | some z => .val (.tuple #[z, .bool false])
          | none => .fail
        | false => .fail
      | _ => .fail
  | none => .fail
theorem qAssert_ok {x x' : Value} (hx : VR ρ x x') {xt asserted : Nat} {commaOk : Bool} : QV P (Instr.typeAssert x' xt asserted commaOk) ρ id w (qAssert (envOf P) x asserted commaOk) := by
  unfold qAssert
  split
  case h_2 => trivial
  rename_i d hd
  have hd := ti_ok hd
  have hu := hd.run_und (w := w)
  split
  · trivial
  rename_i hni
  have hni' : ∀ ms, d.desc ≠ .interface ms := fun ms e => hni ms e
  split
  · rename_i t v
    cases hx with
    | iface t hv =>
      rename_i v'
      split
      · rename_i ht
        have ht := Nat.eq_of_beq_eq_true ht
        have hr : (Instr.typeAssert (.iface t v') xt asserted commaOk).run P w = .ok (if commaOk then .tuple #[v', .bool true] else v') w := by
          unfold Instr.typeAssert
          simp only [Sem.run_bind, hu, Result.andThen_ok]
          cases hdd : d.desc <;> first | exact absurd hdd (hni' _) | (simp only [ht, if_true]; cases commaOk <;> rfl)
        cases commaOk
        · exact ⟨_, by rw [hr]; rfl, hv⟩
        · exact ⟨_, by rw [hr]; rfl, hv.pair true⟩
      · rename_i ht
        have ht := Nat.ne_of_beq_eq_false ht
        cases commaOk
        · trivial
        · simp only []
          split
          · rename_i z hz
            refine ⟨.tuple #[z, .bool false], ?_, (pureV_VR ρ 3 z (hd.pure z hz)).pair false⟩
            unfold Instr.typeAssert
            simp only [Sem.run_bind, hu, Result.andThen_ok]
            cases hdd : d.desc <;> first | exact absurd hdd (hni' _) | (simp only [ht, if_false, if_true, Sem.run_bind, hd.run_zero hz, Result.andThen_ok, Sem.run_pure]; done)
          · trivial
  · cases hx
    cases commaOk
    · trivial
    · simp only []
      split
      · rename_i z hz
        refine ⟨.tuple #[z, .bool false], ?_, (pureV_VR ρ 3 z (hd.pure z hz)).pair false⟩
        unfold Instr.typeAssert
        simp only [Sem.run_bind, hu, Result.andThen_ok]
        cases hdd : d.desc <;> first | exact absurd hdd (hni' _) | (simp only [if_true, Sem.run_bind, hd.run_zero hz, Result.andThen_ok, Sem.run_pure]; done)
      · trivial
  · trivial

/- ---------- all together ---------- -/
noncomputable def mapP (t : T Value) (ps : List (Nat × Operand)) : List (Nat × Value) :=
  List.rec (motive := fun _ => List (Nat × Value)) [] (fun p _ ih => (p.1, aev t p.2) :: ih) ps
noncomputable def mapA (t : T Value) (xs : List Operand) : List Value :=
  List.rec (motive := fun _ => List Value) [] (fun x _ ih => aev t x :: ih) xs
theorem mapA_eq (t : T Value) : ∀ xs, mapA t xs = xs.map (aev t)
  | [] => rfl
  | x :: xs => by show aev t x :: mapA t xs = _; rw [mapA_eq t xs]; rfl
noncomputable def mapO (t : T Value) : Option Operand → Option Value
  | some x => some (aev t x)
  | none => none
noncomputable def qBuiltin (E : Env) (h : T AObj) (t : T Value) (c : Call) (b : Builtin) : QR :=
  match b with
  | .len => match c.args.toList with
    | [x] => match c.argTypes.toList with
      | ty :: _ => qLen E h ty (aev t x)
      | [] => .fail
    | _ => .fail
  | .cap => match c.args.toList with
    | [x] => match c.argTypes.toList with
      | ty :: _ => qCap E ty (aev t x)
      | [] => .fail
    | _ => .fail
  | .max => match c.args.toList with
    | [x, y] => maxI false [aev t x, aev t y]
    | _ => .fail
  | .min => match c.args.toList with
    | [x, y] => maxI true [aev t x, aev t y]
    | _ => .fail
  | _ => .fail
noncomputable def qop (P : Program) (E : Env) (h : T AObj) (id : Nat) (t : T Value) (op : Op) : QR :=
  match op with
  | .move x => .val (aev t x)
  | .assign x => .val (aev t x)
  | .pick c a b => match aev t c with
    | .bool true => .val (aev t a)
    | .bool false => .val (aev t b)
    | _ => .fail
  | .alloc e => qAlloc E id e
  | .box e x => qBox id e (aev t x)
  | .build ty ps => qBuild E ty (mapP t ps.toList)
  | .buildSlice ty n ps => qBuildSlice E id ty n (mapP t ps.toList)
  | .load ty a => qLoad E h ty (aev t a)
  | .nilCheck x => qNil (aev t x)
  | .binOp op ty x y _ => qBin P E op ty x y (aev t x) (aev t y)
  | .unOp op _ x => qUn op (aev t x)
  | .convert a b x => qConvert E h id a b (aev t x)
  | .makeInterface ty x => qMakeIface E ty (aev t x)
  | .makeFunc fn fs cs => match fn with
    | .yield _ => .fail
    | _ => .val (.func fn ⟨mapA t fs.toList⟩ ⟨mapA t cs.toList⟩)
  | .makeMap _ r => match r with
    | none => .new (.map [] 0) (.map (some id))
    | some _ => .fail
  | .makeSlice ty l c => qMakeSlice E id ty (aev t l) (aev t c)
  | .slice ty x lo hi mx => qSlice E h id ty (aev t x) (mapO t lo) (mapO t hi) (mapO t mx)
  | .fieldAddr s x f => qFieldAddr E s (aev t x) f
  | .field ty x f => qField E ty (aev t x) f
  | .indexAddr ty x i => qIndexAddr E ty (aev t x) (aev t i)
  | .index ty x i => qIndex E ty (aev t x) (aev t i)
  | .lookup ty m k ok => qLookup P E h ty (aev t m) (aev t k) ok
  | .range ty x => qRange E h id ty (aev t x)
  | .entry x => qEntry h (aev t x)
  | .typeAssert x _ a ok => qAssert E (aev t x) a ok
  | .extract x i => qExtract (aev t x) i
  | .call c => match c.callee with
    | .builtin b => qBuiltin E h t c b
    | _ => .fail
  | _ => .fail

/-- every operand may be read. -/
def okOp (N : Nat) (op : Op) : Bool := op.operands.toList.all (okOperand N)

def QN (P : Program) (s : Sem Next) (ρ : Ren) (id : Nat) (w : World) : QR → Prop
  | .val v => ∃ v', s.run P w = .ok (.value v') w ∧ VR ρ v v'
  | .new ob v => ∃ v' c d p, s.run P w = .ok (.value v') { w with heap := w.heap.push c, drawn := d } ∧ p.B = w.heap.size ∧
      ∀ ρ', Ext ρ ρ' → ρ' id = some p → OR ρ' p ob c ∧ VR ρ' v v'
  | .dead v => ∃ v' q b p, s.run P w = .ok (.value v') w ∧ ρ b = some p ∧ q.B = p.B ∧ ∀ ρ', Ext ρ ρ' → ρ' id = some q → VR ρ' v v'
  | .fail => True
theorem QN.of {s : Sem Value} {r : QR} (hq : QV P s ρ id w r) : QN P (do pure (.value (← s))) ρ id w r := by
  cases r with
  | val v =>
    obtain ⟨v', h1, h2⟩ := hq
    exact ⟨v', by simp only [Sem.run_bind, h1, Result.andThen_ok, Sem.run_pure], h2⟩
  | new ob v =>
    obtain ⟨v', c, d, p, h1, h2⟩ := hq
    exact ⟨v', c, d, p, by simp only [Sem.run_bind, h1, Result.andThen_ok, Sem.run_pure], h2⟩
  | dead v =>
    obtain ⟨v', q, b, p, h1, h2⟩ := hq
    exact ⟨v', q, b, p, by simp only [Sem.run_bind, h1, Result.andThen_ok, Sem.run_pure], h2⟩
  | fail => trivial

theorem mapA_LR (s : SI N U ws ρ h nx w) {t : T Value} {n : Nat} {a : Act} (ht : TmR ρ t n a.tmps) : ∀ (xs : List Operand), (∀ x ∈ xs, okOperand N x = true) → LR ρ (mapA t xs) (xs.map a.eval)
  | [], _ => .nil
  | x :: xs, hx => .cons (aev_VR s ht (hx x (by simp))) (mapA_LR s ht xs fun y hy => hx y (by simp [hy]))
theorem mapP_PR (s : SI N U ws ρ h nx w) {t : T Value} {n : Nat} {a : Act} (ht : TmR ρ t n a.tmps) : ∀ (ps : List (Nat × Operand)), (∀ x ∈ ps.map (·.2), okOperand N x = true) →
    PR ρ (mapP t ps) (ps.map fun (i, x) => (i, a.eval x))
  | [], _ => .nil
  | p :: ps, hx => .cons p.1 (aev_VR s ht (hx p.2 (by simp))) (mapP_PR s ht ps fun y hy => hx y (by
      simp only [List.map_cons, List.mem_cons]; exact .inr hy))
theorem okOp_mem {op : Op} (hk : okOp N op = true) : ∀ x ∈ op.operands, okOperand N x = true := fun x hx =>
  List.all_eq_true.1 hk x (by simpa using hx)
theorem arr_eq {α : Type} (a : Array α) : a = ⟨a.toList⟩ := rfl
theorem qop_ok (s : SI N U ws ρ h nx w) {t : T Value} {n : Nat} {a : Act} (ht : TmR ρ t n a.tmps) {o : Oper} (hk : okOp N o.op = true) :
    QN P (execOp a.eval o) ρ id w (qop P (envOf P) h id t o.op) := by
  obtain ⟨dst, op, ty, pos, after, guard⟩ := o
  have hm := okOp_mem hk
  have ev : ∀ x ∈ op.operands, VR ρ (aev t x) (a.eval x) := fun x hx => aev_VR s ht (hm x hx)
  cases op <;> simp only [qop] <;> try trivial
  case move x => exact ⟨_, rfl, ev x (by simp [Op.operands])⟩
  case assign x => exact ⟨_, rfl, ev x (by simp [Op.operands])⟩
  case pick c x y =>
    have hc := ev c (by simp [Op.operands])
    have hx := ev x (by simp [Op.operands])
    have hy := ev y (by simp [Op.operands])
    split
    · rename_i e
      rw [e] at hc
      have hc : a.eval c = .bool true := by cases hc' : a.eval c <;> rw [hc'] at hc <;> cases hc; rfl
      exact ⟨_, by simp only [execOp, hc, asBool, pure_bind, if_true, Sem.run_pure], hx⟩
    · rename_i e
      rw [e] at hc
      have hc : a.eval c = .bool false := by cases hc' : a.eval c <;> rw [hc'] at hc <;> cases hc; rfl
      exact ⟨_, by simp only [execOp, hc, asBool, pure_bind, Bool.false_eq_true, if_false, Sem.run_pure], hy⟩
    · trivial
  case alloc e => exact QN.of (qAlloc_ok)
  case box e x => exact QN.of (qBox_ok (ev x (by simp [Op.operands])))
  case build ty ps =>
    have := qBuild_ok (P := P) (id := id) (w := w) (ty := ty) (mapP_PR s ht ps.toList (fun x hx => hm x (by simpa [Op.operands] using hx)))
    refine QN.of ?_
    have hps : ∀ f : Nat × Operand → Nat × Value, ps.map f = ⟨ps.toList.map f⟩ := fun f => by apply Array.ext'; simp
    rw [hps]
    exact this
  case buildSlice ty n ps =>
    have := qBuildSlice_ok (P := P) (id := id) (w := w) (ty := ty) (len := n) (mapP_PR s ht ps.toList (fun x hx => hm x (by simpa [Op.operands] using hx)))
    refine QN.of ?_
    have hps : ∀ f : Nat × Operand → Nat × Value, ps.map f = ⟨ps.toList.map f⟩ := fun f => by apply Array.ext'; simp
    rw [hps]
    exact this
  case load ty x => exact QN.of (qLoad_ok s (ev x (by simp [Op.operands])))
  case nilCheck x =>
    have hx := ev x (by simp [Op.operands])
    unfold qNil
    generalize aev t x = v at *
    generalize hv' : a.eval x = v' at *
    split
    · cases hx with
      | ptr hp => exact ⟨_, by simp only [execOp, hv']; rfl, VR.ptr hp⟩
    · cases hx with
      | func fn b c b' c' hf hb hc hA hC => exact ⟨_, by simp only [execOp, hv']; rfl, .func _ _ _ _ _ hf hb hc hA hC⟩
    · cases hx with
      | func fn b c b' c' hf hb hc hA hC => exact absurd rfl (hf _)
      | yield hl => exact ⟨_, by simp only [execOp, hv']; rfl, .yield hl⟩
    · cases hx with
      | iface t hv => exact ⟨_, by simp only [execOp, hv']; rfl, .iface _ hv⟩
    · trivial
  case binOp op ty x y yt => exact QN.of (qBin_ok (ev x (by simp [Op.operands])) (ev y (by simp [Op.operands])))
  case unOp op ty x => exact QN.of (qUn_ok (ev x (by simp [Op.operands])))
  case convert c d x => exact QN.of (qConvert_ok s (ev x (by simp [Op.operands])))
  case makeInterface ty x => exact QN.of (qMakeIface_ok (ev x (by simp [Op.operands])))
  case makeFunc fn fs cs =>
    have h1 := mapA_LR s ht fs.toList (fun x hx => hm x (by simp only [Op.operands]; exact Array.mem_append.2 (.inl (by simpa using hx))))
    have h2 := mapA_LR s ht cs.toList (fun x hx => hm x (by simp only [Op.operands]; exact Array.mem_append.2 (.inr (by simpa using hx))))
    have g1 := AR.of_LR h1
    have g2 := AR.of_LR h2
    have e1 : fs.map a.eval = ⟨fs.toList.map a.eval⟩ := by apply Array.ext'; simp
    have e2 : cs.map a.eval = ⟨cs.toList.map a.eval⟩ := by apply Array.ext'; simp
    split
    · trivial
    · rename_i hf
      refine ⟨.func fn (fs.map a.eval) (cs.map a.eval), rfl, ?_⟩
      rw [e1, e2]
      exact .func _ _ _ _ _ (fun l e => hf l e) g1.1 g2.1 g1.2 g2.2
  case makeMap ty r =>
    cases r with
    | none =>
      refine ⟨.map (some w.heap.size), .map #[] 0, w.drawn, ⟨w.heap.size, 0, 0⟩, rfl, rfl, fun ρ' he hi => ⟨⟨rfl, #[], rfl, .nil⟩, VR.mp hi⟩⟩
    | some x => trivial
  case makeSlice ty l c => exact QN.of (qMakeSlice_ok (ev l (by simp [Op.operands])) (ev c (by simp [Op.operands])))
  case slice ty x lo hi mx =>
    have ov : ∀ y : Option Operand, (∀ z, y = some z → z ∈ (Op.slice ty x lo hi mx).operands) → OV ρ (mapO t y) (y.map a.eval) := fun y hy => by
      cases y with
      | none => exact .none
      | some z => exact .some (ev z (hy z rfl))
    exact QN.of (qSlice_ok s (ev x (by simp [Op.operands])) (ov lo (fun z e => by simp [Op.operands, e])) (ov hi (fun z e => by simp [Op.operands, e])) (ov mx (fun z e => by simp [Op.operands, e])))
  case fieldAddr ty x f => exact QN.of (qFieldAddr_ok (ev x (by simp [Op.operands])))
  case field ty x f => exact QN.of (qField_ok (ev x (by simp [Op.operands])))
  case indexAddr ty x i => exact QN.of (qIndexAddr_ok (ev x (by simp [Op.operands])) (ev i (by simp [Op.operands])))
  case index ty x i => exact QN.of (qIndex_ok (ev x (by simp [Op.operands])) (ev i (by simp [Op.operands])))
  case lookup ty m k ok => exact QN.of (qLookup_ok s (ev m (by simp [Op.operands])) (ev k (by simp [Op.operands])))
  case range ty x => exact QN.of (qRange_ok s (ev x (by simp [Op.operands])))
  case entry x => exact QN.of (qEntry_ok s (ev x (by simp [Op.operands])))
  case typeAssert x xt as ok => exact QN.of (qAssert_ok (ev x (by simp [Op.operands])))
  case extract x i => exact QN.of (qExtract_ok (ev x (by simp [Op.operands])))
  case call c =>
    obtain ⟨callee, args, argTypes⟩ := c
    cases callee with
    | builtin b =>
      obtain ⟨args⟩ := args
      obtain ⟨argTypes⟩ := argTypes
      cases b <;> simp only [qBuiltin] <;> try trivial
      case len =>
        split
        · rename_i x
          split
          · rename_i ty' l
            have := qLen_ok (P := P) (id := id) s (ts := ⟨ty' :: l⟩) (t := ty) (ty := ty') rfl (ev x (by simp [Op.operands, Call.operands]))
            have e : (⟨[x]⟩ : Array Operand).map a.eval = #[a.eval x] := by simp
            show QN P (do pure (.value (← Builtin.len_ ⟨ty' :: l⟩ ty ((⟨[x]⟩ : Array Operand).map a.eval)))) ρ id w _
            rw [e]
            exact QN.of this
          · trivial
        · trivial
      case cap =>
        split
        · rename_i x
          split
          · rename_i ty' l
            have := qCap_ok (P := P) (id := id) (w := w) (ts := ⟨ty' :: l⟩) (t := ty) (ty := ty') rfl (ev x (by simp [Op.operands, Call.operands]))
            have e : (⟨[x]⟩ : Array Operand).map a.eval = #[a.eval x] := by simp
            show QN P (do pure (.value (← Builtin.cap_ ⟨ty' :: l⟩ ty ((⟨[x]⟩ : Array Operand).map a.eval)))) ρ id w _
            rw [e]
            exact QN.of this
          · trivial
        · trivial
      case max =>
        split
        · rename_i x y
          have e : (⟨[x, y]⟩ : Array Operand).map a.eval = #[a.eval x, a.eval y] := by simp
          show QN P (do pure (.value (← Builtin.max_ ⟨argTypes⟩ ty ((⟨[x, y]⟩ : Array Operand).map a.eval)))) ρ id w _
          rw [e]
          exact QN.of (maxI_ok (P := P) (id := id) (w := w) (ts := ⟨argTypes⟩) (t := ty) (ev x (by simp [Op.operands, Call.operands])) (ev y (by simp [Op.operands, Call.operands]))).1
        · trivial
      case min =>
        split
        · rename_i x y
          have e : (⟨[x, y]⟩ : Array Operand).map a.eval = #[a.eval x, a.eval y] := by simp
          show QN P (do pure (.value (← Builtin.min_ ⟨argTypes⟩ ty ((⟨[x, y]⟩ : Array Operand).map a.eval)))) ρ id w _
          rw [e]
          exact QN.of (maxI_ok (P := P) (id := id) (w := w) (ts := ⟨argTypes⟩) (t := ty) (ev x (by simp [Op.operands, Call.operands])) (ev y (by simp [Op.operands, Call.operands]))).2
        · trivial
    | value f => trivial
    | invoke r m => trivial
end
end Go.Proofs.YtmiojdppkooikaaGreatDoor.Abs
