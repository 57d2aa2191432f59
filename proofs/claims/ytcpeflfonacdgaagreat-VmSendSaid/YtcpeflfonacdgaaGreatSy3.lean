/- The symbolic executor: parts P, Q, R, S, T, Ua, Ub. Sound by one theorem (callA_ok). No condition. -/
import Derived.Test.YtcpeflfonacdgaaGreatSy2
set_option linter.unusedVariables false
set_option linter.unusedSimpArgs false
set_option linter.unusedSectionVars false
/-! The symbolic executor, part P: copy; comparisons. -/
namespace Go.Sy
set_option linter.unusedVariables false
set_option linter.unusedSectionVars false
noncomputable section

/-! comparisons -/
def setPhi (s : S) (φ : Phi) : S := match s with | .mk h nx _ => ⟨h, nx, φ⟩
theorem setPhi_eq (s : S) (φ : Phi) : setPhi s φ = ⟨s.h, s.nx, φ⟩ := by cases s; rfl
theorem phi_eq (s : S) : s.phi = s.φ := by cases s; rfl
theorem next_eq (s : S) : s.next = s.nx := by cases s; rfl
/-- a condition on integers: what is asked, and whether it is turned round -/
def condOf (o : Nat) (a b : Tm) : Option (Cond × Bool) := match o with
  | 0 => some (.eq a b, false)
  | 1 => some (.eq a b, true)
  | 2 => some (.le b a, true)
  | 3 => some (.le a b, false)
  | 4 => some (.le a b, true)
  | 5 => some (.le b a, false)
  | _ => none
def xorB (a b : Bool) : Bool := match a with | true => bnot b | false => b
def cmpI (o : Nat) (x y : Int) : Bool := match o with
  | 0 => decide (x = y) | 1 => !decide (x = y) | 2 => decide (x < y) | 3 => decide (x ≤ y) | 4 => decide (x > y) | _ => decide (x ≥ y)
/-- equal or not, where it is known -/
def eqRes (o : Nat) (b : Bool) : Option Bool := match o with | 0 => some b | 1 => some (bnot b) | _ => none
def eqLK (l : List AS) : List AS → Phi → (Bool → Phi → Bool) → Bool :=
  List.rec (fun m φ k => List.casesOn m (k true φ) fun _ _ => false)
    (fun x _ ih m φ k => List.casesOn m false fun y m => match x with
      | .int kx a => (match y with | .int ky b => ifB (kindEq kx ky) (brc φ (.eq a b) fun r φ => match r with | true => ih m φ k | false => k false φ) | _ => false)
      | _ => false) l
def eqTK (l : List Tm) : List Tm → Phi → (Bool → Phi → Bool) → Bool :=
  List.rec (fun m φ k => List.casesOn m (k true φ) fun _ _ => k false φ)
    (fun x _ ih m φ k => List.casesOn m (k false φ) fun y m => ifB (and2 (within φ x 255) (within φ y 255)) (brc φ (.eq x y) fun r φ => match r with | true => ih m φ k | false => k false φ)) l
theorem eqLK_nil (m : List AS) (φ : Phi) (k : Bool → Phi → Bool) : eqLK [] m φ k = match m with | [] => k true φ | _ => false := by cases m <;> rfl
theorem eqLK_cons (x : AS) (l m : List AS) (φ : Phi) (k : Bool → Phi → Bool) : eqLK (x :: l) m φ k = match m with
    | [] => false
    | y :: m => (match x with
      | .int kx a => (match y with | .int ky b => ifB (kindEq kx ky) (brc φ (.eq a b) fun r φ => match r with | true => eqLK l m φ k | false => k false φ) | _ => false)
      | _ => false) := by cases m <;> rfl
theorem eqTK_nil (m : List Tm) (φ : Phi) (k : Bool → Phi → Bool) : eqTK [] m φ k = match m with | [] => k true φ | _ => k false φ := by cases m <;> rfl
theorem eqTK_cons (x : Tm) (l m : List Tm) (φ : Phi) (k : Bool → Phi → Bool) : eqTK (x :: l) m φ k = match m with
    | [] => k false φ
    | y :: m => ifB (and2 (within φ x 255) (within φ y 255)) (brc φ (.eq x y) fun r φ => match r with | true => eqTK l m φ k | false => k false φ) := by cases m <;> rfl

def cmpS (o : Nat) (g : CTag) (x y : AS) (s : S) (k : Bool → S → Bool) : Bool := match g with
  | .int => (match x with
    | .int kx a => (match y with
      | .int ky b => ifB (kindEq kx ky) (optB (condOf o a b) fun p => brc s.phi p.1 fun r φ => k (xorB p.2 r) (setPhi s φ))
      | _ => false)
    | _ => false)
  | .bool => (match x with | .bool a => (match y with | .bool b => optB (eqRes o (boolEq a b)) fun r => k r s | _ => false) | _ => false)
  | .ptr => (match y with | .nilp => (match x with | .ptr _ _ => optB (eqRes o false) fun r => k r s | .nilp => optB (eqRes o true) fun r => k r s | _ => false) | _ => false)
  | .slice => (match y with | .nils => (match x with | .slice _ _ _ _ => optB (eqRes o false) fun r => k r s | .nils => optB (eqRes o true) fun r => k r s | _ => false) | _ => false)
  | .map => (match y with | .nilm => (match x with | .map _ => optB (eqRes o false) fun r => k r s | .nilm => optB (eqRes o true) fun r => k r s | _ => false) | _ => false)
  | .fn => (match y with | .nilfn => (match x with | .fn _ _ => optB (eqRes o false) fun r => k r s | .nilfn => optB (eqRes o true) fun r => k r s | _ => false) | _ => false)
  | .iface => (match y with | .niliface => (match x with | .iface _ => optB (eqRes o false) fun r => k r s | .niliface => optB (eqRes o true) fun r => k r s | _ => false) | _ => false)
  | _ => false
def cmpA (o : Nat) (g : CTag) (x y : AV) (s : S) (k : Bool → S → Bool) : Bool := match g with
  | .agg kt => optB (asW x) fun xw => optB (asW y) fun yw => ifB (and2 (shapeK kt xw) (shapeK kt yw)) (eqLK (cellsW xw) (cellsW yw) s.phi fun r φ => optB (eqRes o r) fun r => k r (setPhi s φ))
  | .str => (match x with | .str l => (match y with | .str m => eqTK l m s.phi fun r φ => optB (eqRes o r) fun r => k r (setPhi s φ) | _ => false) | _ => false)
  | g => optB (asS x) fun xs => optB (asS y) fun ys => cmpS o g xs ys s k
/-- the greater, the lesser one -/
def mmA (mx : Bool) (x y : AV) (s : S) (k : BK) : Bool := optB (asIntA x) fun p => optB (asIntA y) fun q => ifB (kindEq p.1 q.1) (match mx with
  | true => brc s.phi (.le q.2 p.2) fun r φ => (match r with | true => k (vInt p.1 p.2) (setPhi s φ) | false => k (vInt p.1 q.2) (setPhi s φ))
  | false => brc s.phi (.le p.2 q.2) fun r φ => (match r with | true => k (vInt p.1 p.2) (setPhi s φ) | false => k (vInt p.1 q.2) (setPhi s φ)))

section
variable {P : Program} {T : TyT} {c : Cx} {s : S} {w : World}

theorem eqLK_spec {σ : Env} : ∀ {l m : List AS} {φ : Phi} {k : Bool → Phi → Bool}, Sat σ φ → eqLK l m φ k = true →
    ∃ φ' b, Sat σ φ' ∧ k b φ' = true ∧ ∀ c : Cx, c.σ = σ → (b = true ↔ l.map (AS.conc c) = m.map (AS.conc c)) := by
  intro l
  induction l with
  | nil =>
    intro m φ k hs h
    rw [eqLK_nil] at h
    cases m with
    | nil => exact ⟨φ, true, hs, h, fun c _ => by simp⟩
    | cons => cases h
  | cons x l ih =>
    intro m φ k hs h
    rw [eqLK_cons] at h
    cases m with
    | nil => cases h
    | cons y m =>
      cases x <;> simp only at h <;> try (cases h; done)
      rename_i kx a
      cases y <;> simp only at h <;> try (cases h; done)
      rename_i ky b
      obtain ⟨hk, h0⟩ := ifB_true h
      clear h
      have hk := kindEq_eq hk
      subst hk
      obtain ⟨φ', hs', h'⟩ := brc_spec hs h0
      cases hc : (Cond.eq a b).eval σ with
      | true =>
        rw [hc] at h'
        obtain ⟨φ2, r, a1, a2, a3⟩ := ih hs' h'
        refine ⟨φ2, r, a1, a2, fun c hcσ => ?_⟩
        rw [a3 c hcσ]
        simp only [Cond.eval, decide_eq_true_eq] at hc
        simp [AS.conc, hcσ, hc]
      | false =>
        rw [hc] at h'
        refine ⟨φ', false, hs', h', fun c hcσ => ?_⟩
        simp only [Cond.eval, decide_eq_false_iff_not] at hc
        simp [AS.conc, hcσ, hc]
theorem byteT_eq {σ : Env} {φ : Phi} (hs : Sat σ φ) {x y : Tm} (h1 : within φ x 255 = true) (h2 : within φ y 255 = true) : byteT σ x = byteT σ y ↔ x.eval σ = y.eval σ := by
  obtain ⟨m, em, hm⟩ := within_spec hs h1
  obtain ⟨n, en, hn⟩ := within_spec hs h2
  simp only [byteT, em, en, Int.toNat_natCast]
  constructor
  · intro h
    have := congrArg UInt8.toNat h
    simp only [UInt8.toNat_ofNat'] at this
    rw [Nat.mod_eq_of_lt (by omega), Nat.mod_eq_of_lt (by omega)] at this
    rw [this]
  · intro h
    have : m = n := by omega
    rw [this]
theorem eqTK_spec {σ : Env} : ∀ {l m : List Tm} {φ : Phi} {k : Bool → Phi → Bool}, Sat σ φ → eqTK l m φ k = true →
    ∃ φ' b, Sat σ φ' ∧ k b φ' = true ∧ (b = true ↔ l.map (byteT σ) = m.map (byteT σ)) := by
  intro l
  induction l with
  | nil =>
    intro m φ k hs h
    rw [eqTK_nil] at h
    cases m with
    | nil => exact ⟨φ, true, hs, h, by simp⟩
    | cons => exact ⟨φ, false, hs, h, by simp⟩
  | cons x l ih =>
    intro m φ k hs h
    rw [eqTK_cons] at h
    cases m with
    | nil => exact ⟨φ, false, hs, h, by simp⟩
    | cons y m =>
      simp only at h
      obtain ⟨hw, h⟩ := ifB_true h
      obtain ⟨w1, w2⟩ := and2_iff.1 hw
      have hb := byteT_eq hs w1 w2
      obtain ⟨φ', hs', h'⟩ := brc_spec hs h
      cases hc : (Cond.eq x y).eval σ with
      | true =>
        rw [hc] at h'
        obtain ⟨φ2, r, a1, a2, a3⟩ := ih hs' h'
        refine ⟨φ2, r, a1, a2, ?_⟩
        rw [a3]
        simp only [Cond.eval, decide_eq_true_eq] at hc
        simp [hb.2 hc]
      | false =>
        rw [hc] at h'
        refine ⟨φ', false, hs', h', ?_⟩
        simp only [Cond.eval, decide_eq_false_iff_not] at hc
        simp only [Bool.false_eq_true, List.map_cons, List.cons.injEq, false_iff, not_and]
        intro e; exact absurd (hb.1 e) hc

theorem eqRes_spec {o : Nat} {b r : Bool} (h : eqRes o b = some r) : (o = 0 ∧ r = b) ∨ (o = 1 ∧ r = !b) := by
  unfold eqRes at h
  split at h
  · injection h with h; exact .inl ⟨rfl, h.symm⟩
  · injection h with h; exact .inr ⟨rfl, by rw [← h]; cases b <;> rfl⟩
  · cases h
theorem condOf_spec {σ : Env} {o : Nat} {a b : Tm} {p : Cond × Bool} (h : condOf o a b = some p) : xorB p.2 (p.1.eval σ) = cmpI o (a.eval σ) (b.eval σ) := by
  unfold cmpI
  have hb : ∀ b : Bool, bnot b = !b := fun b => by cases b <;> rfl
  unfold condOf at h
  split at h <;> first
    | (cases h; done)
    | (injection h with h; subst h; simp only [xorB, Cond.eval, hb]; done)
    | (injection h with h; subst h; simp only [xorB, Cond.eval, hb]
       first
         | rfl
         | (rw [Bool.eq_iff_iff]; simp; done)
         | (rw [Bool.eq_iff_iff]; simp; omega)
         | (rw [Bool.eq_iff_iff]; simp; exact ⟨fun h => decide_eq_true h, fun h => of_decide_eq_true h⟩))
end
end
end Go.Sy

/-! The symbolic executor, part Q: comparisons and copies are sound. -/
namespace Go.Sy
set_option linter.unusedVariables false
set_option linter.unusedSectionVars false
noncomputable section

def cmpCode (op : BinOp) : Option Nat := match op with | .eql => some 0 | .neq => some 1 | .lss => some 2 | .leq => some 3 | .gtr => some 4 | .geq => some 5 | _ => none
def isConst (x : Operand) : Bool := match x with | .const _ => true | _ => false
def tagOf (T : TyT) (t : TypeId) (y : Operand) : Option CTag := match T t with
  | none => none
  | some i => (match i.desc with
    | .int _ => some .int
    | .bool => some .bool
    | .pointer _ => some .ptr
    | .slice _ => some .slice
    | .map _ _ => some .map
    | .func _ _ _ => some .fn
    | .interface _ => (match isConst y with | true => some .iface | false => none)
    | .string => some .str
    | .array _ _ => (match i.plain with | true => (compKT T t).map .agg | false => none)
    | .struct _ => (match i.plain with | true => (compKT T t).map .agg | false => none)
    | _ => none)

section
variable {P : Program} {T : TyT} {c : Cx} {s : S} {w : World}

theorem equal_unfold (t : TypeId) (x y : Value) : Op.equal t x y = Op.equalIn (9999 + 1) t x y := rfl
theorem eql_run (op : BinOp) {o : Nat} (ho : cmpCode op = some o) {t : TypeId} {x y : Value} {b r : Bool} (hr : eqRes o b = some r) (he : (Op.equal t x y).run P w = .ok b w)
    (hx : binOp .eql t x y = (do pure (.bool (← Op.equal t x y)))) (hn : binOp .neq t x y = (do pure (.bool (!(← Op.equal t x y))))) : (binOp op t x y).run P w = .ok (.bool r) w := by
  rcases eqRes_spec hr with ⟨rfl, rfl⟩ | ⟨rfl, rfl⟩
  · cases op <;> simp [cmpCode] at ho
    rw [hx]; simp [he]
  · cases op <;> simp [cmpCode] at ho
    rw [hn]; simp [he]
theorem int_run (op : BinOp) {o : Nat} (ho : cmpCode op = some o) (t : TypeId) (k : IntKind) (x y : Int) : (binOp op t (.int k x) (.int k y)).run P w = .ok (.bool (cmpI o x y)) w := by
  cases op <;> simp [cmpCode] at ho <;> subst ho <;> simp [binOp, Op.intCmp, cmpI] <;> rfl
theorem guard_none (op : BinOp) (t : TypeId) (x y : Operand) {a b : Value} (h1 : a ≠ .nilIface ∨ b ≠ .nilIface) (h2 : ∀ l, a ≠ .agg l) : eqGuard op t x y a b = pure () := by
  unfold eqGuard
  cases op <;> simp <;> (cases a <;> cases b <;> simp_all)

theorem eq_ptr {t e : TypeId} (hu : P.underlying t = some (.pointer e)) (w : World) (d : Nat) (q : Option Addr) : (Op.equalIn (d + 1) t (.pointer q) (.pointer none)).run P w = .ok q.isNone w := by
  cases q <;> simp [Op.equalIn, run_underlying hu]
theorem eq_slice {t e : TypeId} (hu : P.underlying t = some (.slice e)) (w : World) (d : Nat) (q : Option Addr) (n m : Nat) : (Op.equalIn (d + 1) t (.slice q n m) (.slice none 0 0)).run P w = .ok q.isNone w := by
  cases q <;> simp [Op.equalIn, run_underlying hu]
theorem eq_map {t a b : TypeId} (hu : P.underlying t = some (.map a b)) (w : World) (d : Nat) (q : Option Nat) : (Op.equalIn (d + 1) t (.map q) (.map none)).run P w = .ok q.isNone w := by
  cases q <;> simp [Op.equalIn, run_underlying hu]
theorem eq_fn1 {t : TypeId} {a b : Array TypeId} {v : Bool} (hu : P.underlying t = some (.func a b v)) (w : World) (d : Nat) (f : Fn) (x y : Array Value) : (Op.equalIn (d + 1) t (.func f x y) .nilFunc).run P w = .ok false w := by
  simp [Op.equalIn, run_underlying hu]
theorem eq_fn2 {t : TypeId} {a b : Array TypeId} {v : Bool} (hu : P.underlying t = some (.func a b v)) (w : World) (d : Nat) : (Op.equalIn (d + 1) t .nilFunc .nilFunc).run P w = .ok true w := by
  simp [Op.equalIn, run_underlying hu]
theorem eq_if1 {t : TypeId} {ms : Array (String × TypeId)} (hu : P.underlying t = some (.interface ms)) (w : World) (d : Nat) (u : TypeId) (x : Value) : (Op.equalIn (d + 1) t (.iface u x) .nilIface).run P w = .ok false w := by
  simp [Op.equalIn, run_underlying hu]
theorem eq_if2 {t : TypeId} {ms : Array (String × TypeId)} (hu : P.underlying t = some (.interface ms)) (w : World) (d : Nat) : (Op.equalIn (d + 1) t .nilIface .nilIface).run P w = .ok true w := by
  simp [Op.equalIn, run_underlying hu]

/-- what is compared is compared in the world -/
theorem cmp_sound (hT : TOk P T) {t : TypeId} {x y : Operand} {op : BinOp} {o : Nat} (ho : cmpCode op = some o) {g : CTag} (hg : tagOf T t y = some g) (h : Rel c s w) {xv yv : AV}
    {k : Bool → S → Bool} (hk : cmpA o g xv yv s k = true) :
    ∃ b φ', ((do eqGuard op t x y (xv.conc c) (yv.conc c); binOp op t (xv.conc c) (yv.conc c)) : Sem Value).run P w = .ok (.bool b) w ∧ Sat c.σ φ' ∧ k b ⟨s.h, s.nx, φ'⟩ = true := by
  unfold tagOf at hg
  split at hg <;> try (simp at hg; done)
  rename_i i hi
  have hi := hT _ _ hi
  have hund := hi.und
  have two : ∀ {xs ys : AS}, (optB (asS xv) fun xs => optB (asS yv) fun ys => cmpS o g xs ys s k) = true → ∃ xs ys, xv = .w (.s xs) ∧ yv = .w (.s ys) ∧ cmpS o g xs ys s k = true := by
    intro _ _ h
    obtain ⟨xs, h1, h⟩ := optB_true h
    obtain ⟨ys, h2, h⟩ := optB_true h
    exact ⟨xs, ys, asS_spec h1, asS_spec h2, h⟩
  have fin : ∀ {X Y : Value} {b r : Bool}, eqRes o b = some r → (∀ l, X ≠ .agg l) → (X ≠ .nilIface ∨ Y ≠ .nilIface) → (Op.equal t X Y).run P w = .ok b w →
      binOp .eql t X Y = (do pure (.bool (← Op.equal t X Y))) → binOp .neq t X Y = (do pure (.bool (!(← Op.equal t X Y)))) →
      ((do eqGuard op t x y X Y; binOp op t X Y) : Sem Value).run P w = .ok (.bool r) w := by
    intro X Y b r hr h1 h2 he hx hn
    rw [guard_none op t x y h2 h1]
    simp only [Sem.run_bind, Sem.run_pure, Result.andThen_ok]
    exact eql_run op ho hr he hx hn
  split at hg <;> try (simp at hg; done)
  · -- int
    rename_i kk hd
    injection hg with hg; subst hg
    obtain ⟨xs, ys, rfl, rfl, hk2⟩ := two (xs := .nilp) (ys := .nilp) hk
    clear hk
    have hk := hk2
    clear hk2
    simp only [cmpS] at hk
    split at hk <;> try (simp at hk; done)
    rename_i kx a
    split at hk <;> try (simp at hk; done)
    rename_i ky b
    obtain ⟨hkk, hk1⟩ := ifB_true hk
    clear hk
    have hkk := kindEq_eq hkk
    subst hkk
    obtain ⟨p, hp, hk3⟩ := optB_true hk1
    rw [phi_eq] at hk3
    obtain ⟨φ', hs', hk4⟩ := brc_spec h.sat hk3
    rw [setPhi_eq, condOf_spec hp] at hk4
    refine ⟨_, φ', ?_, hs', hk4⟩
    have e1 : (AV.w (.s (.int kx a))).conc c = .int kx (a.eval c.σ) := rfl
    have e2 : (AV.w (.s (.int kx b))).conc c = .int kx (b.eval c.σ) := rfl
    rw [e1, e2, guard_none op t x y (.inl (by simp)) (by simp)]
    simp only [Sem.run_bind, Sem.run_pure, Result.andThen_ok]
    exact int_run op ho t kx _ _
  · -- bool
    rename_i hd
    injection hg with hg; subst hg
    obtain ⟨xs, ys, rfl, rfl, hk2⟩ := two (xs := .nilp) (ys := .nilp) hk
    clear hk
    have hk := hk2
    clear hk2
    simp only [cmpS] at hk
    split at hk <;> try (simp at hk; done)
    rename_i a
    split at hk <;> try (simp at hk; done)
    rename_i b
    obtain ⟨r, hr, hk⟩ := optB_true hk
    refine ⟨r, s.φ, ?_, h.sat, hk⟩
    have hbe : boolEq a b = (a == b) := by cases a <;> cases b <;> rfl
    rw [hbe] at hr
    exact fin hr (by simp [AV.conc, AW.conc, AS.conc]) (.inl (by simp [AV.conc, AW.conc, AS.conc])) (run_equal_bool (P := P) w t a b (by rw [hund, hd])) rfl rfl
  · -- pointer
    rename_i e hd
    injection hg with hg; subst hg
    obtain ⟨xs, ys, rfl, rfl, hk2⟩ := two (xs := .nilp) (ys := .nilp) hk
    clear hk
    have hk := hk2
    clear hk2
    simp only [cmpS] at hk
    split at hk <;> try (simp at hk; done)
    split at hk <;> try (simp at hk; done)
    · obtain ⟨r, hr, hk⟩ := optB_true hk
      refine ⟨r, s.φ, ?_, h.sat, hk⟩
      refine fin hr (by simp [AV.conc, AW.conc, AS.conc]) (.inl (by simp [AV.conc, AW.conc, AS.conc])) ?_ rfl rfl
      exact eq_ptr (by rw [hund, hd]) w 9999 _
    · obtain ⟨r, hr, hk⟩ := optB_true hk
      refine ⟨r, s.φ, ?_, h.sat, hk⟩
      refine fin hr (by simp [AV.conc, AW.conc, AS.conc]) (.inl (by simp [AV.conc, AW.conc, AS.conc])) ?_ rfl rfl
      exact eq_ptr (by rw [hund, hd]) w 9999 _
  · -- slice
    rename_i e hd
    injection hg with hg; subst hg
    obtain ⟨xs, ys, rfl, rfl, hk2⟩ := two (xs := .nilp) (ys := .nilp) hk
    clear hk
    have hk := hk2
    clear hk2
    simp only [cmpS] at hk
    split at hk <;> try (simp at hk; done)
    split at hk <;> try (simp at hk; done)
    · obtain ⟨r, hr, hk⟩ := optB_true hk
      refine ⟨r, s.φ, ?_, h.sat, hk⟩
      refine fin hr (by simp [AV.conc, AW.conc, AS.conc]) (.inl (by simp [AV.conc, AW.conc, AS.conc])) ?_ rfl rfl
      exact eq_slice (by rw [hund, hd]) w 9999 _ _ _
    · obtain ⟨r, hr, hk⟩ := optB_true hk
      refine ⟨r, s.φ, ?_, h.sat, hk⟩
      refine fin hr (by simp [AV.conc, AW.conc, AS.conc]) (.inl (by simp [AV.conc, AW.conc, AS.conc])) ?_ rfl rfl
      exact eq_slice (by rw [hund, hd]) w 9999 _ _ _
  · -- map
    rename_i e1 e2 hd
    injection hg with hg; subst hg
    obtain ⟨xs, ys, rfl, rfl, hk2⟩ := two (xs := .nilp) (ys := .nilp) hk
    clear hk
    have hk := hk2
    clear hk2
    simp only [cmpS] at hk
    split at hk <;> try (simp at hk; done)
    split at hk <;> try (simp at hk; done)
    · obtain ⟨r, hr, hk⟩ := optB_true hk
      refine ⟨r, s.φ, ?_, h.sat, hk⟩
      refine fin hr (by simp [AV.conc, AW.conc, AS.conc]) (.inl (by simp [AV.conc, AW.conc, AS.conc])) ?_ rfl rfl
      exact eq_map (by rw [hund, hd]) w 9999 _
    · obtain ⟨r, hr, hk⟩ := optB_true hk
      refine ⟨r, s.φ, ?_, h.sat, hk⟩
      refine fin hr (by simp [AV.conc, AW.conc, AS.conc]) (.inl (by simp [AV.conc, AW.conc, AS.conc])) ?_ rfl rfl
      exact eq_map (by rw [hund, hd]) w 9999 _
  · -- function
    rename_i e1 e2 e3 hd
    injection hg with hg; subst hg
    obtain ⟨xs, ys, rfl, rfl, hk2⟩ := two (xs := .nilp) (ys := .nilp) hk
    clear hk
    have hk := hk2
    clear hk2
    simp only [cmpS] at hk
    split at hk <;> try (simp at hk; done)
    split at hk <;> try (simp at hk; done)
    · obtain ⟨r, hr, hk⟩ := optB_true hk
      refine ⟨r, s.φ, ?_, h.sat, hk⟩
      refine fin hr (by simp [AV.conc, AW.conc, AS.conc]) (.inl (by simp [AV.conc, AW.conc, AS.conc])) ?_ rfl rfl
      exact eq_fn1 (by rw [hund, hd]) w 9999 _ _ _
    · obtain ⟨r, hr, hk⟩ := optB_true hk
      refine ⟨r, s.φ, ?_, h.sat, hk⟩
      refine fin hr (by simp [AV.conc, AW.conc, AS.conc]) (.inl (by simp [AV.conc, AW.conc, AS.conc])) ?_ rfl rfl
      exact eq_fn2 (by rw [hund, hd]) w 9999
  · -- interface
    rename_i ms hd
    split at hg <;> try (simp at hg; done)
    rename_i hy
    injection hg with hg; subst hg
    obtain ⟨xs, ys, rfl, rfl, hk2⟩ := two (xs := .nilp) (ys := .nilp) hk
    clear hk
    have hk := hk2
    clear hk2
    simp only [cmpS] at hk
    split at hk <;> try (simp at hk; done)
    split at hk <;> try (simp at hk; done)
    · obtain ⟨r, hr, hk⟩ := optB_true hk
      refine ⟨r, s.φ, ?_, h.sat, hk⟩
      refine fin hr (by simp [AV.conc, AW.conc, AS.conc]) (.inl (by simp [AV.conc, AW.conc, AS.conc])) ?_ rfl rfl
      exact eq_if1 (by rw [hund, hd]) w 9999 _ _
    · obtain ⟨r, hr, hk⟩ := optB_true hk
      refine ⟨r, s.φ, ?_, h.sat, hk⟩
      have hgd : eqGuard op t x y Value.nilIface Value.nilIface = pure () := by
        cases y <;> simp [isConst] at hy
        unfold eqGuard
        cases op <;> simp
      have e1 : (AV.w (.s .niliface)).conc c = .nilIface := rfl
      rw [e1, hgd]
      simp only [Sem.run_bind, Sem.run_pure, Result.andThen_ok]
      refine eql_run op ho hr ?_ rfl rfl
      exact eq_if2 (by rw [hund, hd]) w 9999
  · -- string
    rename_i hd
    injection hg with hg; subst hg
    unfold cmpA at hk
    simp only at hk
    split at hk <;> try (simp at hk; done)
    rename_i l
    split at hk <;> try (simp at hk; done)
    rename_i m
    rw [phi_eq] at hk
    obtain ⟨φ', b, hs', hk, hb⟩ := eqTK_spec h.sat hk
    obtain ⟨r, hr, hk⟩ := optB_true hk
    rw [setPhi_eq] at hk
    refine ⟨r, φ', ?_, hs', hk⟩
    have e1 : ∀ q, (AV.str q).conc c = .string ⟨(q.map (byteT c.σ)).toArray⟩ := fun _ => rfl
    rw [e1, e1, guard_none op t x y (.inl (by simp)) (by simp)]
    simp only [Sem.run_bind, Sem.run_pure, Result.andThen_ok]
    have hbb : (l.map (byteT c.σ) == m.map (byteT c.σ)) = b := by rw [Bool.eq_iff_iff, hb]; simp
    rcases eqRes_spec hr with ⟨rfl, rfl⟩ | ⟨rfl, rfl⟩
    · cases op <;> simp [cmpCode] at ho
      simp [binOp, Op.stringOp, hbb]
    · cases op <;> simp [cmpCode] at ho
      simp [binOp, Op.stringOp, hbb]
  all_goals
    -- arrays, structs
    split at hg <;> try (simp at hg; done)
    rename_i hpl
    cases hkt : compKT T t with
    | none => rw [hkt] at hg; cases hg
    | some kt =>
      rw [hkt] at hg; injection hg with hg; subst hg
      have hK := compKT_ok hT hkt
      unfold cmpA at hk
      simp only at hk
      obtain ⟨xw, h1, hk⟩ := optB_true hk
      obtain ⟨yw, h2, hk⟩ := optB_true hk
      have e1 := asW_spec h1
      have e2 := asW_spec h2
      subst e1; subst e2
      obtain ⟨hsh, hk⟩ := ifB_true hk
      obtain ⟨s1, s2⟩ := and2_iff.1 hsh
      rw [phi_eq] at hk
      obtain ⟨φ', b, hs', hk, hb⟩ := eqLK_spec h.sat hk
      obtain ⟨r, hr, hk⟩ := optB_true hk
      rw [setPhi_eq] at hk
      refine ⟨r, φ', ?_, hs', hk⟩
      obtain ⟨q, hq, hqi⟩ := eqK (P := P) w hK (shapeK_spec s1 c) (shapeK_spec s2 c) 9997
      have hq : (Op.equal t (xw.conc c) (yw.conc c)).run P w = .ok q w := hq
      have hcells : (xw.conc c = yw.conc c) ↔ (cellsW xw).map (AS.conc c) = (cellsW yw).map (AS.conc c) := by
        cases xw with
        | s a => cases yw with
          | s b => simp [AW.conc, cellsW]
          | agg l => cases kt with
            | one z => cases z <;> simp [shapeK] at s1 s2
            | str fs => simp [shapeK] at s1
        | agg l => cases yw with
          | s b => cases kt with
            | one z => cases z <;> simp [shapeK] at s1 s2
            | str fs => simp [shapeK] at s2
          | agg m => simp [AW.conc, cellsW]
      have hqb : q = b := by
        rw [Bool.eq_iff_iff, hqi, hcells, hb c rfl]
      subst hqb
      have ex : (AV.w xw).conc c = xw.conc c := rfl
      have ey : (AV.w yw).conc c = yw.conc c := rfl
      rw [ex, ey]
      cases xw with
      | s a =>
        exfalso
        cases kt with
        | str fs => simp [shapeK] at s1
        | one z =>
          cases z with
          | arr n e k => simp [shapeK] at s1
          | int k =>
            have := hK.und
            simp only at this
            rw [hund] at this
            simp_all
      | agg l =>
        have hgd : (eqGuard op t x y ((AW.agg l).conc c) (yw.conc c)).run P w = .ok () w := by
          cases yw with
          | s b => cases kt with
            | one z => cases z <;> simp [shapeK] at s1 s2
            | str fs => simp [shapeK] at s2
          | agg m => exact run_eqGuard_agg w op t x y _ _ (hi.plain hpl).2
        simp only [Sem.run_bind, hgd, Result.andThen_ok]
        refine eql_run op ho hr hq ?_ ?_
        · cases yw <;> rfl
        · cases yw <;> rfl
end
end
end Go.Sy

/-! The symbolic executor, part R: operations that write, all of them but calls. -/
namespace Go.Sy
set_option linter.unusedVariables false
set_option linter.unusedSectionVars false
noncomputable section

def bPlain (o : BOp) (t : Tmps) (s : S) (k : BK) : Bool := match o with
  | .store n a v => optB (ev t a) fun a => optB (ev t v) fun v => bStore n a v s k
  | .mupd kt m key v => optB (ev t m) fun m => optB (ev t key) fun key => optB (ev t v) fun v => bMupd kt m key v s k
  | .del kt m key => optB (ev t m) fun m => optB (ev t key) fun key => bDel kt m key s k
  | .append e z b x y => optB (ev t x) fun x => optB (ev t y) fun y => bAppend e z b x y s k
  | .appendz e z b zero x n => optB (ev t x) fun x => optB (ev t n) fun n => bAppendz e z b zero x n s k
  | .copy z d x => optB (ev t d) fun d => optB (ev t x) fun x => bCopy z d x s k
  | .cmp o g x y => optB (ev t x) fun x => optB (ev t y) fun y => cmpA o g x y s fun b s => k (vBool b) s
  | .mm mx x y => optB (ev t x) fun x => optB (ev t y) fun y => mmA mx x y s k
  | .range x => optB (ev t x) fun x => bRange x s k
  | .next x => optB (ev t x) fun x => bNext x s k
  | .entry x => optB (ev t x) fun x => bEntry x s k
  | _ => false

def compB (T : TyT) (o : Op) : Option BOp := match o with
  | .store t a v => (match T t, embO a, embO v with | some i, some a, some v => some (.store i.size a v) | _, _, _ => none)
  | .mapUpdate t m k v => (match T t with
    | none => none
    | some i => (match i.desc with
      | .map kt _ => (match compKT T kt, embO m, embO k, embO v with | some q, some m, some k, some v => some (.mupd q m k v) | _, _, _, _ => none)
      | _ => none))
  | .binOp op t x y _ => (match cmpCode op, tagOf T t y, embO x, embO y with | some o, some g, some x, some y => some (.cmp o g x y) | _, _, _, _ => none)
  | .panic x => (embO x).map .panic
  | .range t x => (match T t with
    | none => none
    | some i => (match i.desc with
      | .map _ _ => (match embO x with | some x => some (.range x) | none => none)
      | _ => none))
  | .next x b => (match b with
    | true => none
    | false => (match embO x with | some x => some (.next x) | none => none))
  | .entry x => (match embO x with | some x => some (.entry x) | none => none)
  | .call c => (match c.callee with
    | .value (.func f) => (embList c.args.toList).map (.call f)
    | .value (.tmp n) => (embList c.args.toList).map (.callv (.t n))
    | .builtin .append => (match c.args.toList, c.argTypes.toList with
      | [x, y], [t1, t2] => (match T t1 with
        | none => none
        | some i => (match i.desc with
          | .slice e => (match T e, embO x, embO y with
            | some ie, some x, some y => (match ie.size with
              | 0 => none
              | _ + 1 => (match Nat.beq t1 t2 with
                | true => some (.append e ie.size ie.bytes x y)
                | false => (match T t2 with | some i2 => (match i2.desc with | .int _ => some (.appendz e ie.size ie.bytes (cellsW ie.zero) x y) | _ => none) | none => none)))
            | _, _, _ => none)
          | _ => none))
      | _, _ => none)
    | .builtin .copy => (match c.args.toList, c.argTypes.toList with
      | [x, y], [t1, _] => (match T t1 with
        | none => none
        | some i => (match i.desc with
          | .slice e => (match T e, embO x, embO y with | some ie, some x, some y => some (.copy ie.size x y) | _, _, _ => none)
          | _ => none))
      | _, _ => none)
    | .builtin .delete => (match c.args.toList, c.argTypes.toList with
      | [x, y], [t1, t2] => (match T t1 with
        | none => none
        | some i => (match i.desc with
          | .map kt _ => (match Nat.beq kt t2, compKT T kt, embO x, embO y with | true, some q, some x, some y => some (.del q x y) | _, _, _, _ => none)
          | _ => none))
      | _, _ => none)
    | .builtin .max => (match c.args.toList with | [x, y] => (match embO x, embO y with | some x, some y => some (.mm true x y) | _, _ => none) | _ => none)
    | .builtin .min => (match c.args.toList with | [x, y] => (match embO x, embO y with | some x, some y => some (.mm false x y) | _, _ => none) | _ => none)
    | _ => none)
  | _ => none

section
variable {P : Program} {T : TyT} {c : Cx} {t : Tmps} {a : Act} {s : S} {w : World}

theorem copy_sound {ty1 ty2 rty e : TypeId} {i ie : TyA} (hi : TyOk P ty1 i) (hd : i.desc = .slice e) (hie : TyOk P e ie) (h : Rel c s w) {dv xv : AV} {k : BK} (hk : bCopy ie.size dv xv s k = true) :
    BOk P c s w (((Builtin.copy_ #[ty1, ty2] rty #[dv.conc c, xv.conc c]).run P w).andThen fun v w' => .ok (.value v) w') k := by
  unfold bCopy at hk
  obtain ⟨q, h1, hk1⟩ := optB_true hk
  have e1 := asS_spec h1
  subst e1
  split at hk1 <;> try (simp at hk1; done)
  · rename_i id off dl dcap
    obtain ⟨y, h2, hk2⟩ := optB_true hk1
    have e2 := asS_spec h2
    subst e2
    have ed : (AV.w (.s (.slice id off dl dcap))).conc c = .slice (some ⟨c.ι id, off, none⟩) dl (dcap.conc c id) := rfl
    split at hk2 <;> try (simp at hk2; done)
    · have ex : (AV.w (.s .nils)).conc c = .slice none 0 0 := rfl
      refine ⟨c, vInt .i64 (.lit (.ofNat 0)), s, w, ?_, trivial, Step.refl c s w, h, hk2⟩
      rw [ed, ex]
      simp [Builtin.copy_, hi.run_und w, hd, Builtin.lenOf, hie.run_size w, run_firstCells_none, storeCells, goInt, vInt, AV.conc, AW.conc, AS.conc, Tm.eval]
    · rename_i id2 off2 sl scap
      obtain ⟨o2, h3, hk3⟩ := optB_true hk2
      obtain ⟨l2, h4, hk4⟩ := optB_true hk3
      rw [forceN_eq] at hk4
      obtain ⟨xs, h5, hk5⟩ := optB_true hk4
      obtain ⟨o, h6, hk6⟩ := optB_true hk5
      obtain ⟨l, h7, hk7⟩ := optB_true hk6
      obtain ⟨h8, hk8⟩ := ifB_true hk7
      have h8 : off + llen xs ≤ llen l := (natBle_iff _ _).1 h8
      rw [llen_eq, llen_eq] at h8
      rw [lsetK_eq] at hk8
      rw [S.get_eq] at h3 h6
      rw [natMin_eq] at h5 hk8
      obtain ⟨hcx, hlx, hmx⟩ := obj_cells (h.obj id2 o2 h3) h4 h5
      have hxw : ∀ x ∈ xs, x.wf c s.nx := fun x hx => wf_obj_cells h4 (h.wf id2 o2 h3) x (hmx x hx)
      obtain ⟨cur, te, o', g1, g2, g3, g4, g5⟩ := over_row (h.obj id o h6) h7 h8 hk8
      rw [S.updK_eq] at g3
      have hst := store_step h h6 g1 _ (g4 s.nx (h.wf id o h6) hxw) g5
      refine ⟨c, vInt .i64 (.lit (.ofNat (min sl dl))), s.upd id o', _, ?_, trivial, hst.2, hst.1, g3⟩
      have ex : (AV.w (.s (.slice id2 off2 sl scap))).conc c = .slice (some ⟨c.ι id2, off2, none⟩) sl (scap.conc c id2) := rfl
      have hlx' : xs.length = min sl dl * ie.size := hlx
      have hf := run_firstCells_some (P := P) w ie.size (min sl dl) ⟨c.ι id2, off2, none⟩ sl (scap.conc c id2) (xs.map (AS.conc c)) (by simpa using hlx') hcx
      have hss := run_storeCells_at P (c.ι id) off te (xs.map (AS.conc c)) 0 cur w g1 (by simpa using g2) (AS.oneL c xs)
      rw [ed, ex]
      have hmin : Nat.min sl dl = min sl dl := rfl
      simp [Builtin.copy_, hi.run_und w, hd, Builtin.lenOf, hie.run_size w, hmin, hf, hss, goInt, vInt, AV.conc, AW.conc, AS.conc, Tm.eval]
  · obtain ⟨y, h2, hk2⟩ := optB_true hk1
    have e2 := asS_spec h2
    subst e2
    have ed : (AV.w (.s .nils)).conc c = .slice none 0 0 := rfl
    rw [ed]
    split at hk2 <;> try (simp at hk2; done)
    · refine ⟨c, vInt .i64 (.lit (.ofNat 0)), s, w, ?_, trivial, Step.refl c s w, h, hk2⟩
      rw [ed]
      simp [Builtin.copy_, hi.run_und w, hd, Builtin.lenOf, hie.run_size w, run_firstCells_none, goInt, vInt, AV.conc, AW.conc, AS.conc, Tm.eval]
    · rename_i id2 off2 sl scap
      refine ⟨c, vInt .i64 (.lit (.ofNat 0)), s, w, ?_, trivial, Step.refl c s w, h, hk2⟩
      have ex : (AV.w (.s (.slice id2 off2 sl scap))).conc c = .slice (some ⟨c.ι id2, off2, none⟩) sl (scap.conc c id2) := rfl
      have hf := run_firstCells_some (P := P) w ie.size 0 ⟨c.ι id2, off2, none⟩ sl (scap.conc c id2) [] (by simp) (by simp)
      rw [ex]
      simp [Builtin.copy_, hi.run_und w, hd, Builtin.lenOf, hie.run_size w, hf, goInt, vInt, AV.conc, AW.conc, AS.conc, Tm.eval]

theorem mm_sound {mx : Bool} (h : Rel c s w) {xv yv : AV} {ats : Array TypeId} {rty : TypeId} {k : BK} (hk : mmA mx xv yv s k = true) :
    BOk P c s w (((match mx with | true => Builtin.max_ ats rty #[xv.conc c, yv.conc c] | false => Builtin.min_ ats rty #[xv.conc c, yv.conc c]).run P w).andThen fun v w' => .ok (.value v) w') k := by
  unfold mmA at hk
  obtain ⟨⟨kx, p⟩, h1, hk1⟩ := optB_true hk
  obtain ⟨⟨ky, q⟩, h2, hk2⟩ := optB_true hk1
  obtain ⟨h3, hk3⟩ := ifB_true hk2
  clear hk hk1 hk2
  have e3 : kx = ky := kindEq_eq h3
  have e1 := asIntA_spec h1
  have e2 := asIntA_spec h2
  rw [← e3] at e2
  subst e1; subst e2
  have c1 : (AV.w (.s (.int kx p))).conc c = .int kx (p.eval c.σ) := rfl
  have c2 : (AV.w (.s (.int kx q))).conc c = .int kx (q.eval c.σ) := rfl
  rw [c1, c2]
  rw [phi_eq] at hk3
  cases mx with
  | true =>
    obtain ⟨φ', hs', hk4⟩ := brc_spec h.sat hk3
    cases hc : (Cond.le q p).eval c.σ with
    | true =>
      simp only [hc, setPhi_eq] at hk4
      simp only [Cond.eval, decide_eq_true_eq] at hc
      refine ⟨c, vInt kx p, _, w, ?_, trivial, Step.facts c s w φ', h.facts hs', hk4⟩
      simp [Builtin.max_, Builtin.max2, vInt, AV.conc, AW.conc, AS.conc]
      omega
    | false =>
      simp only [hc, setPhi_eq] at hk4
      simp only [Cond.eval, decide_eq_false_iff_not] at hc
      refine ⟨c, vInt kx q, _, w, ?_, trivial, Step.facts c s w φ', h.facts hs', hk4⟩
      simp [Builtin.max_, Builtin.max2, vInt, AV.conc, AW.conc, AS.conc]
      omega
  | false =>
    obtain ⟨φ', hs', hk4⟩ := brc_spec h.sat hk3
    cases hc : (Cond.le p q).eval c.σ with
    | true =>
      simp only [hc, setPhi_eq] at hk4
      simp only [Cond.eval, decide_eq_true_eq] at hc
      refine ⟨c, vInt kx p, _, w, ?_, trivial, Step.facts c s w φ', h.facts hs', hk4⟩
      simp [Builtin.min_, Builtin.min2, vInt, AV.conc, AW.conc, AS.conc]
      omega
    | false =>
      simp only [hc, setPhi_eq] at hk4
      simp only [Cond.eval, decide_eq_false_iff_not] at hc
      refine ⟨c, vInt kx q, _, w, ?_, trivial, Step.facts c s w φ', h.facts hs', hk4⟩
      simp [Builtin.min_, Builtin.min2, vInt, AV.conc, AW.conc, AS.conc]
      omega

/-- What an operation that writes comes to in a world: a value, or nothing. -/
def BOk2 (P : Program) (c : Cx) (s : S) (w : World) (r : Result Next) (k : BK) : Prop :=
  ∃ c' v s' w', (r = .ok (.value (v.conc c')) w' ∨ (v = .undef ∧ r = .ok .skip w')) ∧ v.wf c' s'.nx ∧ Step c c' s s' w w' ∧ Rel c' s' w' ∧ k v s' = true

theorem plain_sound (hT : TOk P T) {o : Oper} {bo : BOp} (hc : compB T o.op = some bo) (hr : TRel c s.nx t a.tmps) (h : Rel c s w) {k : BK} (hk : bPlain bo t s k = true) :
    BOk2 P c s w ((execOp a.eval o).run P w) k := by
  obtain ⟨dst, op, ty, pos, af, g⟩ := o
  cases op with
  | store t' ad v =>
    simp only [compB] at hc
    split at hc <;> try (simp at hc; done)
    rename_i i a' v' hi ha hv
    injection hc with hc; subst hc
    obtain ⟨av, h1, hk1⟩ := optB_true (show optB (ev t a') _ = true from hk)
    obtain ⟨vv, h2, hk2⟩ := optB_true hk1
    have e1 := ev_spec hr ha h1
    have e2 := ev_spec hr hv h2
    obtain ⟨s', w', r1, r2, r3, r4⟩ := store_sound (hT _ _ hi) h e1.2 e2.2 hk2
    exact ⟨c, .undef, s', w', .inr ⟨rfl, by simp [execOp, e1.1, e2.1, r1]⟩, trivial, r2, r3, r4⟩
  | mapUpdate t' m key v =>
    simp only [compB] at hc
    split at hc <;> try (simp at hc; done)
    rename_i i hi
    split at hc <;> try (simp at hc; done)
    rename_i kty ety hd
    split at hc <;> try (simp at hc; done)
    rename_i q m' k' v' hq hm hkk hv
    injection hc with hc; subst hc
    obtain ⟨mv, h1, hk1⟩ := optB_true (show optB (ev t m') _ = true from hk)
    obtain ⟨kv, h2, hk2⟩ := optB_true hk1
    obtain ⟨vv, h3, hk3⟩ := optB_true hk2
    have e1 := ev_spec hr hm h1
    have e2 := ev_spec hr hkk h2
    have e3 := ev_spec hr hv h3
    obtain ⟨s', w', r1, r2, r3, r4⟩ := mupd_sound hT (hT _ _ hi) hd (compKT_ok hT hq) h e3.2 e2.2 hk3
    exact ⟨c, .undef, s', w', .inr ⟨rfl, by simp [execOp, e1.1, e2.1, e3.1, r1]⟩, trivial, r2, r3, r4⟩
  | binOp op xT x y yT =>
    simp only [compB] at hc
    split at hc <;> try (simp at hc; done)
    rename_i o' g' x' y' ho hg hx hy
    injection hc with hc; subst hc
    obtain ⟨xv, h1, hk1⟩ := optB_true (show optB (ev t x') _ = true from hk)
    obtain ⟨yv, h2, hk2⟩ := optB_true hk1
    have e1 := ev_spec hr hx h1
    have e2 := ev_spec hr hy h2
    obtain ⟨b, φ', r1, r2, r3⟩ := cmp_sound (x := x) (y := y) hT ho hg h hk2
    refine ⟨c, vBool b, _, w, .inl ?_, trivial, Step.facts c s w φ', h.facts r2, r3⟩
    simp only [execOp, e1.1, e2.1, Sem.run_bind] at r1 ⊢
    rw [r1]; rfl
  | panic x =>
    simp only [compB] at hc
    cases hx : embO x with
    | none => rw [hx] at hc; cases hc
    | some x' => rw [hx] at hc; injection hc with hc; subst hc; cases hk
  | call cl =>
    obtain ⟨callee, args, argTypes⟩ := cl
    simp only [compB] at hc
    split at hc <;> try (simp at hc; done)
    · cases hl : embList args.toList with
      | none => rw [hl] at hc; cases hc
      | some l => rw [hl] at hc; injection hc with hc; subst hc; cases hk
    · cases hl : embList args.toList with
      | none => rw [hl] at hc; cases hc
      | some l => rw [hl] at hc; injection hc with hc; subst hc; cases hk
    · split at hc <;> try (simp at hc; done)
      rename_i x y t1 t2 hargs htys
      have ha : args = #[x, y] := by apply Array.ext'; simpa using hargs
      have ht : argTypes = #[t1, t2] := by apply Array.ext'; simpa using htys
      subst ha; subst ht
      split at hc <;> try (simp at hc; done)
      rename_i i hi
      split at hc <;> try (simp at hc; done)
      rename_i e hd
      split at hc <;> try (simp at hc; done)
      rename_i ie x' y' hie hx hy
      split at hc <;> try (simp at hc; done)
      rename_i n hn
      have hz : 0 < ie.size := by omega
      have hex : (execOp a.eval ⟨dst, .call ⟨.builtin .append, #[x, y], #[t1, t2]⟩, ty, pos, af, g⟩).run P w = ((Builtin.append_ #[t1, t2] ty #[a.eval x, a.eval y]).run P w).andThen fun v w' => .ok (.value v) w' := by
        simp [execOp, resolve, invoke, builtin]
      split at hc
      · rename_i hb
        have hb := (natBeq_iff _ _).1 hb
        subst hb
        injection hc with hc; subst hc
        obtain ⟨xv, h1, hk1⟩ := optB_true (show optB (ev t x') _ = true from hk)
        obtain ⟨yv, h2, hk2⟩ := optB_true hk1
        have e1 := ev_spec hr hx h1
        have e2 := ev_spec hr hy h2
        try rw [← hn] at hk2
        obtain ⟨c', v, s', w', r1, r2, r3, r4, r5⟩ := append_sound (ty := ty) (hT _ _ hi) hd (hT _ _ hie) hz h e1.2 e2.2 hk2
        refine ⟨c', v, s', w', .inl ?_, r2, r3, r4, r5⟩
        rw [hex, e1.1, e2.1, r1]; rfl
      · split at hc <;> try (simp at hc; done)
        rename_i i2 hi2
        split at hc <;> try (simp at hc; done)
        rename_i k2 hd2
        injection hc with hc; subst hc
        obtain ⟨xv, h1, hk1⟩ := optB_true (show optB (ev t x') _ = true from hk)
        obtain ⟨yv, h2, hk2⟩ := optB_true hk1
        have e1 := ev_spec hr hx h1
        have e2 := ev_spec hr hy h2
        unfold bAppendz at hk2
        obtain ⟨q, h3, hk3⟩ := optB_true hk2
        obtain ⟨m, h4, hk4⟩ := optB_true hk3
        obtain ⟨h5, hk5⟩ := ifB_true hk4
        obtain ⟨h5, h6⟩ := and2_iff.1 h5
        have h5 := (natBle_iff _ _).1 h5
        have h6 := (natBle_iff _ _).1 h6
        obtain ⟨kk, e4⟩ := asNatA_spec h4
        have e3 := asS_spec h3
        subst e3; subst e4
        try rw [← hn] at hk5
        have hie' := hT _ _ hie
        have hzw : ∀ x ∈ repA (cellsW ie.zero) m, x.wf c s.nx := by
          intro x hx
          rw [repA_eq] at hx
          simp only [List.mem_flatten, List.mem_replicate] at hx
          obtain ⟨m, ⟨_, rfl⟩, hx⟩ := hx
          exact cellsW_wf (hie'.zero c s.nx) x hx
        have hlen : (repA (cellsW ie.zero) m).length = m * ie.size := by
          rw [repA_eq]; simp [hie'.len]
        obtain ⟨c', v, s', w', r1, r2, r3, r4, r5⟩ := append_core hie' hz h e1.2 hlen hzw (zeros_appRun (P := P) (w := w) (ty := ty) (hT _ _ hi) hd (hT _ _ hi2) hd2 hie' hz h5 (by simpa using h6)) hk5
        refine ⟨c', v, s', w', .inl ?_, r2, r3, r4, r5⟩
        have ey : (AV.w (.s (.int kk (.lit m)))).conc c = .int kk (m : Int) := rfl
        rw [hex, e1.1, e2.1, ey]
        have ex : (AV.w (.s q)).conc c = q.conc c := rfl
        rw [ex, r1]; rfl
    · split at hc <;> try (simp at hc; done)
      rename_i x y t1 t2 hargs htys
      have ha : args = #[x, y] := by apply Array.ext'; simpa using hargs
      have ht : argTypes = #[t1, t2] := by apply Array.ext'; simpa using htys
      subst ha; subst ht
      split at hc <;> try (simp at hc; done)
      rename_i i hi
      split at hc <;> try (simp at hc; done)
      rename_i e hd
      split at hc <;> try (simp at hc; done)
      rename_i ie x' y' hie hx hy
      injection hc with hc; subst hc
      obtain ⟨xv, h1, hk1⟩ := optB_true (show optB (ev t x') _ = true from hk)
      obtain ⟨yv, h2, hk2⟩ := optB_true hk1
      have e1 := ev_spec hr hx h1
      have e2 := ev_spec hr hy h2
      obtain ⟨c', v, s', w', r1, r2, r3, r4, r5⟩ := copy_sound (P := P) (ty2 := t2) (rty := ty) (hT _ _ hi) hd (hT _ _ hie) h hk2
      refine ⟨c', v, s', w', .inl ?_, r2, r3, r4, r5⟩
      rw [← r1, ← e1.1, ← e2.1]
      simp [execOp, resolve, invoke, builtin]
    · split at hc <;> try (simp at hc; done)
      rename_i x y t1 t2 hargs htys
      have ha : args = #[x, y] := by apply Array.ext'; simpa using hargs
      have ht : argTypes = #[t1, t2] := by apply Array.ext'; simpa using htys
      subst ha; subst ht
      split at hc <;> try (simp at hc; done)
      rename_i i hi
      split at hc <;> try (simp at hc; done)
      rename_i kty ety hd
      split at hc <;> try (simp at hc; done)
      rename_i q x' y' hb hq hx hy
      have hb := (natBeq_iff _ _).1 hb
      subst hb
      injection hc with hc; subst hc
      obtain ⟨xv, h1, hk1⟩ := optB_true (show optB (ev t x') _ = true from hk)
      obtain ⟨yv, h2, hk2⟩ := optB_true hk1
      have e1 := ev_spec hr hx h1
      have e2 := ev_spec hr hy h2
      obtain ⟨s', w', r1, r2, r3, r4⟩ := del_sound (rty := ty) hT (hT _ _ hi) hd (compKT_ok hT hq) h hk2
      refine ⟨c, .tup [], s', w', .inl ?_, (by intro x hx; cases hx), r2, r3, r4⟩
      have : (execOp a.eval ⟨dst, .call ⟨.builtin .delete, #[x, y], #[t1, kty]⟩, ty, pos, af, g⟩).run P w = ((Builtin.delete_ #[t1, kty] ty #[a.eval x, a.eval y]).run P w).andThen fun v w' => .ok (.value v) w' := by
        simp [execOp, resolve, invoke, builtin]
      rw [this, e1.1, e2.1, r1]
      simp [AV.conc]
    · split at hc <;> try (simp at hc; done)
      rename_i x y hargs
      have ha : args = #[x, y] := by apply Array.ext'; simpa using hargs
      subst ha
      split at hc <;> try (simp at hc; done)
      rename_i x' y' hx hy
      injection hc with hc; subst hc
      obtain ⟨xv, h1, hk1⟩ := optB_true (show optB (ev t x') _ = true from hk)
      obtain ⟨yv, h2, hk2⟩ := optB_true hk1
      have e1 := ev_spec hr hx h1
      have e2 := ev_spec hr hy h2
      obtain ⟨c', v, s', w', r1, r2, r3, r4, r5⟩ := mm_sound (P := P) (ats := argTypes) (rty := ty) h hk2
      refine ⟨c', v, s', w', .inl ?_, r2, r3, r4, r5⟩
      rw [← r1, ← e1.1, ← e2.1]
      simp [execOp, resolve, invoke, builtin]
    · split at hc <;> try (simp at hc; done)
      rename_i x y hargs
      have ha : args = #[x, y] := by apply Array.ext'; simpa using hargs
      subst ha
      split at hc <;> try (simp at hc; done)
      rename_i x' y' hx hy
      injection hc with hc; subst hc
      obtain ⟨xv, h1, hk1⟩ := optB_true (show optB (ev t x') _ = true from hk)
      obtain ⟨yv, h2, hk2⟩ := optB_true hk1
      have e1 := ev_spec hr hx h1
      have e2 := ev_spec hr hy h2
      obtain ⟨c', v, s', w', r1, r2, r3, r4, r5⟩ := mm_sound (P := P) (ats := argTypes) (rty := ty) h hk2
      refine ⟨c', v, s', w', .inl ?_, r2, r3, r4, r5⟩
      rw [← r1, ← e1.1, ← e2.1]
      simp [execOp, resolve, invoke, builtin]
  | range t' x =>
    simp only [compB] at hc
    split at hc <;> try (simp at hc; done)
    rename_i i hi
    split at hc <;> try (simp at hc; done)
    rename_i kty ety hd
    split at hc <;> try (simp at hc; done)
    rename_i x' hx
    injection hc with hc; subst hc
    obtain ⟨xv, h1, hk1⟩ := optB_true (show optB (ev t x') _ = true from hk)
    have e1 := ev_spec hr hx h1
    have hu : P.underlying t' = some (.map kty ety) := by rw [(hT _ _ hi).und, hd]
    obtain ⟨c', v, s', w', r1, r2, r3, r4, r5⟩ := mrange_sound hu h hk1
    exact ⟨c', v, s', w', .inl (by simp [execOp, e1.1, r1]), r2, r3, r4, r5⟩
  | next x b =>
    simp only [compB] at hc
    split at hc <;> try (simp at hc; done)
    split at hc <;> try (simp at hc; done)
    rename_i x' hx
    injection hc with hc; subst hc
    obtain ⟨xv, h1, hk1⟩ := optB_true (show optB (ev t x') _ = true from hk)
    have e1 := ev_spec hr hx h1
    obtain ⟨v, s', w', r1, r2, r3, r4, r5⟩ := next_sound (P := P) (ty := ty) h hk1
    exact ⟨c, v, s', w', .inl (by simp [execOp, e1.1, r1]), r2, r3, r4, r5⟩
  | entry x =>
    simp only [compB] at hc
    split at hc <;> try (simp at hc; done)
    rename_i x' hx
    injection hc with hc; subst hc
    obtain ⟨xv, h1, hk1⟩ := optB_true (show optB (ev t x') _ = true from hk)
    have e1 := ev_spec hr hx h1
    obtain ⟨v, r1, r2, r3⟩ := entry_sound (P := P) h hk1
    exact ⟨c, v, s, w, .inl (by simp [execOp, e1.1, r1]), r2, Step.refl c s w, h, r3⟩
  | _ => simp [compB] at hc
end
end
end Go.Sy

/-! The symbolic executor, part S: one operation; a row of operations, in order. -/
namespace Go.Sy
set_option linter.unusedVariables false
set_option linter.unusedSectionVars false
noncomputable section

/-! values worked out as far as they go -/
def forceKd {β : Type} (k : IntKind) (f : IntKind → β) : β := match k with
  | .i8 => f .i8 | .i16 => f .i16 | .i32 => f .i32 | .i64 => f .i64
  | .u8 => f .u8 | .u16 => f .u16 | .u32 => f .u32 | .u64 => f .u64
def forceT {β : Type} (t : Tm) (k : Tm → β) : β := match t with
  | .lit n => forceI n fun n => k (.lit n)
  | .var i => k (.var i)
  | .tab l => k (.tab l)
  | .wrap q t => k (.wrap q t)
  | .add a b => k (.add a b)
  | .sub a b => k (.sub a b)
  | .mul a b => k (.mul a b)
  | .div a b => k (.div a b)
  | .mod a b => k (.mod a b)
  | .bits o q a b => k (.bits o q a b)
  | .shr t n => k (.shr t n)
  | .byte t i => k (.byte t i)
  | .cat a b => k (.cat a b)
def forceCap {β : Type} (x : ACap) (k : ACap → β) : β := match x with | .ex n => forceN n fun n => k (.ex n) | .op n => forceN n fun n => k (.op n)
def forceB {β : Type} (b : Bool) (k : Bool → β) : β := match b with | true => k true | false => k false
def forceS {β : Type} (x : AS) (k : AS → β) : β := match x with
  | .int q t => forceKd q fun q => forceT t fun t => k (.int q t)
  | .bool b => forceB b fun b => k (.bool b)
  | .ptr a b => forceN a fun a => forceN b fun b => k (.ptr a b)
  | .nilp => k .nilp
  | .slice a b n c => forceN a fun a => forceN b fun b => forceN n fun n => forceCap c fun c => k (.slice a b n c)
  | .nils => k .nils
  | .map a => forceN a fun a => k (.map a)
  | .nilm => k .nilm
  | .fn f c => k (.fn f c)
  | .nilfn => k .nilfn
  | .iface t => k (.iface t)
  | .niliface => k .niliface
  | .opq i => k (.opq i)
  | .estr => k .estr
def forceL {β : Type} (l : List AS) : (List AS → β) → β := List.rec (fun k => k []) (fun x _ ih k => forceS x fun x => ih fun l => k (x :: l)) l
def forceWs {β : Type} (f : AW → (AW → β) → β) (l : List AW) : (List AW → β) → β := List.rec (fun k => k []) (fun x _ ih k => f x fun x => ih fun l => k (x :: l)) l
def forceW {β : Type} (x : AW) (k : AW → β) : β := match x with | .s x => forceS x fun x => k (.s x) | .agg l => forceL l fun l => k (.agg l)
def forceV {β : Type} (x : AV) (k : AV → β) : β := match x with
  | .w x => forceW x fun x => k (.w x)
  | .str l => k (.str l)
  | .tup l => forceWs forceW l fun l => k (.tup l)
  | .undef => k .undef
def forceO {β : Type} (x : AObj) (k : AObj → β) : β := match x with
  | .cells l e => forceL l fun l => k (.cells l e)
  | .row l e z => forceL l fun l => k (.row l e z)
  | .map es c => k (.map es c)
  | .iter m a l b => k (.iter m a l b)
theorem forceKd_eq {β : Type} (q : IntKind) (k : IntKind → β) : forceKd q k = k q := by cases q <;> rfl
theorem forceT_eq {β : Type} (t : Tm) (k : Tm → β) : forceT t k = k t := by cases t <;> simp [forceT, forceI_eq]
theorem forceCap_eq {β : Type} (x : ACap) (k : ACap → β) : forceCap x k = k x := by cases x <;> simp [forceCap, forceN_eq]
theorem forceB_eq {β : Type} (b : Bool) (k : Bool → β) : forceB b k = k b := by cases b <;> rfl
theorem forceS_eq {β : Type} (x : AS) (k : AS → β) : forceS x k = k x := by cases x <;> simp [forceS, forceN_eq, forceKd_eq, forceT_eq, forceCap_eq, forceB_eq]
theorem forceL_eq {β : Type} : ∀ (l : List AS) (k : List AS → β), forceL l k = k l := by
  intro l
  induction l with
  | nil => intro k; rfl
  | cons x l ih => intro k; show forceS x (fun x => forceL l fun l => k (x :: l)) = _; rw [forceS_eq, ih]
theorem forceW_eq {β : Type} (x : AW) (k : AW → β) : forceW x k = k x := by cases x <;> simp [forceW, forceS_eq, forceL_eq]
theorem forceWs_eq {β : Type} : ∀ (l : List AW) (k : List AW → β), forceWs forceW l k = k l := by
  intro l
  induction l with
  | nil => intro k; rfl
  | cons x l ih => intro k; show forceW x (fun x => forceWs forceW l fun l => k (x :: l)) = _; rw [forceW_eq, ih]
theorem forceV_eq {β : Type} (x : AV) (k : AV → β) : forceV x k = k x := by cases x <;> simp [forceV, forceW_eq, forceWs_eq]
theorem forceO_eq {β : Type} (x : AObj) (k : AObj → β) : forceO x k = k x := by cases x <;> simp [forceO, forceL_eq]

/-! how a call ends, and how a piece of code -/
inductive Ret where
  | val (v : AV)
  | panic (v : AV)
inductive Ex where
  | normal
  | exit (id : Nat)
  | ret
  | panic (v : AV)
abbrev KC := Ret → S → Bool
abbrev KX := Ex → Tmps → S → Bool
abbrev CallF := Nat → List AV → S → KC → Bool

def putK (dst : Option Nat) (v : AV) (t : Tmps) (k : Tmps → Bool) : Bool := match dst with | none => k t | some d => forceV v fun v => t.setK (some v) (Nat.succ d) k
def putA (dst : Option Nat) (v : AV) (t : Tmps) : Tmps := match dst with | none => t | some d => t.set (some v) (Nat.succ d)
theorem putK_eq (dst : Option Nat) (v : AV) (t : Tmps) (k : Tmps → Bool) : putK dst v t k = k (putA dst v t) := by
  cases dst with
  | none => rfl
  | some d => simp only [putK, forceV_eq, Tree.setK_eq]; rfl

def asFnA (v : AV) : Option (Nat × List (Nat × Nat)) := match v with | .w (.s (.fn f c)) => some (f, c) | _ => none
def capV (p : Nat × Nat) : AV := .w (.s (.ptr p.1 p.2))
def asIfA (v : AV) : Option Nat := match v with | .w (.s (.iface t)) => some t | _ => none
def callK (r : Ret) (s : S) (kn kp : AV → S → Bool) : Bool := match r with | .val v => kn v s | .panic v => kp v s
def stepB (call : CallF) (o : BOp) (t : Tmps) (s : S) (kn kp : AV → S → Bool) : Bool := match o with
  | .call f args => optB (evL t args) fun l => call f l s fun r s => callK r s kn kp
  | .callv x args => optB (ev t x) fun v => optB (asFnA v) fun p => optB (evL t args) fun l => call p.1 (lapp l (lmap capV p.2)) s fun r s => callK r s kn kp
  | .panic x => optB (ev t x) fun v => optB (asIfA v) fun _ => kp v s
  | .store n a v => bPlain (.store n a v) t s kn
  | .mupd kt m key v => bPlain (.mupd kt m key v) t s kn
  | .del kt m key => bPlain (.del kt m key) t s kn
  | .append e z b x y => bPlain (.append e z b x y) t s kn
  | .appendz e z b zero x n => bPlain (.appendz e z b zero x n) t s kn
  | .copy z d x => bPlain (.copy z d x) t s kn
  | .cmp o g x y => bPlain (.cmp o g x y) t s kn
  | .mm mx x y => bPlain (.mm mx x y) t s kn
  | .range x => bPlain (.range x) t s kn
  | .next x => bPlain (.next x) t s kn
  | .entry x => bPlain (.entry x) t s kn
def stepOp (call : CallF) (o : AOp) (t : Tmps) (s : S) (kn kp : AV → S → Bool) : Bool := match o with
  | .p o => (match s with | .mk h nx φ => optB (pureOp φ t o) fun v => kn v ⟨h, nx, φ⟩)
  | .r o => optB (readOp t s o) fun v => kn v s
  | .m o => (match s with | .mk h nx φ => optB (makeOp t nx o) fun p => forceO p.1 fun ob => S.newK ⟨h, nx, φ⟩ ob fun s => kn p.2 s)
  | .b o => stepB call o t s kn kp

def compOp (T : TyT) (o : Op) : Option AOp := match compP T o with
  | some p => some (.p p)
  | none => (match compR T o with
    | some r => some (.r r)
    | none => (match compM T o with
      | some m => some (.m m)
      | none => (match compB T o with
        | some b => some (.b b)
        | none => none)))

/-- What a call comes to: an entry, and what it ends in; or an answer at once. -/
def CallRuns (P : Program) (f : Nat) (args : Array Value) (w : World) (R : Ending → World → Prop) : Prop :=
  ((callFunc f args).run P w = .ok (.enter f args) w ∧ Calls P f args w R) ∨ ∃ v w', (callFunc f args).run P w = .ok (.value v) w' ∧ R (.returned v) w'
def CPost (c : Cx) (s : S) (w : World) (k : KC) : Ending → World → Prop
  | .returned u, w' => ∃ c' v s', u = v.conc c' ∧ v.wf c' s'.nx ∧ Step c c' s s' w w' ∧ Rel c' s' w' ∧ k (.val v) s' = true
  | .panicked chain, w' => ∃ c' v s', chain = [{ v := v.conc c', recovered := false }] ∧ v.wf c' s'.nx ∧ Step c c' s s' w w' ∧ Rel c' s' w' ∧ k (.panic v) s' = true
  | .outgrown, _ => False
def CallOk (P : Program) (call : CallF) : Prop := ∀ (f : Nat) (args : List AV) (s : S) (k : KC), call f args s k = true → ∀ (c : Cx) (w : World), Rel c s w → (∀ v ∈ args, v.wf c s.nx) →
  CallRuns P f (args.map (AV.conc c)).toArray w (CPost c s w k)

section
variable {P : Program} {T : TyT} {c : Cx} {t : Tmps} {a : Act} {s : S} {w : World} {call : CallF}

theorem asFnA_spec {v : AV} {p : Nat × List (Nat × Nat)} (h : asFnA v = some p) : v = .w (.s (.fn p.1 p.2)) := by
  unfold asFnA at h
  split at h <;> try (simp at h; done)
  injection h with h; subst h; rfl
theorem asIfA_spec {v : AV} {p : Nat} (h : asIfA v = some p) : v = .w (.s (.iface p)) := by
  unfold asIfA at h
  split at h <;> try (simp at h; done)
  injection h with h; subst h; rfl

/-- What an operation comes to: what follows, with its answer; or a panic. -/
structure StepQ (P : Program) (c : Cx) (s : S) (w : World) (kn kp : AV → S → Bool) (o : Oper) (a : Act) (next : Act → World → Prop) (Q : Exit → Act → World → Prop) : Prop where
  hn : ∀ c' v s' w', v.wf c' s'.nx → Step c c' s s' w w' → Rel c' s' w' → kn v s' = true → next (a.put o.dst (v.conc c')) w'
  hp : ∀ c' v s' w', v.wf c' s'.nx → Step c c' s s' w w' → Rel c' s' w' → kp v s' = true → Q (.panic [{ v := v.conc c', recovered := false }]) a w'

theorem call_upon {o : Oper} {next : Act → World → Prop} {Q : Exit → Act → World → Prop} {kn kp : AV → S → Bool} (hq : StepQ P c s w kn kp o a next Q) {f : Nat} {args : Array Value}
    (hr : CallRuns P f args w (CPost c s w fun r s => callK r s kn kp)) (he : (execOp a.eval o).run P w = (callFunc f args).run P w) : o.upon P a next Q ((execOp a.eval o).run P w) := by
  rw [he]
  rcases hr with ⟨h1, h2⟩ | ⟨v, w', h1, h2⟩
  · rw [h1, Oper.upon_enter]
    refine Calls.mono h2 fun e w' h => ?_
    cases e with
    | returned u =>
      obtain ⟨c', v, s', e1, e2, e3, e4, e5⟩ := h
      subst e1
      exact hq.hn c' v s' w' e2 e3 e4 e5
    | panicked ch =>
      obtain ⟨c', v, s', e1, e2, e3, e4, e5⟩ := h
      subst e1
      exact hq.hp c' v s' w' e2 e3 e4 e5
    | outgrown => exact h.elim
  · rw [h1, Oper.upon_value]
    obtain ⟨c', v', s', e1, e2, e3, e4, e5⟩ := h2
    subst e1
    exact hq.hn c' v' s' w' e2 e3 e4 e5

theorem plain_upon {o : Oper} {next : Act → World → Prop} {Q : Exit → Act → World → Prop} {kn kp : AV → S → Bool} (hq : StepQ P c s w kn kp o a next Q)
    (hb : BOk2 P c s w ((execOp a.eval o).run P w) kn) : o.upon P a next Q ((execOp a.eval o).run P w) := by
  obtain ⟨c', v, s', w', r, r2, r3, r4, r5⟩ := hb
  rcases r with r | ⟨rfl, r⟩
  · rw [r, Oper.upon_value]; exact hq.hn c' v s' w' r2 r3 r4 r5
  · rw [r, Oper.upon_skip]; exact hq.hn c' .undef s' w' r2 r3 r4 r5

theorem compB_call {T : TyT} {o : Op} {f : Nat} {args : List AX} (h : compB T o = some (.call f args)) :
    ∃ cl, o = .call cl ∧ cl.callee = .value (.func f) ∧ embList cl.args.toList = some args := by
  unfold compB at h
  split at h <;> (repeat' split at h) <;> simp_all
theorem compB_callv {T : TyT} {o : Op} {x : AX} {args : List AX} (h : compB T o = some (.callv x args)) :
    ∃ cl n, o = .call cl ∧ cl.callee = .value (.tmp n) ∧ x = .t n ∧ embList cl.args.toList = some args := by
  unfold compB at h
  split at h <;> (repeat' split at h) <;> simp_all
theorem compB_panic {T : TyT} {o : Op} {x : AX} (h : compB T o = some (.panic x)) : ∃ y, o = .panic y ∧ embO y = some x := by
  unfold compB at h
  split at h <;> (repeat' split at h) <;> simp_all
theorem caps_spec {caps : List (Nat × Nat)} {nx : Nat} (hcap : ∀ p ∈ caps, p.1 < nx) : (lmap capV caps).map (AV.conc c) = caps.map (capPtr c) ∧ ∀ v ∈ lmap capV caps, v.wf c nx := by
  rw [lmap_eq]
  refine ⟨by simp [capV, capPtr, AV.conc, AW.conc, AS.conc], ?_⟩
  intro v hv
  obtain ⟨p, hp, rfl⟩ := List.mem_map.1 hv
  exact hcap p hp

theorem stepB_sound (hT : TOk P T) (hcall : CallOk P call) {o : Oper} {bo : BOp} (hc : compB T o.op = some bo) (hr : TRel c s.nx t a.tmps) (h : Rel c s w) {kn kp : AV → S → Bool}
    (hk : stepB call bo t s kn kp = true) {next : Act → World → Prop} {Q : Exit → Act → World → Prop} (hq : StepQ P c s w kn kp o a next Q) :
    o.upon P a next Q ((execOp a.eval o).run P w) := by
  cases bo with
  | call f args =>
    obtain ⟨vs, h1, hk1⟩ := optB_true (show optB (evL t args) _ = true from hk)
    obtain ⟨cl, hop, hcal, harg⟩ := compB_call hc
    obtain ⟨e1, e2⟩ := embList_spec hr harg h1
    refine call_upon hq (hcall f vs s _ hk1 c w h e2) ?_
    obtain ⟨dst, op, ty, pos, af, g⟩ := o
    have hop : op = _ := hop
    subst hop
    have ea : cl.args.map a.eval = (vs.map (AV.conc c)).toArray := by
      apply Array.ext'; rw [Array.toList_map, e1]
    simp [execOp, resolve, hcal, Deferred.ofValue, Act.eval, invoke, ea]
  | callv x args =>
    obtain ⟨u, h0, hk0⟩ := optB_true (show optB (ev t x) _ = true from hk)
    obtain ⟨p, h00, hk00⟩ := optB_true hk0
    obtain ⟨vs, h1, hk1⟩ := optB_true hk00
    obtain ⟨cl, n, hop, hcal, hx, harg⟩ := compB_callv hc
    subst hx
    have e := asFnA_spec h00
    subst e
    have e0 := ev_spec hr (o := .tmp n) rfl h0
    obtain ⟨e1, e2⟩ := embList_spec hr harg h1
    obtain ⟨e3, e4⟩ := caps_spec (c := c) (nx := s.nx) (caps := p.2) e0.2
    refine call_upon hq (hcall p.1 _ s _ hk1 c w h ?_) ?_
    · rw [lapp_eq]
      intro v hv
      rcases List.mem_append.1 hv with hv | hv
      · exact e2 v hv
      · exact e4 v hv
    · obtain ⟨dst, op, ty, pos, af, g⟩ := o
      have hop : op = _ := hop
      subst hop
      have ea : cl.args.map a.eval = (vs.map (AV.conc c)).toArray := by
        apply Array.ext'; rw [Array.toList_map, e1]
      have e5 : a.eval (.tmp n) = .func (.func p.1) #[] (p.2.map (capPtr c)).toArray := e0.1
      rw [lapp_eq, List.map_append, e3]
      simp [execOp, resolve, hcal, Deferred.ofValue, e5, invoke, ea]
  | panic x =>
    obtain ⟨u, h0, hk0⟩ := optB_true (show optB (ev t x) _ = true from hk)
    obtain ⟨p, h00, hk00⟩ := optB_true hk0
    have e := asIfA_spec h00
    subst e
    obtain ⟨y, hop, hy⟩ := compB_panic hc
    have e0 := ev_spec hr hy h0
    obtain ⟨dst, op, ty, pos, af, g⟩ := o
    have hop : op = _ := hop
    subst hop
    have e1 : a.eval y = .iface p (.agg #[]) := e0.1
    have : (execOp a.eval ⟨dst, .panic y, ty, pos, af, g⟩).run P w = .halt (.panic (.iface p (.agg #[]))) w := by
      simp [execOp, e1, Instr.panic]
    rw [this, Oper.upon_panic]
    exact hq.hp c (.w (.s (.iface p))) s w trivial (Step.refl c s w) h hk00
  | store n x y => exact plain_upon hq (plain_sound hT hc hr h hk)
  | mupd q m x y => exact plain_upon hq (plain_sound hT hc hr h hk)
  | del q m x => exact plain_upon hq (plain_sound hT hc hr h hk)
  | append e z b x y => exact plain_upon hq (plain_sound hT hc hr h hk)
  | appendz e z b zero x y => exact plain_upon hq (plain_sound hT hc hr h hk)
  | copy z x y => exact plain_upon hq (plain_sound hT hc hr h hk)
  | cmp o' g x y => exact plain_upon hq (plain_sound hT hc hr h hk)
  | mm mx x y => exact plain_upon hq (plain_sound hT hc hr h hk)
  | range x => exact plain_upon hq (plain_sound hT hc hr h hk)
  | next x => exact plain_upon hq (plain_sound hT hc hr h hk)
  | entry x => exact plain_upon hq (plain_sound hT hc hr h hk)

theorem step_sound (hT : TOk P T) (hcall : CallOk P call) {o : Oper} {ao : AOp} (hc : compOp T o.op = some ao) (hr : TRel c s.nx t a.tmps) (h : Rel c s w) {kn kp : AV → S → Bool}
    (hk : stepOp call ao t s kn kp = true) {next : Act → World → Prop} {Q : Exit → Act → World → Prop} (hq : StepQ P c s w kn kp o a next Q) :
    o.upon P a next Q ((execOp a.eval o).run P w) := by
  unfold compOp at hc
  split at hc
  · rename_i p hp
    injection hc with hc; subst hc
    obtain ⟨hh, nx, φ⟩ := s
    obtain ⟨v, h1, hk1⟩ := optB_true (show optB (pureOp φ t p) _ = true from hk)
    obtain ⟨e1, e2⟩ := pure_sound hT hp hr h.sat h1
    rw [show Sem.run P (execOp a.eval o) w = .ok (.value (v.conc c)) w from e1 w, Oper.upon_value]
    exact hq.hn c v _ w e2 (Step.refl c _ w) h hk1
  · split at hc
    · rename_i p hp
      injection hc with hc; subst hc
      obtain ⟨v, h1, hk1⟩ := optB_true (show optB (readOp t s p) _ = true from hk)
      obtain ⟨e1, e2⟩ := read_sound hT hp hr h.view h1
      rw [e1, Oper.upon_value]
      exact hq.hn c v s w e2 (Step.refl c s w) h hk1
    · split at hc
      · rename_i p hp
        injection hc with hc; subst hc
        obtain ⟨hh, nx, φ⟩ := s
        obtain ⟨⟨ob, v⟩, h1, hk1⟩ := optB_true (show optB (makeOp t nx p) _ = true from hk)
        rw [forceO_eq, S.newK_eq] at hk1
        obtain ⟨obj, e1, e2, e3, e4⟩ := make_sound (s := ⟨hh, nx, φ⟩) (w := w) hT hp hr h1
        rw [e1, Oper.upon_value]
        exact hq.hn _ v _ _ e2 (Step.new ob obj 0) (Rel.new h e3 e4) hk1
      · split at hc <;> try (simp at hc; done)
        rename_i p hp
        injection hc with hc; subst hc
        exact stepB_sound hT hcall hp hr h hk hq
end
end
end Go.Sy

/-! The symbolic executor, part T: what an operation looks at; regions that are drawn, as data, and their run. -/
namespace Go.Sy
set_option linter.unusedVariables false
set_option linter.unusedSectionVars false
noncomputable section

/-! the slots that an operation looks at -/
def uX (x : AX) (l : List Nat) : List Nat := match x with | .t n => n :: l | .c _ => l
def uO (x : Option AX) (l : List Nat) : List Nat := match x with | none => l | some x => uX x l
def uL (xs : List AX) : List Nat := List.rec [] (fun x _ ih => uX x ih) xs
def uP (ps : List (Nat × Nat × AX)) : List Nat := List.rec [] (fun p _ ih => uX p.2.2 ih) ps
theorem uL_cons (x : AX) (l : List AX) : uL (x :: l) = uX x (uL l) := rfl
theorem uP_cons (p : Nat × Nat × AX) (l : List (Nat × Nat × AX)) : uP (p :: l) = uX p.2.2 (uP l) := rfl
def usesP (o : POp) : List Nat := match o with
  | .mv x => uX x []
  | .pick c a b => uX c (uX a (uX b []))
  | .build _ ps => uP ps
  | .nilCheck x => uX x []
  | .ar _ x y => uX x (uX y [])
  | .dv x y => uX x (uX y [])
  | .md x y => uX x (uX y [])
  | .bt _ x y => uX x (uX y [])
  | .shl x y => uX x (uX y [])
  | .sr x y => uX x (uX y [])
  | .not x => uX x []
  | .conv _ x => uX x []
  | .mkiface _ x => uX x []
  | .mkfunc _ cs => uL cs
  | .slice _ x lo hi => uX x (uO lo (uO hi []))
  | .aslice _ _ x lo hi => uX x (uO lo (uO hi []))
  | .faddr _ x => uX x []
  | .field _ _ x => uX x []
  | .iaddrS _ x i => uX x (uX i [])
  | .iaddrA _ _ x i => uX x (uX i [])
  | .index _ _ _ x i => uX x (uX i [])
  | .ext x _ => uX x []
  | .len x => uX x []
  | .tassert _ _ x => uX x []
  | .s2a _ x => uX x []
def usesR (o : ROp) : List Nat := match o with
  | .load _ a => uX a []
  | .lookup _ _ x k _ => uX x (uX k [])
  | .mlen x => uX x []
  | .cstr x => uX x []
def usesM (o : MOp) : List Nat := match o with
  | .alloc _ _ => []
  | .box _ x => uX x []
  | .bslice _ _ _ ps => uP ps
  | .mkmap => []
  | .mkslice _ _ _ n c => uX n (uX c [])
def usesB (o : BOp) : List Nat := match o with
  | .store _ a v => uX a (uX v [])
  | .mupd _ m k v => uX m (uX k (uX v []))
  | .del _ m k => uX m (uX k [])
  | .append _ _ _ x y => uX x (uX y [])
  | .appendz _ _ _ _ x n => uX x (uX n [])
  | .copy _ d x => uX d (uX x [])
  | .call _ args => uL args
  | .callv x args => uX x (uL args)
  | .panic x => uX x []
  | .cmp _ _ x y => uX x (uX y [])
  | .mm _ x y => uX x (uX y [])
  | .range x => uX x []
  | .next x => uX x []
  | .entry x => uX x []
def uses (o : AOp) : List Nat := match o with | .p o => usesP o | .r o => usesR o | .m o => usesM o | .b o => usesB o

/-- two rows of slots agree at some -/
def Agree (t t' : Tmps) (l : List Nat) : Prop := ∀ n ∈ l, t.get (Nat.succ n) = t'.get (Nat.succ n)
section
variable {t t' : Tmps}
theorem agX {x : AX} {l : List Nat} (h : Agree t t' (uX x l)) : ev t x = ev t' x ∧ Agree t t' l := by
  cases x with
  | t n => exact ⟨h n (List.mem_cons_self ..), fun m hm => h m (List.mem_cons_of_mem _ hm)⟩
  | c v => exact ⟨rfl, h⟩
theorem agO {x : Option AX} {l : List Nat} (h : Agree t t' (uO x l)) (d : Nat) : bound t x d = bound t' x d ∧ Agree t t' l := by
  cases x with
  | none => exact ⟨rfl, h⟩
  | some x => obtain ⟨h1, h2⟩ := agX (show Agree t t' (uX x l) from h); exact ⟨by simp only [bound, h1], h2⟩
theorem agL : ∀ {l : List AX}, Agree t t' (uL l) → evL t l = evL t' l := by
  intro l
  induction l with
  | nil => intro h; rfl
  | cons x l ih =>
    intro h
    rw [uL_cons] at h
    obtain ⟨h1, h2⟩ := agX h
    rw [evL_cons, evL_cons, h1, ih h2]
theorem agP : ∀ {ps : List (Nat × Nat × AX)}, Agree t t' (uP ps) → fillA t ps = fillA t' ps := by
  intro ps
  induction ps with
  | nil => intro h; rfl
  | cons p ps ih =>
    intro h
    rw [uP_cons] at h
    obtain ⟨h1, h2⟩ := agX h
    funext l
    rw [fillA_cons, fillA_cons, h1, ih h2]
theorem pureOp_congr {φ : Phi} {o : POp} (h : Agree t t' (usesP o)) : pureOp φ t o = pureOp φ t' o := by
  cases o with
  | mv x => exact (agX h).1
  | pick c a b => obtain ⟨h1, h⟩ := agX h; obtain ⟨h2, h⟩ := agX h; obtain ⟨h3, h⟩ := agX h; simp only [pureOp, opPick, h1, h2, h3]
  | build z ps => simp only [pureOp, opBuild, agP h]
  | nilCheck x => simp only [pureOp, opNil, (agX h).1]
  | ar o x y => obtain ⟨h1, h⟩ := agX h; obtain ⟨h2, h⟩ := agX h; simp only [pureOp, opAr, int2, h1, h2]
  | dv x y => obtain ⟨h1, h⟩ := agX h; obtain ⟨h2, h⟩ := agX h; simp only [pureOp, opDv, int2, h1, h2]
  | md x y => obtain ⟨h1, h⟩ := agX h; obtain ⟨h2, h⟩ := agX h; simp only [pureOp, opMd, int2, h1, h2]
  | bt o x y => obtain ⟨h1, h⟩ := agX h; obtain ⟨h2, h⟩ := agX h; simp only [pureOp, opBt, int2, h1, h2]
  | shl x y => obtain ⟨h1, h⟩ := agX h; obtain ⟨h2, h⟩ := agX h; simp only [pureOp, opShl, h1, h2]
  | sr x y => obtain ⟨h1, h⟩ := agX h; obtain ⟨h2, h⟩ := agX h; simp only [pureOp, opShr, h1, h2]
  | not x => simp only [pureOp, opNot, (agX h).1]
  | conv k x => simp only [pureOp, opConv, (agX h).1]
  | mkiface ty x => simp only [pureOp, opMkif, (agX h).1]
  | mkfunc f cs => simp only [pureOp, opMkfn, agL h]
  | slice z x lo hi =>
    obtain ⟨h1, h⟩ := agX h
    have h2 := fun d => (agO h d).1
    have h := (agO h 0).2
    have h3 := fun d => (agO h d).1
    simp only [pureOp, opSlice, h1, h2, h3]
  | aslice n z x lo hi =>
    obtain ⟨h1, h⟩ := agX h
    have h2 := fun d => (agO h d).1
    have h := (agO h 0).2
    have h3 := fun d => (agO h d).1
    simp only [pureOp, opASlice, h1, h2, h3]
  | faddr off x => simp only [pureOp, opFaddr, (agX h).1]
  | field n off x => simp only [pureOp, opField, (agX h).1]
  | iaddrS z x i => obtain ⟨h1, h⟩ := agX h; obtain ⟨h2, h⟩ := agX h; simp only [pureOp, opIaddrS, h1, h2]
  | iaddrA len z x i => obtain ⟨h1, h⟩ := agX h; obtain ⟨h2, h⟩ := agX h; simp only [pureOp, opIaddrA, h1, h2]
  | index n len z x i => obtain ⟨h1, h⟩ := agX h; obtain ⟨h2, h⟩ := agX h; simp only [pureOp, opIndex, h1, h2]
  | ext x i => simp only [pureOp, opExt, (agX h).1]
  | len x => simp only [pureOp, opLen, (agX h).1]
  | tassert ty z x => simp only [pureOp, opTass, (agX h).1]
  | s2a n x => simp only [pureOp, opS2a, (agX h).1]
theorem readOp_congr {s : S} {o : ROp} (h : Agree t t' (usesR o)) : readOp t s o = readOp t' s o := by
  cases o with
  | load n a => simp only [readOp, opLoad, (agX h).1]
  | lookup kt z x k ok => obtain ⟨h1, h⟩ := agX h; obtain ⟨h2, h⟩ := agX h; simp only [readOp, opLook, h1, h2]
  | mlen x => simp only [readOp, opMlen, (agX h).1]
  | cstr x => simp only [readOp, opCstr, (agX h).1]
theorem makeOp_congr {nx : Nat} {o : MOp} (h : Agree t t' (usesM o)) : makeOp t nx o = makeOp t' nx o := by
  cases o with
  | alloc e z => rfl
  | box e x => simp only [makeOp, (agX h).1]
  | bslice e n z ps => simp only [makeOp, agP h]
  | mkmap => rfl
  | mkslice e b z n c => obtain ⟨h1, h⟩ := agX h; obtain ⟨h2, h⟩ := agX h; simp only [makeOp, h1, h2]
theorem stepB_congr {call : CallF} {s : S} {kn kp : AV → S → Bool} {o : BOp} (h : Agree t t' (usesB o)) : stepB call o t s kn kp = stepB call o t' s kn kp := by
  cases o with
  | store n a v => obtain ⟨h1, h⟩ := agX h; obtain ⟨h2, h⟩ := agX h; simp only [stepB, bPlain, h1, h2]
  | mupd kt m k v => obtain ⟨h1, h⟩ := agX h; obtain ⟨h2, h⟩ := agX h; obtain ⟨h3, h⟩ := agX h; simp only [stepB, bPlain, h1, h2, h3]
  | del kt m k => obtain ⟨h1, h⟩ := agX h; obtain ⟨h2, h⟩ := agX h; simp only [stepB, bPlain, h1, h2]
  | append e z b x y => obtain ⟨h1, h⟩ := agX h; obtain ⟨h2, h⟩ := agX h; simp only [stepB, bPlain, h1, h2]
  | appendz e z b zero x y => obtain ⟨h1, h⟩ := agX h; obtain ⟨h2, h⟩ := agX h; simp only [stepB, bPlain, h1, h2]
  | copy z d x => obtain ⟨h1, h⟩ := agX h; obtain ⟨h2, h⟩ := agX h; simp only [stepB, bPlain, h1, h2]
  | call f args => simp only [stepB, agL h]
  | callv x args => obtain ⟨h1, h⟩ := agX h; simp only [stepB, h1, agL h]
  | panic x => simp only [stepB, (agX h).1]
  | cmp o g x y => obtain ⟨h1, h⟩ := agX h; obtain ⟨h2, h⟩ := agX h; simp only [stepB, bPlain, h1, h2]
  | mm mx x y => obtain ⟨h1, h⟩ := agX h; obtain ⟨h2, h⟩ := agX h; simp only [stepB, bPlain, h1, h2]
  | range x => obtain ⟨h1, h⟩ := agX h; simp only [stepB, bPlain, h1]
  | next x => obtain ⟨h1, h⟩ := agX h; simp only [stepB, bPlain, h1]
  | entry x => obtain ⟨h1, h⟩ := agX h; simp only [stepB, bPlain, h1]
end

/-! the blocks that values name -/
def inS (p : Nat → Bool) (x : AS) : Bool := match x with
  | .ptr id _ => p id
  | .slice id _ _ _ => p id
  | .map id => p id
  | .fn _ caps => lall (fun c => p c.1) caps
  | _ => true
def inW (p : Nat → Bool) (x : AW) : Bool := match x with | .s x => inS p x | .agg l => lall (inS p) l
def inV (p : Nat → Bool) (x : AV) : Bool := match x with | .w x => inW p x | .tup l => lall (inW p) l | _ => true
def inE (p : Nat → Bool) (e : AEnt) : Bool := and2 (inW p e.key) (inW p e.val)
def inO (p : Nat → Bool) (o : AObj) : Bool := match o with | .cells l _ => lall (inS p) l | .row l _ _ => lall (inS p) l | .map es _ => lall (inE p) es | .iter m _ _ _ => (match m with | none => true | some i => p i)

/-! the same value, as text -/
def capSame (x y : ACap) : Bool := match x with
  | .ex n => (match y with | .ex m => Nat.beq n m | _ => false)
  | .op n => (match y with | .op m => Nat.beq n m | _ => false)
def eqLs {α : Type} (f : α → α → Bool) (l : List α) : List α → Bool :=
  List.rec (fun m => List.casesOn m true fun _ _ => false) (fun x _ ih m => List.casesOn m false fun y m => match f x y with | true => ih m | false => false) l
theorem eqLs_spec {α : Type} {f : α → α → Bool} (hf : ∀ x y, f x y = true → x = y) : ∀ {l m : List α}, eqLs f l m = true → l = m := by
  intro l
  induction l with
  | nil => intro m h; cases m with | nil => rfl | cons y m => cases h
  | cons x l ih =>
    intro m h
    cases m with
    | nil => cases h
    | cons y m =>
      have h : (match f x y with | true => eqLs f l m | false => false) = true := h
      cases hx : f x y with
      | false => rw [hx] at h; cases h
      | true => rw [hx] at h; rw [hf x y hx, ih h]
def prEq (x y : Nat × Nat) : Bool := and2 (Nat.beq x.1 y.1) (Nat.beq x.2 y.2)
def sEq (x y : AS) : Bool := match x with
  | .int k t => (match y with | .int k' t' => and2 (kindEq k k') (Tm.beq t t') | _ => false)
  | .bool b => (match y with | .bool b' => boolEq b b' | _ => false)
  | .ptr a b => (match y with | .ptr a' b' => and2 (Nat.beq a a') (Nat.beq b b') | _ => false)
  | .nilp => (match y with | .nilp => true | _ => false)
  | .slice a b n c => (match y with | .slice a' b' n' c' => and2 (and2 (Nat.beq a a') (Nat.beq b b')) (and2 (Nat.beq n n') (capSame c c')) | _ => false)
  | .nils => (match y with | .nils => true | _ => false)
  | .map a => (match y with | .map a' => Nat.beq a a' | _ => false)
  | .nilm => (match y with | .nilm => true | _ => false)
  | .fn f c => (match y with | .fn f' c' => and2 (Nat.beq f f') (eqLs prEq c c') | _ => false)
  | .nilfn => (match y with | .nilfn => true | _ => false)
  | .iface a => (match y with | .iface a' => Nat.beq a a' | _ => false)
  | .niliface => (match y with | .niliface => true | _ => false)
  | .opq a => (match y with | .opq a' => Nat.beq a a' | _ => false)
  | .estr => (match y with | .estr => true | _ => false)
def wEq (x y : AW) : Bool := match x with
  | .s x => (match y with | .s y => sEq x y | _ => false)
  | .agg l => (match y with | .agg m => eqLs sEq l m | _ => false)
def vEq (x y : AV) : Bool := match x with
  | .w x => (match y with | .w y => wEq x y | _ => false)
  | .str l => (match y with | .str m => eqLs Tm.beq l m | _ => false)
  | .tup l => (match y with | .tup m => eqLs wEq l m | _ => false)
  | .undef => (match y with | .undef => true | _ => false)
theorem capSame_spec {x y : ACap} (h : capSame x y = true) : x = y := by
  cases x <;> cases y <;> simp only [capSame, Bool.false_eq_true] at h <;> rw [(natBeq_iff _ _).1 h]
theorem prEq_spec (x y : Nat × Nat) (h : prEq x y = true) : x = y := by
  obtain ⟨h1, h2⟩ := and2_iff.1 h
  exact Prod.ext ((natBeq_iff _ _).1 h1) ((natBeq_iff _ _).1 h2)
theorem sEq_spec (x y : AS) (h : sEq x y = true) : x = y := by
  cases x <;> cases y <;> simp only [sEq, Bool.false_eq_true] at h <;> first
    | rfl
    | (obtain ⟨h1, h2⟩ := and2_iff.1 h; rw [kindEq_eq h1, Tm.beq_eq _ _ h2])
    | (rw [boolEq_eq h])
    | (obtain ⟨h1, h2⟩ := and2_iff.1 h; rw [(natBeq_iff _ _).1 h1, (natBeq_iff _ _).1 h2])
    | (obtain ⟨h1, h2⟩ := and2_iff.1 h; obtain ⟨h3, h4⟩ := and2_iff.1 h1; obtain ⟨h5, h6⟩ := and2_iff.1 h2; rw [(natBeq_iff _ _).1 h3, (natBeq_iff _ _).1 h4, (natBeq_iff _ _).1 h5, capSame_spec h6])
    | (rw [(natBeq_iff _ _).1 h])
    | (obtain ⟨h1, h2⟩ := and2_iff.1 h; rw [(natBeq_iff _ _).1 h1, eqLs_spec prEq_spec h2])
theorem wEq_spec (x y : AW) (h : wEq x y = true) : x = y := by
  cases x <;> cases y <;> simp only [wEq, Bool.false_eq_true] at h
  · rw [sEq_spec _ _ h]
  · rw [eqLs_spec sEq_spec h]
theorem vEq_spec (x y : AV) (h : vEq x y = true) : x = y := by
  cases x <;> cases y <;> simp only [vEq, Bool.false_eq_true] at h
  · rw [wEq_spec _ _ h]
  · rw [eqLs_spec (fun _ _ h => Tm.beq_eq _ _ h) h]
  · rw [eqLs_spec wEq_spec h]
  · rfl

/-! a drawn region: its operations in a fixed order, and who must come ahead of whom -/
structure DIt where
  i : Nat
  op : AOper
  anc : Nat
  off : Nat
structure PR where
  i : Nat
  o : ROp
  t : Tmps
  v : AV
structure PM where
  i : Nat
  id : Nat
  ob : AObj

def guardE (g : Option (Nat × Bool)) (t : Tmps) (k : Bool → Bool) : Bool := match g with
  | none => k true
  | some p => optB (t.get (Nat.succ p.1)) fun v => optB (asBoolA v) fun b => k (boolEq b p.2)
def lanyM (f : PM → Bool) (l : List PM) : Bool := List.rec false (fun x _ ih => match f x with | true => true | false => ih) l
theorem lanyM_iff (f : PM → Bool) (l : List PM) : lanyM f l = true ↔ ∃ x ∈ l, f x = true := by
  induction l with
  | nil => constructor <;> intro h <;> simp_all [lanyM]
  | cons x l ih =>
    have : lanyM f (x :: l) = match f x with | true => true | false => lanyM f l := rfl
    rw [this]
    cases hx : f x <;> simp [hx, ih]
/-- an old block, or one that a forerunner makes -/
def okId (nx anc : Nat) (pm : List PM) (id : Nat) : Bool := match Nat.ble (Nat.succ id) nx with
  | true => true
  | false => lanyM (fun p => and2 (Nat.beq p.id id) (Nat.testBit anc p.i)) pm
def okId1 (nx anc me : Nat) (pm : List PM) (id : Nat) : Bool := match okId nx anc pm id with | true => true | false => Nat.beq id me
def S.newAtK (s : S) (id : Nat) (o : AObj) (k : S → Bool) : Bool := match s with
  | .mk h nx φ => ifB (Nat.ble nx id) (ifB (inO (fun i => Nat.ble i id) o) (h.setK (some o) (Nat.succ id) fun h => forceN (Nat.add id 1) fun nx => k ⟨h, nx, φ⟩))
def S.newAt (s : S) (id : Nat) (o : AObj) : S := ⟨s.h.set (some o) (Nat.succ id), Nat.succ id, s.φ⟩
theorem S.newAtK_eq (s : S) (id : Nat) (o : AObj) (k : S → Bool) : s.newAtK id o k = ifB (Nat.ble s.nx id) (ifB (inO (fun i => Nat.ble i id) o) (k (s.newAt id o))) := by
  cases s; simp only [S.newAtK, Tree.setK_eq, forceN_eq]; rfl
def taken (anc : Option Nat) (i : Nat) : Bool := match anc with | none => true | some a => Nat.testBit a i
def adoptK (anc : Option Nat) (pm : List PM) : S → (List PM → S → Bool) → Bool :=
  List.rec (fun s k => k [] s) (fun p _ ih s k => match taken anc p.i with
    | true => s.newAtK p.id p.ob fun s => ih s k
    | false => ih s fun l s => k (p :: l) s) pm
def recheck (anc : Nat) (s : S) (pr : List PR) : (List PR → Bool) → Bool :=
  List.rec (fun k => k []) (fun x _ ih k => match Nat.testBit anc x.i with
    | true => ih k
    | false => optB (readOp x.t s x.o) fun v => ifB (vEq v x.v) (ih fun l => k (x :: l))) pr
theorem adoptK_nil (anc : Option Nat) (s : S) (k : List PM → S → Bool) : adoptK anc [] s k = k [] s := rfl
theorem adoptK_cons (anc : Option Nat) (p : PM) (pm : List PM) (s : S) (k : List PM → S → Bool) : adoptK anc (p :: pm) s k = match taken anc p.i with
    | true => s.newAtK p.id p.ob fun s => adoptK anc pm s k
    | false => adoptK anc pm s fun l s => k (p :: l) s := rfl
theorem recheck_nil (anc : Nat) (s : S) (k : List PR → Bool) : recheck anc s [] k = k [] := rfl
theorem recheck_cons (anc : Nat) (s : S) (x : PR) (pr : List PR) (k : List PR → Bool) : recheck anc s (x :: pr) k = match Nat.testBit anc x.i with
    | true => recheck anc s pr k
    | false => optB (readOp x.t s x.o) fun v => ifB (vEq v x.v) (recheck anc s pr fun l => k (x :: l)) := rfl
def slotIn (nx : Nat) (t : Tmps) (n : Nat) : Bool := match t.get (Nat.succ n) with | none => true | some v => inV (fun id => Nat.ble (Nat.succ id) nx) v
abbrev KD := Tmps → S → List PR → List PM → Bool
def drawP (o : POp) (dst : Option Nat) (anc : Nat) (t : Tmps) (s : S) (pr : List PR) (pm : List PM) (ih : KD) : Bool := match s with
  | .mk h nx φ => optB (pureOp φ t o) fun v => ifB (inV (okId nx anc pm) v) (putK dst v t fun t => ih t ⟨h, nx, φ⟩ pr pm)
def drawR (i : Nat) (o : ROp) (dst : Option Nat) (anc : Nat) (t : Tmps) (s : S) (pr : List PR) (pm : List PM) (ih : KD) : Bool := match s with
  | .mk h nx φ => optB (readOp t ⟨h, nx, φ⟩ o) fun v => ifB (inV (okId nx anc pm) v) (forceV v fun v => putK dst v t fun t' => ih t' ⟨h, nx, φ⟩ (⟨i, o, t, v⟩ :: pr) pm)
def drawM (i : Nat) (id : Nat) (o : MOp) (dst : Option Nat) (anc : Nat) (t : Tmps) (s : S) (pr : List PR) (pm : List PM) (ih : KD) : Bool := match s with
  | .mk h nx φ => ifB (and2 (Nat.ble nx id) (lall (fun p => bnot (Nat.beq p.id id)) pm)) (optB (makeOp t id o) fun x => ifB (and2 (lall (slotIn id t) (usesM o)) (and2 (inV (okId1 nx anc id pm) x.2) (inO (okId nx anc pm) x.1)))
      (forceO x.1 fun ob => putK dst x.2 t fun t => ih t ⟨h, nx, φ⟩ pr (lapp pm [⟨i, id, ob⟩])))
def drawB (call : CallF) (o : BOp) (dst : Option Nat) (anc : Nat) (t : Tmps) (s : S) (pr : List PR) (pm : List PM) (k : KX) (ih : KD) : Bool :=
  adoptK (some anc) pm s fun pm s => ifB (lall (slotIn s.nx t) (usesB o)) (stepB call o t s
    (fun v s => recheck anc s pr fun pr => ifB (lall (fun p => Nat.ble s.nx p.id) pm) (putK dst v t fun t => ih t s pr pm))
    (fun v s => k (.panic v) .leaf s))
def drawI (call : CallF) (base : Nat) (it : DIt) (t : Tmps) (s : S) (pr : List PR) (pm : List PM) (k : KX) (ih : KD) : Bool := match it with
  | .mk i op anc off => match op with
    | .mk dst o g => guardE g t fun b => match b with
      | false => putK dst .undef t fun t => ih t s pr pm
      | true => (match o with
        | .p o => drawP o dst anc t s pr pm ih
        | .r o => drawR i o dst anc t s pr pm ih
        | .m o => forceN (Nat.add base off) fun id => drawM i id o dst anc t s pr pm ih
        | .b o => drawB call o dst anc t s pr pm k ih)
def drawL (call : CallF) (base : Nat) (k : KX) (l : List DIt) : KD :=
  List.rec (fun t s _ pm => adoptK none pm s fun _ s => k .normal t s) (fun it _ ih t s pr pm => drawI call base it t s pr pm k ih) l
theorem drawL_nil (call : CallF) (base : Nat) (k : KX) (t : Tmps) (s : S) (pr : List PR) (pm : List PM) : drawL call base k [] t s pr pm = adoptK none pm s fun _ s => k .normal t s := rfl
theorem drawL_cons (call : CallF) (base : Nat) (k : KX) (it : DIt) (l : List DIt) (t : Tmps) (s : S) (pr : List PR) (pm : List PM) :
    drawL call base k (it :: l) t s pr pm = drawI call base it t s pr pm k (drawL call base k l) := rfl
def drawE (call : CallF) (l : List DIt) (t : Tmps) (s : S) (k : KX) : Bool := match s with | .mk h nx φ => drawL call nx k l t ⟨h, nx, φ⟩ [] []

/-! from a region to its data -/
def compOper (T : TyT) (ops : Array Oper) (n : Nat) (o : Oper) : Option AOper :=
  match compOp T o.op with
  | none => none
  | some ao =>
    match (match o.dst with | none => true | some d => Nat.ble (Nat.succ d) n) with
    | false => none
    | true => (match o.guard with
      | none => some ⟨o.dst, ao, none⟩
      | some (j, want) => (match (ops[j]?).bind (·.dst) with
        | none => none
        | some d => some ⟨o.dst, ao, some (d, want)⟩))
def findI : List DIt → Nat → Option DIt
  | [], _ => none
  | x :: l, i => match Nat.beq x.i i with | true => some x | false => findI l i
def ancE (prev : List DIt) : List Edge → Nat → Option Nat
  | [], m => some m
  | e :: l, m => match Region.binds .any e with
    | false => ancE prev l m
    | true => (match findI prev e.on with | none => none | some x => ancE prev l (m ||| (2 ^ e.on) ||| x.anc))
def AOper.uses (o : AOper) : List Nat := match o.guard with | none => Sy.uses o.op | some p => p.1 :: Sy.uses o.op
def memN : List Nat → Nat → Bool
  | [], _ => false
  | x :: l, n => match Nat.beq x n with | true => true | false => memN l n
def isB (o : AOp) : Bool := match o with | .b _ => true | _ => false
def touches (x y : AOper) : Bool := match x.dst with | none => false | some d => memN y.uses d
def sameDst (x y : AOper) : Bool := match x.dst, y.dst with | some d, some e => Nat.beq d e | _, _ => false
def okPair (x y : DIt) : Bool := !(Nat.beq x.i y.i) && !(sameDst x.op y.op) && (Nat.testBit y.anc x.i || (!(touches x.op y.op) && !(touches y.op x.op) && !(isB x.op.op)))
def compDit (T : TyT) (ops : Array Oper) (n : Nat) (prev : List DIt) (i off : Nat) : Option DIt := match ops[i]? with
  | none => none
  | some o => (match compOper T ops n o with
    | none => none
    | some ao => (match ancE prev o.after.toList 0 with
      | none => none
      | some anc => (match prev.all fun x => okPair x ⟨i, ao, anc, off⟩ with | true => some ⟨i, ao, anc, off⟩ | false => none)))
def compDl (T : TyT) (ops : Array Oper) (n : Nat) : List DIt → List (Nat × Nat) → Option (List DIt)
  | _, [] => some []
  | prev, p :: l => match compDit T ops n prev p.1 p.2 with
    | none => none
    | some y => (match compDl T ops n (prev ++ [y]) l with | none => none | some r => some (y :: r))
def coverD (n : Nat) (l : List DIt) : Bool := (List.range n).all fun j => (findI l j).isSome
def compD (T : TyT) (ops : Array Oper) (n : Nat) (plan : List (Nat × Nat)) : Option (List DIt) := match Nat.beq plan.length ops.size with
  | false => none
  | true => (match compDl T ops n [] plan with
    | none => none
    | some l => (match coverD ops.size l with | true => some l | false => none))
end
end Go.Sy

/-! The symbolic executor, part Ua: the blocks that values name; other readings of names. -/
namespace Go.Sy
set_option linter.unusedVariables false
set_option linter.unusedSectionVars false
noncomputable section

def InS (p : Nat → Prop) : AS → Prop
  | .ptr id _ => p id
  | .slice id _ _ _ => p id
  | .map id => p id
  | .fn _ caps => ∀ x ∈ caps, p x.1
  | _ => True
def InW (p : Nat → Prop) : AW → Prop
  | .s x => InS p x
  | .agg l => ∀ x ∈ l, InS p x
def InV (p : Nat → Prop) : AV → Prop
  | .w x => InW p x
  | .tup l => ∀ x ∈ l, InW p x
  | _ => True
def InO (p : Nat → Prop) : AObj → Prop
  | .cells l _ => ∀ x ∈ l, InS p x
  | .row l _ _ => ∀ x ∈ l, InS p x
  | .map es _ => ∀ e ∈ es, InW p e.key ∧ InW p e.val
  | .iter m _ _ _ => ∀ i, m = some i → p i
/-- two readings agree on some names -/
structure On (p : Nat → Prop) (c c' : Cx) : Prop where
  σ : c'.σ = c.σ
  at_ : ∀ id, p id → c'.ι id = c.ι id ∧ c'.κ id = c.κ id

section
variable {p q : Nat → Prop} {c c' : Cx} {f : Nat → Bool}
theorem inS_spec {x : AS} (h : inS f x = true) : InS (fun id => f id = true) x := by
  cases x with
  | fn g caps => exact (lall_iff _ _).1 h
  | _ => first | exact h | trivial
theorem inW_spec {x : AW} (h : inW f x = true) : InW (fun id => f id = true) x := by
  cases x with
  | s x => exact inS_spec h
  | agg l => exact fun x hx => inS_spec ((lall_iff _ _).1 h x hx)
theorem inV_spec {x : AV} (h : inV f x = true) : InV (fun id => f id = true) x := by
  cases x with
  | w x => exact inW_spec h
  | tup l => exact fun x hx => inW_spec ((lall_iff _ _).1 h x hx)
  | _ => trivial
theorem inO_spec {x : AObj} (h : inO f x = true) : InO (fun id => f id = true) x := by
  cases x with
  | cells l e => exact fun x hx => inS_spec ((lall_iff _ _).1 h x hx)
  | row l e z => exact fun x hx => inS_spec ((lall_iff _ _).1 h x hx)
  | map es cl =>
    intro e he
    obtain ⟨h1, h2⟩ := and2_iff.1 ((lall_iff _ _).1 h e he)
    exact ⟨inW_spec h1, inW_spec h2⟩
  | iter m a l b =>
    intro i hi
    subst hi
    exact h
theorem InS.mono (hm : ∀ id, p id → q id) {x : AS} (h : InS p x) : InS q x := by
  cases x with
  | fn g caps => exact fun y hy => hm _ (h y hy)
  | ptr a b => exact hm _ h
  | slice a b n cp => exact hm _ h
  | map a => exact hm _ h
  | _ => trivial
theorem InW.mono (hm : ∀ id, p id → q id) {x : AW} (h : InW p x) : InW q x := by
  cases x with
  | s x => exact InS.mono hm h
  | agg l => exact fun x hx => InS.mono hm (h x hx)
theorem InV.mono (hm : ∀ id, p id → q id) {x : AV} (h : InV p x) : InV q x := by
  cases x with
  | w x => exact InW.mono hm h
  | tup l => exact fun x hx => InW.mono hm (h x hx)
  | _ => trivial
theorem InO.mono (hm : ∀ id, p id → q id) {x : AObj} (h : InO p x) : InO q x := by
  cases x with
  | cells l e => exact fun x hx => InS.mono hm (h x hx)
  | row l e z => exact fun x hx => InS.mono hm (h x hx)
  | map es cl => exact fun e he => ⟨InW.mono hm (h e he).1, InW.mono hm (h e he).2⟩
  | iter m a l b => exact fun i hi => hm _ (h i hi)

variable {nx N : Nat}
theorem AS.wf.names {x : AS} (h : x.wf c nx) : InS (fun id => id < nx) x := by
  cases x with
  | slice a b n cp => exact h.1
  | _ => first | exact h | trivial
theorem AW.wf.names {x : AW} (h : x.wf c nx) : InW (fun id => id < nx) x := by
  cases x with
  | s x => exact AS.wf.names h
  | agg l => exact fun x hx => AS.wf.names (h x hx)
theorem AV.wf.names {x : AV} (h : x.wf c nx) : InV (fun id => id < nx) x := by
  cases x with
  | w x => exact AW.wf.names h
  | tup l => exact fun x hx => AW.wf.names (h x hx)
  | _ => trivial
theorem InS.wf {x : AS} (h : InS (fun id => id < nx) x) (hw : x.wf c N) : x.wf c nx := by
  cases x with
  | slice a b n cp => exact ⟨h, hw.2⟩
  | _ => first | exact h | trivial
theorem InW.wf {x : AW} (h : InW (fun id => id < nx) x) (hw : x.wf c N) : x.wf c nx := by
  cases x with
  | s x => exact InS.wf h hw
  | agg l => exact fun x hx => InS.wf (h x hx) (hw x hx)
theorem InV.wf {x : AV} (h : InV (fun id => id < nx) x) (hw : x.wf c N) : x.wf c nx := by
  cases x with
  | w x => exact InW.wf h hw
  | tup l => exact fun x hx => InW.wf (h x hx) (hw x hx)
  | _ => trivial
theorem InO.wf {x : AObj} (h : InO (fun id => id < nx) x) (hw : x.wf c N) : x.wf c nx := by
  cases x with
  | cells l e => exact fun x hx => InS.wf (h x hx) (hw x hx)
  | row l e z => exact fun x hx => InS.wf (h x hx) (hw x hx)
  | map es cl => exact fun e he => ⟨InW.wf (h e he).1 (hw e he).1, InW.wf (h e he).2 (hw e he).2⟩
  | iter m a l b => exact h

theorem On.cap (ho : On p c c') {id : Nat} (hi : p id) (x : ACap) : x.conc c' id = x.conc c id := by
  cases x <;> simp [ACap.conc, (ho.at_ id hi).2]
theorem On.s (ho : On p c c') {x : AS} (h : InS p x) : x.conc c' = x.conc c := by
  cases x with
  | int k t => simp [AS.conc, ho.σ]
  | ptr a b => simp only [AS.conc]; rw [(ho.at_ a h).1]
  | slice a b n cp => simp only [AS.conc]; rw [(ho.at_ a h).1, ho.cap h]
  | map a => simp only [AS.conc]; rw [(ho.at_ a h).1]
  | fn g caps =>
    have : caps.map (capPtr c') = caps.map (capPtr c) := List.map_congr_left fun y hy => by simp [capPtr, (ho.at_ y.1 (h y hy)).1]
    simp [AS.conc, this]
  | opq i => simp [AS.conc, ho.σ]
  | _ => rfl
theorem On.l (ho : On p c c') {l : List AS} (h : ∀ x ∈ l, InS p x) : l.map (AS.conc c') = l.map (AS.conc c) := List.map_congr_left fun x hx => ho.s (h x hx)
theorem On.w (ho : On p c c') {x : AW} (h : InW p x) : x.conc c' = x.conc c := by
  cases x with
  | s x => exact ho.s h
  | agg l => simp only [AW.conc]; rw [ho.l h]
theorem On.v (ho : On p c c') {x : AV} (h : InV p x) : x.conc c' = x.conc c := by
  cases x with
  | w x => exact ho.w h
  | str l => simp [AV.conc, ho.σ]
  | tup l =>
    simp only [AV.conc]
    rw [List.map_congr_left fun x hx => ho.w (h x hx)]
  | undef => rfl
theorem On.s_wf (ho : On p c c') {x : AS} (h : InS p x) (hw : x.wf c N) : x.wf c' N := by
  cases x with
  | slice a b n cp =>
    refine ⟨hw.1, ?_⟩
    have h2 := hw.2
    have hk := (ho.at_ a h).2
    cases cp with
    | ex m => exact h2
    | op m => simp only [ACap.wf] at h2 ⊢; rw [hk]; exact h2
  | _ => exact hw
theorem On.w_wf (ho : On p c c') {x : AW} (h : InW p x) (hw : x.wf c N) : x.wf c' N := by
  cases x with
  | s x => exact ho.s_wf h hw
  | agg l => exact fun x hx => ho.s_wf (h x hx) (hw x hx)
theorem On.v_wf (ho : On p c c') {x : AV} (h : InV p x) (hw : x.wf c N) : x.wf c' N := by
  cases x with
  | w x => exact ho.w_wf h hw
  | tup l => exact fun x hx => ho.w_wf (h x hx) (hw x hx)
  | _ => trivial
theorem On.o_wf (ho : On p c c') {x : AObj} (h : InO p x) (hw : x.wf c N) : x.wf c' N := by
  cases x with
  | cells l e => exact fun x hx => ho.s_wf (h x hx) (hw x hx)
  | row l e z => exact fun x hx => ho.s_wf (h x hx) (hw x hx)
  | map es cl => exact fun e he => ⟨ho.w_wf (h e he).1 (hw e he).1, ho.w_wf (h e he).2 (hw e he).2⟩
  | iter m a l b => exact hw
theorem On.obj (ho : On p c c') {id : Nat} (hi : p id) {x : AObj} (h : InO p x) {ob : Option Obj} (hr : ObjRel c id x ob) : ObjRel c' id x ob := by
  cases x with
  | cells l e => simp only [ObjRel] at hr ⊢; rw [ho.l h]; exact hr
  | row l e z =>
    obtain ⟨cur, h1, h2, h3, h4⟩ := hr
    have hk := (ho.at_ id hi).2
    exact ⟨cur, h1, by rw [hk]; exact h2, by rw [hk]; exact h3, by rw [ho.l h]; exact h4⟩
  | map es cl =>
    simp only [ObjRel] at hr ⊢
    rw [List.map_congr_left fun e he => (show AEnt.conc c' e = AEnt.conc c e by simp only [AEnt.conc, ho.w (h e he).1, ho.w (h e he).2])]
    exact hr
  | iter m a l b =>
    simp only [ObjRel] at hr ⊢
    cases m with
    | none => exact hr
    | some i => simp only [Option.map_some, (ho.at_ i (h i rfl)).1] at hr ⊢; exact hr
theorem On.mono (ho : On p c c') (hm : ∀ id, q id → p id) : On q c c' := ⟨ho.σ, fun id h => ho.at_ id (hm id h)⟩
theorem On.ext (ho : On (fun id => id < nx) c c') : Cx.Ext nx c c' := ⟨ho.σ, fun id h => (ho.at_ id h).1, fun id h => (ho.at_ id h).2⟩
theorem Cx.Ext.on (he : Cx.Ext nx c c') : On (fun id => id < nx) c c' := ⟨he.σ, fun id h => ⟨he.ι id h, he.κ id h⟩⟩
theorem AV.wf_mono {x : AV} (h : x.wf c nx) (hle : nx ≤ N) : x.wf c N := AV.wf_ext (Cx.Ext.refl nx c) hle h
theorem AObj.wf_mono {x : AObj} (h : x.wf c nx) (hle : nx ≤ N) : x.wf c N := AObj.wf_ext (Cx.Ext.refl nx c) hle h

/-- a state stands for a world, also if names that it does not know read differently -/
theorem Rel.ext {s : S} {w : World} (h : Rel c s w) (he : Cx.Ext s.nx c c') : Rel c' s w := by
  refine ⟨by rw [he.σ]; exact h.sat, h.lt, fun id o ho => AObj.wf_ext he (Nat.le_refl _) (h.wf id o ho), ?_, ?_⟩
  · intro id o ho
    rw [he.ι id (h.lt id o ho)]
    exact ObjRel.ext he (h.lt id o ho) (h.wf id o ho) (h.obj id o ho)
  · intro id id' o o' h1 h2 e
    rw [he.ι id (h.lt id o h1), he.ι id' (h.lt id' o' h2)] at e
    exact h.inj id id' o o' h1 h2 e
theorem S.at_newAt (s : S) (id : Nat) (o : AObj) (i : Nat) : (s.newAt id o).at i = if i = id then some o else s.at i := by
  simp only [S.at, S.newAt]
  rw [Tree.get_set _ _ _ _ (by omega) (by omega)]
  simp
/-- a block that was made ahead of its time is taken up -/
theorem Rel.newAt {s : S} {w : World} (h : Rel c s w) {id : Nat} {o : AObj} (hid : s.nx ≤ id) (hw : o.wf c (id + 1)) (ho : ObjRel c id o (w.heap[c.ι id]?))
    (hne : ∀ i x, s.at i = some x → c.ι i ≠ c.ι id) : Rel c (s.newAt id o) w := by
  refine ⟨h.sat, ?_, ?_, ?_, ?_⟩
  · intro i x hx
    rw [S.at_newAt] at hx
    show i < id + 1
    split at hx
    · omega
    · have := h.lt i x hx; omega
  · intro i x hx
    rw [S.at_newAt] at hx
    show x.wf c (id + 1)
    split at hx
    · injection hx with e; subst e; exact hw
    · exact AObj.wf_mono (h.wf i x hx) (by omega)
  · intro i x hx
    rw [S.at_newAt] at hx
    split at hx
    · rename_i e; subst e; injection hx with e; subst e; exact ho
    · exact h.obj i x hx
  · intro i j x y hx hy e
    rw [S.at_newAt] at hx hy
    split at hx <;> split at hy
    · omega
    · rename_i e1 _; subst e1; exact absurd e.symm (hne j y hy)
    · rename_i _ e1; subst e1; exact absurd e (hne i x hx)
    · exact h.inj i j x y hx hy e
theorem Step.newAt {c0 : Cx} {s0 s : S} {w0 w : World} (h : Step c0 c s0 s w0 w) {id : Nat} (o : AObj) (hid : s.nx ≤ id) (hb : w0.heap.size ≤ c.ι id) : Step c0 c s0 (s.newAt id o) w0 w := by
  refine ⟨h.ext, Nat.le_trans h.nx (by show s.nx ≤ id + 1; omega), h.os, h.tape, h.output, h.size, h.frame, ?_⟩
  intro i x hx
  rw [S.at_newAt] at hx
  split at hx
  · rename_i e; subst e; exact .inl hb
  · exact h.anew i x hx
/-- a block that no name of the state stands for is made -/
theorem Rel.early {s : S} {w : World} (h : Rel c s w) {id : Nat} (hid : s.nx ≤ id) (ob : Obj) : Rel (c.set2 id w.heap.size 0) s (w.alloc ob) := by
  have he : Cx.Ext s.nx c (c.set2 id w.heap.size 0) := ⟨rfl, fun i h => by simp [Cx.set2]; omega, fun i h => by simp [Cx.set2]; omega⟩
  have h' := h.ext he
  refine ⟨h'.sat, h'.lt, h'.wf, ?_, h'.inj⟩
  intro i o ho
  have hlt := h.ι_lt ho
  have e := he.ι i (h.lt i o ho)
  rw [e, heap_alloc_old w ob hlt]
  have := h'.obj i o ho
  rw [e] at this
  exact this
theorem Step.early {c0 : Cx} {s0 s : S} {w0 w : World} (h : Step c0 c s0 s w0 w) (hr : Rel c s w) {id : Nat} (hid : s.nx ≤ id) (ob : Obj) : Step c0 (c.set2 id w.heap.size 0) s0 s w0 (w.alloc ob) := by
  have he : Cx.Ext s.nx c (c.set2 id w.heap.size 0) := ⟨rfl, fun i h => by simp [Cx.set2]; omega, fun i h => by simp [Cx.set2]; omega⟩
  refine ⟨h.ext.trans he h.nx, h.nx, h.os, h.tape, h.output, Nat.le_trans h.size (by simp), ?_, ?_⟩
  · intro b hb hnot
    rw [heap_alloc_old w ob (Nat.lt_of_lt_of_le hb h.size)]
    exact h.frame b hb hnot
  · intro i o ho
    rw [he.ι i (hr.lt i o ho)]
    exact h.anew i o ho
end
end
end Go.Sy

/-! The symbolic executor, part Ub: what a drawn region's data say of its operations. -/
namespace Go.Sy
set_option linter.unusedVariables false
set_option linter.unusedSectionVars false

structure PlanOk (T : TyT) (ops : Array Oper) (n : Nat) (plan : List DIt) : Prop where
  op : ∀ y ∈ plan, ∃ o, ops[y.i]? = some o ∧ compOper T ops n o = some y.op
  pair : plan.Pairwise fun x y => okPair x y = true
  anc : ∀ y ∈ plan, ∀ o, ops[y.i]? = some o → ∀ k, Nat.testBit y.anc k = true → ∃ e ∈ o.after, Region.binds .any e = true ∧ (e.on = k ∨ ∃ z ∈ plan, z.i = e.on ∧ Nat.testBit z.anc k = true)
  first : ∀ pre y suf, plan = pre ++ y :: suf → ∀ o, ops[y.i]? = some o → ∀ e ∈ o.after, Region.binds .any e = true → ∃ x ∈ pre, x.i = e.on
  size : plan.length = ops.size
  cover : ∀ j, j < ops.size → ∃ y ∈ plan, y.i = j

theorem compOper_some {T : TyT} {ops : Array Oper} {n : Nat} {o : Oper} {ao : AOper} (h : compOper T ops n o = some ao) :
    compOp T o.op = some ao.op ∧ ao.dst = o.dst ∧ (match o.dst with | none => true | some d => Nat.ble (Nat.succ d) n) = true ∧
      ((o.guard = none ∧ ao.guard = none) ∨ ∃ j want d, o.guard = some (j, want) ∧ (ops[j]?).bind (·.dst) = some d ∧ ao.guard = some (d, want)) := by
  unfold compOper at h
  split at h <;> try (simp at h; done)
  rename_i x hx
  split at h <;> try (simp at h; done)
  rename_i hd
  split at h
  · rename_i hg
    injection h with h; subst h
    exact ⟨hx, rfl, hd, .inl ⟨hg, rfl⟩⟩
  · rename_i j want hg
    split at h <;> try (simp at h; done)
    rename_i d hj
    injection h with h; subst h
    exact ⟨hx, rfl, hd, .inr ⟨j, want, d, hg, hj, rfl⟩⟩

theorem findI_spec : ∀ {l : List DIt} {i : Nat} {x : DIt}, findI l i = some x → x ∈ l ∧ x.i = i := by
  intro l
  induction l with
  | nil => intro i x h; cases h
  | cons y l ih =>
    intro i x h
    simp only [findI] at h
    split at h
    · rename_i hb
      injection h with h; subst h
      exact ⟨List.mem_cons_self .., (natBeq_iff _ _).1 hb⟩
    · obtain ⟨h1, h2⟩ := ih h
      exact ⟨List.mem_cons_of_mem _ h1, h2⟩
theorem ancE_spec {prev : List DIt} : ∀ {l : List Edge} {m r : Nat}, ancE prev l m = some r →
    (∀ e ∈ l, Region.binds .any e = true → ∃ x ∈ prev, x.i = e.on) ∧
    ∀ k, Nat.testBit r k = true → Nat.testBit m k = true ∨ ∃ e ∈ l, Region.binds .any e = true ∧ (e.on = k ∨ ∃ z ∈ prev, z.i = e.on ∧ Nat.testBit z.anc k = true) := by
  intro l
  induction l with
  | nil => intro m r h; simp only [ancE] at h; injection h with h; subst h; exact ⟨by simp, fun k h => .inl h⟩
  | cons e l ih =>
    intro m r h
    simp only [ancE] at h
    split at h
    · rename_i hb
      obtain ⟨h1, h2⟩ := ih h
      refine ⟨fun e' he' hb' => ?_, fun k hk => ?_⟩
      · rcases List.mem_cons.1 he' with rfl | he'
        · rw [hb] at hb'; cases hb'
        · exact h1 e' he' hb'
      · rcases h2 k hk with h2 | ⟨e', he', h3⟩
        · exact .inl h2
        · exact .inr ⟨e', List.mem_cons_of_mem _ he', h3⟩
    · rename_i hb
      split at h <;> try (simp at h; done)
      rename_i x hx
      obtain ⟨hx1, hx2⟩ := findI_spec hx
      obtain ⟨h1, h2⟩ := ih h
      refine ⟨fun e' he' hb' => ?_, fun k hk => ?_⟩
      · rcases List.mem_cons.1 he' with rfl | he'
        · exact ⟨x, hx1, hx2⟩
        · exact h1 e' he' hb'
      · rcases h2 k hk with h2 | ⟨e', he', h3⟩
        · rw [Nat.testBit_or, Nat.testBit_or, Bool.or_eq_true, Bool.or_eq_true] at h2
          rcases h2 with (h2 | h2) | h2
          · exact .inl h2
          · rw [Nat.testBit_two_pow] at h2
            exact .inr ⟨e, List.mem_cons_self .., hb, .inl (by simpa using h2)⟩
          · exact .inr ⟨e, List.mem_cons_self .., hb, .inr ⟨x, hx1, hx2, h2⟩⟩
        · exact .inr ⟨e', List.mem_cons_of_mem _ he', h3⟩

variable {T : TyT} {ops : Array Oper} {n : Nat}
theorem compDit_spec {prev : List DIt} {i off : Nat} {y : DIt} (h : compDit T ops n prev i off = some y) :
    (∃ o, ops[y.i]? = some o ∧ compOper T ops n o = some y.op ∧ (∀ e ∈ o.after, Region.binds .any e = true → ∃ x ∈ prev, x.i = e.on) ∧
      ∀ k, Nat.testBit y.anc k = true → ∃ e ∈ o.after, Region.binds .any e = true ∧ (e.on = k ∨ ∃ z ∈ prev, z.i = e.on ∧ Nat.testBit z.anc k = true)) ∧
    ∀ x ∈ prev, okPair x y = true := by
  unfold compDit at h
  split at h <;> try (simp at h; done)
  rename_i o ho
  split at h <;> try (simp at h; done)
  rename_i ao hao
  split at h <;> try (simp at h; done)
  rename_i anc hanc
  split at h <;> try (simp at h; done)
  rename_i hall
  injection h with h; subst h
  obtain ⟨h1, h2⟩ := ancE_spec hanc
  refine ⟨⟨o, ho, hao, fun e he => h1 e (by simpa using he), fun k hk => ?_⟩, fun x hx => List.all_eq_true.1 hall x hx⟩
  rcases h2 k hk with h2 | ⟨e, he, h3⟩
  · simp at h2
  · exact ⟨e, by simpa using he, h3⟩

theorem compDl_spec : ∀ {l : List (Nat × Nat)} {prev r : List DIt}, compDl T ops n prev l = some r → prev.Pairwise (fun x y => okPair x y = true) →
    r.length = l.length ∧ (prev ++ r).Pairwise (fun x y => okPair x y = true) ∧
    ∀ r1 y r2, r = r1 ++ y :: r2 → ∃ o, ops[y.i]? = some o ∧ compOper T ops n o = some y.op ∧ (∀ e ∈ o.after, Region.binds .any e = true → ∃ x ∈ prev ++ r1, x.i = e.on) ∧
      ∀ k, Nat.testBit y.anc k = true → ∃ e ∈ o.after, Region.binds .any e = true ∧ (e.on = k ∨ ∃ z ∈ prev ++ r1, z.i = e.on ∧ Nat.testBit z.anc k = true) := by
  intro l
  induction l with
  | nil => intro prev r h hp; simp only [compDl] at h; injection h with h; subst h; exact ⟨rfl, by simpa using hp, by intro r1 y r2 e; simp at e⟩
  | cons p l ih =>
    intro prev r h hp
    simp only [compDl] at h
    split at h <;> try (simp at h; done)
    rename_i y hy
    split at h <;> try (simp at h; done)
    rename_i r' hr'
    injection h with h; subst h
    obtain ⟨⟨o, ho, hc, h1, h2⟩, h3⟩ := compDit_spec hy
    have hp' : (prev ++ [y]).Pairwise (fun x y => okPair x y = true) := by
      rw [List.pairwise_append]
      refine ⟨hp, by simp, ?_⟩
      intro a ha b hb
      simp at hb; subst hb
      exact h3 a ha
    obtain ⟨g1, g2, g3⟩ := ih hr' hp'
    refine ⟨by simp [g1], by simpa using g2, ?_⟩
    intro r1 y' r2 e
    cases r1 with
    | nil =>
      simp at e
      obtain ⟨rfl, rfl⟩ := e
      simpa using ⟨o, ho, hc, h1, h2⟩
    | cons z r1 =>
      simp at e
      obtain ⟨rfl, e⟩ := e
      have := g3 r1 y' r2 e
      simpa using this

theorem compD_spec {plan : List (Nat × Nat)} {l : List DIt} (h : compD T ops n plan = some l) : PlanOk T ops n l := by
  unfold compD at h
  split at h <;> try (simp at h; done)
  rename_i hb
  have hb := (natBeq_iff _ _).1 hb
  split at h <;> try (simp at h; done)
  rename_i l' hl'
  split at h <;> try (simp at h; done)
  rename_i hcov
  injection h with h; subst h
  obtain ⟨h1, h2, h3⟩ := compDl_spec hl' (by simp)
  simp only [List.nil_append] at h2 h3
  refine ⟨?_, h2, ?_, ?_, by rw [h1, hb], fun j hj => ?_⟩
  case refine_4 =>
    have := List.all_eq_true.1 hcov j (List.mem_range.2 hj)
    obtain ⟨x, hx⟩ := Option.isSome_iff_exists.1 this
    exact ⟨x, findI_spec hx⟩
  · intro y hy
    obtain ⟨r1, r2, e⟩ := List.append_of_mem hy
    obtain ⟨o, ho, hc, _⟩ := h3 r1 y r2 e
    exact ⟨o, ho, hc⟩
  · intro y hy o ho k hk
    obtain ⟨r1, r2, e⟩ := List.append_of_mem hy
    obtain ⟨o', ho', _, _, h4⟩ := h3 r1 y r2 e
    rw [ho] at ho'; injection ho' with ho'; subst ho'
    obtain ⟨e', he', hb', h5⟩ := h4 k hk
    refine ⟨e', he', hb', ?_⟩
    rcases h5 with h5 | ⟨z, hz, h5⟩
    · exact .inl h5
    · exact .inr ⟨z, by rw [e]; exact List.mem_append_left _ hz, h5⟩
  · intro pre y suf e o ho
    obtain ⟨o', ho', _, h4, _⟩ := h3 pre y suf e
    rw [ho] at ho'; injection ho' with ho'; subst ho'
    exact h4

theorem okPair_ne {x y : DIt} (h : okPair x y = true) : x.i ≠ y.i := by
  simp only [okPair, Bool.and_eq_true, Bool.not_eq_true'] at h
  intro e
  have := (natBeq_iff x.i y.i).2 e
  rw [this] at h
  exact absurd h.1.1 (by simp)
theorem okPair_dst {x y : DIt} (h : okPair x y = true) {d : Nat} (hx : x.op.dst = some d) (hy : y.op.dst = some d) : False := by
  simp only [okPair, Bool.and_eq_true, Bool.not_eq_true', sameDst, hx, hy] at h
  have := (natBeq_iff d d).2 rfl
  rw [this] at h
  exact absurd h.1.2 (by simp)
theorem memN_iff {l : List Nat} {n : Nat} : memN l n = true ↔ n ∈ l := by
  induction l with
  | nil => simp [memN]
  | cons x l ih =>
    simp only [memN]
    cases hb : Nat.beq x n with
    | true => simp [(natBeq_iff _ _).1 hb]
    | false =>
      have : x ≠ n := fun e => by rw [(natBeq_iff _ _).2 e] at hb; cases hb
      simp only [ih]
      constructor
      · intro h; exact List.mem_cons_of_mem _ h
      · intro h; rcases List.mem_cons.1 h with h | h
        · exact absurd h.symm this
        · exact h
theorem okPair_or {x y : DIt} (h : okPair x y = true) : Nat.testBit y.anc x.i = true ∨ ((∀ d, x.op.dst = some d → d ∉ y.op.uses) ∧ (∀ d, y.op.dst = some d → d ∉ x.op.uses) ∧ isB x.op.op = false) := by
  simp only [okPair, Bool.and_eq_true, Bool.or_eq_true, Bool.not_eq_true'] at h
  rcases h.2 with h | ⟨⟨h1, h2⟩, h3⟩
  · exact .inl h
  · refine .inr ⟨fun d hd hm => ?_, fun d hd hm => ?_, h3⟩
    · simp only [touches, hd] at h1; rw [memN_iff.2 hm] at h1; cases h1
    · simp only [touches, hd] at h2; rw [memN_iff.2 hm] at h2; cases h2
end Go.Sy

