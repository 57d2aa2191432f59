/- The symbolic executor: parts X, Y, Z, Za, Zb, Zc, Ze, Zf, Zg. Sound by one theorem (callA_ok). No condition. -/
import Derived.Test.YtcpeflfonacdgaaGreatSy4
import Derived.Shelf.Spec.BitsCarry
import Derived.Laws.IdiomRangeMap
import Derived.LoopN
set_option linter.unusedVariables false
set_option linter.unusedSimpArgs false
set_option linter.unusedSectionVars false
/-! The symbolic executor, part X: calls that the model answers itself; calls that are summed up. -/
namespace Go.Sy
set_option linter.unusedVariables false
set_option linter.unusedSectionVars false
noncomputable section

/-- is a number of a range for sure? -/
def inR (φ : Phi) (t : Tm) (lo hi : Int) : Bool := match range φ t with
  | none => false
  | some (a, b) => and2 (intLe lo a) (intLe b hi)
theorem inR_spec {σ : Env} {φ : Phi} (hs : Sat σ φ) {t : Tm} {lo hi : Int} (h : inR φ t lo hi = true) : lo ≤ t.eval σ ∧ t.eval σ ≤ hi := by
  unfold inR at h
  split at h
  · cases h
  · rename_i a b hr
    obtain ⟨h1, h2⟩ := and2_iff.1 h
    have h1 := (intLe_iff _ _).1 h1
    have h2 := (intLe_iff _ _).1 h2
    have := range_sound hs t a b hr
    omega
def plusT (a b : Tm) : Tm := match lift2 (fun m n => Int.add m n) a b with | some t => t | none => mkAr 0 a b
theorem plusT_spec (σ : Env) (a b : Tm) : (plusT a b).eval σ = a.eval σ + b.eval σ := by
  unfold plusT
  split
  · rename_i h; rw [lift2_spec h]; rfl
  · rw [mkAr_spec]; rfl
def subT (a b : Tm) : Tm := match lift2 (fun m n => Int.sub m n) a b with | some t => t | none => mkAr 1 a b
theorem subT_spec (σ : Env) (a b : Tm) : (subT a b).eval σ = a.eval σ - b.eval σ := by
  unfold subT
  split
  · rename_i h; rw [lift2_spec h]; rfl
  · rw [mkAr_spec]; rfl
def all3 (φ : Phi) (x y c : Tm) : Bool := and2 (inR φ x (.ofNat 0) (.ofNat 18446744073709551615)) (and2 (inR φ y (.ofNat 0) (.ofNat 18446744073709551615)) (inR φ c (.ofNat 0) (.ofNat 1)))
def u64s (p q r : IntKind × Tm) : Bool := and2 (kindEq p.1 .u64) (and2 (kindEq q.1 .u64) (kindEq r.1 .u64))
def pairR (a b : Tm) : Ret := .val (.tup [.s (.int .u64 a), .s (.int .u64 b)])
def highT (φ : Phi) (t : Tm) : Option Tm := sDiv φ .u64 t (.lit (.ofNat 18446744073709551616))
def xAdd : CallX := fun args s k => match args with
  | [a, b, c] => optB (asIntA a) fun p => optB (asIntA b) fun q => optB (asIntA c) fun r => ifB (u64s p q r) (match s with
    | .mk h nx φ => ifB (all3 φ p.2 q.2 r.2) (optB (highT φ (plusT (plusT p.2 q.2) r.2)) fun c => k (pairR (sWrap φ .u64 (plusT (plusT p.2 q.2) r.2)) (sq φ c)) ⟨h, nx, φ⟩))
  | _ => false
def xSub : CallX := fun args s k => match args with
  | [a, b, c] => optB (asIntA a) fun p => optB (asIntA b) fun q => optB (asIntA c) fun r => ifB (u64s p q r) (match s with
    | .mk h nx φ => ifB (all3 φ p.2 q.2 r.2) (brc φ (.le (plusT q.2 r.2) p.2) fun e φ => match e with
        | true => k (pairR (sWrap φ .u64 (subT p.2 (plusT q.2 r.2))) (.lit (.ofNat 0))) ⟨h, nx, φ⟩
        | false => k (pairR (sWrap φ .u64 (subT p.2 (plusT q.2 r.2))) (.lit (.ofNat 1))) ⟨h, nx, φ⟩))
  | _ => false

section
variable {P : Program} {T : TyT} {c : Cx} {s : S} {w : World}
theorem three_spec {args : List AV} {s : S} {f : IntKind × Tm → IntKind × Tm → IntKind × Tm → Bool}
    (h : (match args with | [a, b, c] => optB (asIntA a) fun p => optB (asIntA b) fun q => optB (asIntA c) fun r => f p q r | _ => false) = true) :
    ∃ p q r, args = [.w (.s (.int p.1 p.2)), .w (.s (.int q.1 q.2)), .w (.s (.int r.1 r.2))] ∧ f p q r = true := by
  split at h <;> try (simp at h; done)
  obtain ⟨p, hp, h⟩ := optB_true h
  obtain ⟨q, hq, h⟩ := optB_true h
  obtain ⟨r, hr, h⟩ := optB_true h
  exact ⟨p, q, r, by rw [asIntA_spec hp, asIntA_spec hq, asIntA_spec hr], h⟩
theorem u64s_spec {p q r : IntKind × Tm} (h : u64s p q r = true) : p.1 = .u64 ∧ q.1 = .u64 ∧ r.1 = .u64 := by
  obtain ⟨h1, h2⟩ := and2_iff.1 h
  obtain ⟨h2, h3⟩ := and2_iff.1 h2
  exact ⟨kindEq_eq h1, kindEq_eq h2, kindEq_eq h3⟩
theorem wrap_u64 (n : Int) : IntKind.u64.wrap n = n % 18446744073709551616 := by
  have h1 := wrap_range .u64 n
  simp only [kneg, kmax] at h1
  simp [IntKind.wrap, IntKind.bits, IntKind.signed]
theorem xAdd_ok {f : Nat} (hcall : ∀ args w, (callFunc f args).run P w = ((add64Entry args).run P w).andThen fun v w' => .ok (.value v) w') : XOk1 P f xAdd := by
  intro args s k hk c w h hw
  obtain ⟨hh, nx, φ⟩ := s
  obtain ⟨p, q, r, rfl, hk1⟩ := three_spec (s := ⟨hh, nx, φ⟩) hk
  obtain ⟨h1, hk2⟩ := ifB_true hk1
  obtain ⟨e1, e2, e3⟩ := u64s_spec h1
  obtain ⟨h2, hk3⟩ := ifB_true hk2
  obtain ⟨h3, h4⟩ := and2_iff.1 h2
  obtain ⟨h4, h5⟩ := and2_iff.1 h4
  have hs := h.sat
  obtain ⟨a1, a2⟩ := inR_spec hs h3
  obtain ⟨b1, b2⟩ := inR_spec hs h4
  obtain ⟨c1, c2⟩ := inR_spec hs h5
  obtain ⟨hi, h6, hk4⟩ := optB_true hk3
  obtain ⟨_, h7⟩ := sDiv_spec hs h6
  simp only [Int.ofNat_eq_natCast] at a1 a2 b1 b2 c1 c2
  refine .inr ⟨.tuple #[.int .u64 ((p.2.eval c.σ + q.2.eval c.σ + r.2.eval c.σ) % 18446744073709551616), .int .u64 ((p.2.eval c.σ + q.2.eval c.σ + r.2.eval c.σ) / 18446744073709551616)], w, ?_, ?_⟩
  · rw [hcall]
    simp only [e1, e2, e3]
    have : ([AV.w (.s (.int .u64 p.2)), AV.w (.s (.int .u64 q.2)), AV.w (.s (.int .u64 r.2))].map (AV.conc c)).toArray = #[.int .u64 (p.2.eval c.σ), .int .u64 (q.2.eval c.σ), .int .u64 (r.2.eval c.σ)] := rfl
    rw [this, run_add64 _ _ _ (by simpa using a1) (by simpa using b1) (by simpa using c1) (by simpa using c2)]
    rfl
  · refine ⟨c, _, ⟨hh, nx, φ⟩, ?_, ?_, Step.refl _ _ _, h, hk4⟩
    · have x1 : (sWrap φ .u64 (plusT (plusT p.2 q.2) r.2)).eval c.σ = (p.2.eval c.σ + q.2.eval c.σ + r.2.eval c.σ) % 18446744073709551616 := by
        rw [sWrap_spec hs, plusT_spec, plusT_spec, wrap_u64]
      have x2 : (sq φ hi).eval c.σ = (p.2.eval c.σ + q.2.eval c.σ + r.2.eval c.σ) / 18446744073709551616 := by
        rw [sq_spec hs, h7, plusT_spec, plusT_spec]
        have e : (Tm.lit (.ofNat 18446744073709551616)).eval c.σ = 18446744073709551616 := rfl
        have h0 : 0 ≤ p.2.eval c.σ + q.2.eval c.σ + r.2.eval c.σ := by
          have a1' : (0 : Int) ≤ p.2.eval c.σ := by simpa using a1
          have b1' : (0 : Int) ≤ q.2.eval c.σ := by simpa using b1
          have c1' : (0 : Int) ≤ r.2.eval c.σ := by simpa using c1
          omega
        rw [e, Int.tdiv_eq_ediv_of_nonneg h0]
        have a2' : p.2.eval c.σ ≤ 18446744073709551615 := by simpa using a2
        have b2' : q.2.eval c.σ ≤ 18446744073709551615 := by simpa using b2
        have c2' : r.2.eval c.σ ≤ 1 := by simpa using c2
        rw [wrap_u64]
        omega
      simp only [AV.conc, AW.conc, AS.conc, List.map_cons, List.map_nil, x1, x2]
    · intro x hx
      rcases List.mem_cons.1 hx with rfl | hx
      · trivial
      · rcases List.mem_cons.1 hx with rfl | hx
        · trivial
        · cases hx

theorem run_sub64' {P : Program} (x y b : Int) (hx : 0 ≤ x) (hy : 0 ≤ y) (hy2 : y ≤ 18446744073709551615) (hb0 : 0 ≤ b) (hb : b ≤ 1) (w : World) :
    (Go.Proofs.sub64Entry #[.int .u64 x, .int .u64 y, .int .u64 b]).run P w = .ok (.tuple #[.int .u64 ((x - (y + b)) % 18446744073709551616), .int .u64 (if y + b ≤ x then 0 else 1)]) w := by
  obtain ⟨X, rfl⟩ := Int.eq_ofNat_of_zero_le hx
  obtain ⟨Y, rfl⟩ := Int.eq_ofNat_of_zero_le hy
  obtain ⟨B, rfl⟩ := Int.eq_ofNat_of_zero_le hb0
  rw [Go.Proofs.run_sub64 X Y B (by omega)]
  congr 4
  · congr 1; omega
  · congr 1
    split <;> split <;> first | rfl | omega
theorem xSub_ok {f : Nat} (hcall : ∀ args w, (callFunc f args).run P w = ((Go.Proofs.sub64Entry args).run P w).andThen fun v w' => .ok (.value v) w') : XOk1 P f xSub := by
  intro args s k hk c w h hw
  obtain ⟨hh, nx, φ⟩ := s
  obtain ⟨p, q, r, rfl, hk1⟩ := three_spec (s := ⟨hh, nx, φ⟩) hk
  obtain ⟨h1, hk2⟩ := ifB_true hk1
  obtain ⟨e1, e2, e3⟩ := u64s_spec h1
  obtain ⟨h2, hk3⟩ := ifB_true hk2
  obtain ⟨h3, h4⟩ := and2_iff.1 h2
  obtain ⟨h4, h5⟩ := and2_iff.1 h4
  have hs := h.sat
  obtain ⟨a1, a2⟩ := inR_spec hs h3
  obtain ⟨b1, b2⟩ := inR_spec hs h4
  obtain ⟨c1, c2⟩ := inR_spec hs h5
  obtain ⟨φ', hs', hk4⟩ := brc_spec hs hk3
  refine .inr ⟨.tuple #[.int .u64 ((p.2.eval c.σ - (q.2.eval c.σ + r.2.eval c.σ)) % 18446744073709551616), .int .u64 (if q.2.eval c.σ + r.2.eval c.σ ≤ p.2.eval c.σ then 0 else 1)], w, ?_, ?_⟩
  · rw [hcall]
    simp only [e1, e2, e3]
    have : ([AV.w (.s (.int .u64 p.2)), AV.w (.s (.int .u64 q.2)), AV.w (.s (.int .u64 r.2))].map (AV.conc c)).toArray = #[.int .u64 (p.2.eval c.σ), .int .u64 (q.2.eval c.σ), .int .u64 (r.2.eval c.σ)] := rfl
    rw [this, run_sub64' _ _ _ (by simpa using a1) (by simpa using b1) (by simpa using b2) (by simpa using c1) (by simpa using c2)]
    rfl
  · have x1 : (sWrap φ' .u64 (subT p.2 (plusT q.2 r.2))).eval c.σ = (p.2.eval c.σ - (q.2.eval c.σ + r.2.eval c.σ)) % 18446744073709551616 := by
      rw [sWrap_spec hs', subT_spec, plusT_spec, wrap_u64]
    have x2 : (Cond.le (plusT q.2 r.2) p.2).eval c.σ = decide (q.2.eval c.σ + r.2.eval c.σ ≤ p.2.eval c.σ) := by
      simp only [Cond.eval, plusT_spec]
    rw [x2] at hk4
    have wf : ∀ a b : Tm, (AV.tup [.s (.int .u64 a), .s (.int .u64 b)]).wf c nx := by
      intro a b x hx
      rcases List.mem_cons.1 hx with rfl | hx
      · trivial
      · rcases List.mem_cons.1 hx with rfl | hx
        · trivial
        · cases hx
    by_cases hle : q.2.eval c.σ + r.2.eval c.σ ≤ p.2.eval c.σ
    · rw [decide_eq_true hle] at hk4
      rw [if_pos hle]
      exact ⟨c, .tup [.s (.int .u64 (sWrap φ' .u64 (subT p.2 (plusT q.2 r.2)))), .s (.int .u64 (.lit (.ofNat 0)))], ⟨hh, nx, φ'⟩, by simp only [AV.conc, AW.conc, AS.conc, List.map_cons, List.map_nil, x1]; rfl, wf _ _, Step.facts c ⟨hh, nx, φ⟩ w φ', h.facts hs', hk4⟩
    · rw [decide_eq_false hle] at hk4
      rw [if_neg hle]
      exact ⟨c, .tup [.s (.int .u64 (sWrap φ' .u64 (subT p.2 (plusT q.2 r.2)))), .s (.int .u64 (.lit (.ofNat 1)))], ⟨hh, nx, φ'⟩, by simp only [AV.conc, AW.conc, AS.conc, List.map_cons, List.map_nil, x1]; rfl, wf _ _, Step.facts c ⟨hh, nx, φ⟩ w φ', h.facts hs', hk4⟩
end
end
end Go.Sy

/-! The symbolic executor, part Y: a function that defers a closure that recovers. -/
namespace Go.Sy
set_option linter.unusedVariables false
set_option linter.unusedSectionVars false
noncomputable section

structure ADef where
  n : Nat
  res : List ResA
  pre : AC
  d0 : Nat
  f : Nat
  caps : List AX
  body : AC
  cn : Nat
  rd : Nat
  crest : List AOper
  cbody : AC

/-- the closure, with what it recovers -/
def closK (call : CallF) (x : ADef) (ps : List (Nat × Nat)) (rv : AV) (s : S) (k : S → Bool) : Bool := match x with
  | .mk _ _ _ _ _ _ _ cn rd crest cbody => ifB (Nat.ble (llen ps) cn) (argsK (lmap capV ps) 0 .leaf fun t => putK (some rd) rv t fun t => regE call (fun ex t s => match ex with
    | .normal => exec call cbody t s (fun ex t s => match ex with
      | .normal => k s
      | .ret => k s
      | .exit _ => false
      | .panic _ => false)
    | .exit _ => false
    | .ret => false
    | .panic _ => false) crest t s)
def leaveK (call : CallF) (x : ADef) (ps : List (Nat × Nat)) (res : List ResA) (k : KC) : KX := fun ex t s => match ex with
  | .normal => closK call x ps (.w (.s .niliface)) s fun s => resK res t s k
  | .ret => closK call x ps (.w (.s .niliface)) s fun s => resK res t s k
  | .exit _ => false
  | .panic v => closK call x ps v s fun s => resK res t s k
def runD (call : CallF) (x : ADef) (args : List AV) (s : S) (k : KC) : Bool := match x with
  | .mk n res pre d0 f caps body cn rd crest cbody => ifB (Nat.ble (llen args) n) (argsK args 0 .leaf fun t => exec call pre t s fun ex t s => match ex with
    | .normal => optB (evL t caps) fun l => optB (capsA l) fun ps => putK (some d0) (.w (.s (.fn f ps))) t fun t => exec call body t s (leaveK call (.mk n res pre d0 f caps body cn rd crest cbody) ps res k)
    | .exit _ => false
    | .ret => false
    | .panic _ => false)

structure DefOk (P : Program) (T : TyT) (f0 : Nat) (x : ADef) (func cf : Func) (A B C : Code) (id cid : Nat) (o1 o2 r : Oper) (c2 cr : Call) (cops : Array Oper) (rest : List Oper) (hint chint : Nat → List (Nat × Nat)) : Prop where
  at_ : P.funcs[f0]? = some func
  call : ∀ args w, (callFunc f0 args).run P w = .ok (.enter f0 args) w
  body : func.body = some (.seq A (.seq (.region id #[o1, o2] false) B))
  ntmps : func.ntmps = x.n
  compA : compC T x.n hint A = some x.pre
  compB : compC T x.n hint B = some x.body
  mk1 : compP T o1.op = some (.mkfunc x.f x.caps)
  dst1 : o1.dst = some x.d0
  lt1 : Nat.ble (Nat.succ x.d0) x.n = true
  g1 : o1.guard = none
  op2 : o2.op = .defer c2
  cal2 : c2.callee = .value (.tmp x.d0)
  arg2 : c2.args = #[]
  dst2 : o2.dst = none
  g2 : o2.guard = none
  res : compRes T func.results.toList = some x.res
  cat : P.funcs[x.f]? = some cf
  ccall : ∀ args w, (callFunc x.f args).run P w = .ok (.enter x.f args) w
  cbody : cf.body = some (.seq (.region cid cops false) C)
  cntmps : cf.ntmps = x.cn
  copl : cops.toList = r :: rest
  opr : r.op = .call cr
  calr : cr.callee = .builtin .recover
  argr : cr.args = #[]
  dstr : r.dst = some x.rd
  ltr : Nat.ble (Nat.succ x.rd) x.cn = true
  gr : r.guard = none
  compR : compOps T cops x.cn rest = some x.crest
  compC' : compC T x.cn chint C = some x.cbody
  cres : cf.results = #[]

section
variable {P : Program} {T : TyT} {call : CallF} {c : Cx} {t : Tmps} {a : Act} {s : S} {w : World}

theorem wpS_mono {code : Code} {Q Q' : Exit → Act → List Frame → World → Prop} {cs : List Frame} (h : code.wpS P Q a cs w) (hq : ∀ e a cs w, Q e a cs w → Q' e a cs w) : code.wpS P Q' a cs w :=
  fun b k hb hr => let ⟨e, a', cs', w', q, r⟩ := h b k hb hr; ⟨e, a', cs', w', hq _ _ _ _ q, r⟩

theorem regS_sound (hT : TOk P T) (hcall : CallOk P call) {ops : Array Oper} {n : Nat} (hdst : ∀ (j d : Nat), (ops[j]?).bind (·.dst) = some d → d < n) {d : List Deferred} {c0 : Cx} {s0 : S} {w0 : World} {k : KX} {cs : List Frame} {Q : Exit → Act → List Frame → World → Prop} (hQ : ∀ e a' w', Post n d c0 s0 w0 k e a' w' → Q e a' cs w') :
    ∀ (l : List Oper) (j : Nat) (al : List AOper), (∀ i, l[i]? = ops[j + i]?) → compOps T ops n l = some al → ∀ {c : Cx} {s : S} {w : World} {t : Tmps} {a : Act}, Step c0 c s0 s w0 w → Rel c s w → TRel c s.nx t a.tmps → a.tmps.size = n → a.defers = d →
      regE call k al t s = true → wpOpsS P ops Q (List.range' j l.length) a cs w := by
  intro l
  induction l with
  | nil =>
    intro j al hl hc c s w t a hst h hr hn hd hk
    simp only [compOps] at hc; injection hc with hc; subst hc
    rw [regE_nil] at hk
    exact hQ .normal a w ⟨c, t, s, hd, hn, hst, h, hr, hk⟩
  | cons o l ih =>
    intro j al hl hc c s w t a hst h hr hn hd hk
    simp only [compOps] at hc
    split at hc <;> try (simp at hc; done)
    rename_i ao hao
    split at hc <;> try (simp at hc; done)
    rename_i r hr'
    injection hc with hc; subst hc
    rw [regE_cons] at hk
    have ho : ops[j]? = some o := by have := hl 0; simpa using this.symm
    have hl' : ∀ i, l[i]? = ops[j + 1 + i]? := fun i => by have := hl (i + 1); simp at this; rw [this]; congr 1; omega
    obtain ⟨h1, h2, h3, h4⟩ := compOper_some hao
    obtain ⟨dst, op, g⟩ := ao
    have h2 : dst = o.dst := h2
    subst h2
    obtain ⟨b, hb, hk1⟩ := guard_spec hao hr (fun j want d hg hj => by rw [hn]; exact hdst j d hj) hk
    simp only [List.length_cons, List.range'_succ]
    simp only [wpOpsS, ho]
    cases b with
    | false =>
      simp only [hb, Bool.false_eq_true, if_false]
      have hk1 : putK o.dst .undef t (fun t => regE call k r t s) = true := hk1
      rw [putK_eq] at hk1
      obtain ⟨q1, q2, q3⟩ := putA_rel (c := c) (s := s) (v := .undef) h3 hn hr trivial
      exact ih (j + 1) r hl' hr' hst h q1 q2 (q3.trans hd) hk1
    | true =>
      simp only [hb, if_true]
      have hk1 : stepOp call op t s (fun v s => putK o.dst v t fun t => regE call k r t s) (fun v s => k (.panic v) t s) = true := hk1
      have hup := step_sound hT hcall h1 hr h hk1 (next := fun a' w' => wpOpsS P ops Q (List.range' (j + 1) l.length) a' cs w')
        (Q := fun e a' w' => Q e a' cs w') ⟨?_, ?_⟩
      · split
        · rename_i w' he
          rw [he] at hup; exact hup.elim
        · exact hup
      · intro c' v s' w' hw hs' h' hk2
        rw [putK_eq] at hk2
        obtain ⟨q1, q2, q3⟩ := putA_rel (c := c') (s := s') (v := v) h3 hn (hr.ext hs'.ext hs'.nx) hw
        exact ih (j + 1) r hl' hr' (hst.trans hs') h' q1 q2 (q3.trans hd) hk2
      · intro c' v s' w' hw hs' h' hk2
        exact hQ (.panic _) a w' ⟨c', v, t, s', rfl, hw, hd, hn, hst.trans hs', h', hr.ext hs'.ext hs'.nx, hk2⟩

/-- what the closure finds: no panic; or one -/
def Finds (c : Cx) (u : FrameMode) (rv : AV) : Prop := (u = .returning ∧ rv = .w (.s .niliface)) ∨ u = .panicking [{ v := rv.conc c, recovered := false }]

theorem clos_sound (hT : TOk P T) (hcall : CallOk P call) (hm : P.follows .mixedOrders = true) {f0 : Nat} {x : ADef} {func cf : Func} {A B C : Code} {id cid : Nat} {o1 o2 r : Oper} {c2 cr : Call} {cops : Array Oper} {rest : List Oper} {hint chint : Nat → List (Nat × Nat)}
    (hx : DefOk P T f0 x func cf A B C id cid o1 o2 r c2 cr cops rest hint chint) {u : FrameMode} {rv : AV} (hu : Finds c u rv) (hrv : rv.wf c s.nx) {ps : List (Nat × Nat)} (hps : ∀ p ∈ ps, p.1 < s.nx) (h : Rel c s w) {k : S → Bool} (hk : closK call x ps rv s k = true) :
    CallsD P x.f (ps.map (capPtr c)).toArray u w (fun e u' w' => match e with
      | .returned _ => settle u' = .returning ∧ ∃ c' s', Step c c' s s' w w' ∧ Rel c' s' w' ∧ k s' = true
      | .panicked _ => False
      | .outgrown => False) := by
  obtain ⟨n, res, pre, d0, f, caps, body, cn, rd, crest, cbody⟩ := x
  obtain ⟨hlen, hk1⟩ := ifB_true (show ifB (Nat.ble (llen ps) cn) _ = true from hk)
  have hlen := (natBle_iff _ _).1 hlen
  rw [llen_eq] at hlen
  have hcn : cf.ntmps = cn := hx.cntmps
  refine callsD_of_wpS hx.cat hx.cbody fun c₀ cs hmode => ?_
  rw [hcn]
  obtain ⟨e3, e4⟩ := caps_spec (c := c) (nx := s.nx) (caps := ps) hps
  obtain ⟨t, ht, hk2⟩ := args_rel (c := c) (s := s) (lmap capV ps) 0 .leaf ((ps.map (capPtr c)).toArray ++ Array.replicate (cn - (ps.map (capPtr c)).toArray.size) undef) (by intro m v hv; cases hv) e4
    (by
      intro j v hv
      rw [Nat.zero_add]
      have hj : j < (lmap capV ps).length := (List.getElem?_eq_some_iff.1 hv).1
      have hj' : j < (ps.map (capPtr c)).length := by rw [← e3]; simpa using hj
      rw [Array.getElem?_append_left (by simpa using hj')]
      rw [← e3]
      simp [hv]) hk1
  rw [putK_eq] at hk2
  have hsz : ((ps.map (capPtr c)).toArray ++ Array.replicate (cn - (ps.map (capPtr c)).toArray.size) undef).size = cn := by simp; omega
  generalize hvs : (ps.map (capPtr c)).toArray ++ Array.replicate (cn - (ps.map (capPtr c)).toArray.size) undef = vs at *
  have hcsz : cops.size = (r :: rest).length := by rw [← hx.copl]; simp
  have hr0 : cops[0]? = some r := by
    have := congrArg (·[0]?) hx.copl
    simpa using this
  have hrl : ∀ i, rest[i]? = cops[1 + i]? := by
    intro i
    have := congrArg (·[i + 1]?) hx.copl
    simp at this
    rw [← this]; congr 1; omega
  have hdst : ∀ (j e : Nat), (cops[j]?).bind (·.dst) = some e → e < cn := by
    intro j e he
    cases j with
    | zero =>
      rw [hr0] at he
      have he : r.dst = some e := he
      rw [hx.dstr] at he; injection he with he; subst he
      exact (natBle_iff _ _).1 hx.ltr
    | succ j =>
      rw [show j + 1 = 1 + j by omega, ← hrl j] at he
      cases hj : rest[j]? with
      | none => rw [hj] at he; cases he
      | some o =>
        rw [hj] at he
        exact compOps_dst hx.compR o (List.mem_of_getElem? hj) e he
  have hex : ∀ (a : Act) (w : World), (execOp a.eval r).run P w = .ok .recover w := by
    intro a w
    obtain ⟨dst, op, ty, pos, af, g⟩ := r
    have hop : op = _ := hx.opr
    subst hop
    simp [execOp, resolve, hx.calr, hx.argr, invoke, builtin]
  -- the frames behind the recovery
  have key : ∃ cs', (match recoverD (c₀ :: cs) with | some (v, cs2) => (v, cs2) | none => (Value.nilIface, c₀ :: cs)) = (rv.conc c, cs') ∧ ∃ u', cs' = { c₀ with mode := u' } :: cs ∧ settle u' = .returning := by
    rcases hu with ⟨rfl, rfl⟩ | rfl
    · refine ⟨c₀ :: cs, ?_, .returning, ?_, rfl⟩
      · simp [recoverD, hmode, AV.conc, AW.conc, AS.conc]
      · rw [← hmode]
    · exact ⟨{ c₀ with mode := .panicking [{ v := rv.conc c, recovered := true }] } :: cs, by simp [recoverD, hmode], _, rfl, by simp [settle]⟩
  obtain ⟨cs', hrec, u', hcs', hset⟩ := key
  have hrel0 : TRel c s.nx (putA (some rd) rv t) (({ tmps := vs, defers := [] } : Act).put (some rd) (rv.conc c)).tmps ∧ (({ tmps := vs, defers := [] } : Act).put (some rd) (rv.conc c)).tmps.size = cn ∧ (({ tmps := vs, defers := [] } : Act).put (some rd) (rv.conc c)).defers = [] :=
    putA_rel (dst := some rd) (a := { tmps := vs, defers := [] }) hx.ltr hsz ht hrv
  refine wpS_seq (wpS_region ?_)
  rw [List.range_eq_range', hcsz]
  simp only [List.length_cons, List.range'_succ]
  simp only [wpOpsS, hr0]
  have hwant : Region.wanted r (yielded cops vs) = true := by simp [Region.wanted, hx.gr]
  simp only [hwant, if_true, hex, hx.dstr]
  have hres : ∀ (tm : Array Value) (w : World), (results cf tm).run P w = .ok (.tuple #[]) w := by
    intro tm w
    simp [results, hx.cres]
  have fin := regS_sound (cs := cs') hT hcall hdst (Q := Exit.thenS (C.wpS P (bodyPostS P cf c₀ cs (fun e u' w' => match e with
      | .returned _ => settle u' = .returning ∧ ∃ c' s', Step c c' s s' w w' ∧ Rel c' s' w' ∧ k s' = true
      | .panicked _ => False
      | .outgrown => False))) (bodyPostS P cf c₀ cs (fun e u' w' => match e with
      | .returned _ => settle u' = .returning ∧ ∃ c' s', Step c c' s s' w w' ∧ Rel c' s' w' ∧ k s' = true
      | .panicked _ => False
      | .outgrown => False))) ?_ rest 1 crest hrl hx.compR (Step.refl c s w) h hrel0.1 hrel0.2.1 hrel0.2.2 hk2
  · cases hR : recoverD (c₀ :: cs) with
    | none =>
      rw [hR] at hrec
      injection hrec with e1 e2
      simp only []
      rw [e1, e2]; exact fin
    | some p =>
      obtain ⟨v, cs2⟩ := p
      rw [hR] at hrec
      injection hrec with e1 e2
      simp only []
      rw [e1, e2]; exact fin
  · intro e a' w' hq
    cases e with
    | normal =>
      obtain ⟨c1, t1, s1, h1, h2, h3, h4, h5, h6⟩ := hq
      refine wpS_of_wp (wp_mono (exec_sound hT hcall hm C hx.compC' h4 h5 h2 h1 h6) ?_)
      intro e a2 w2 hq
      cases e with
      | normal =>
        obtain ⟨c2, t2, s2, g1, g2, g3, g4, g5, g6⟩ := hq
        exact ⟨g1, u', hcs', _, hres _ _, hset, c2, s2, h3.trans g3, g4, g6⟩
      | ret =>
        obtain ⟨c2, t2, s2, g1, g2, g3, g4, g5, g6⟩ := hq
        exact ⟨g1, u', hcs', _, hres _ _, hset, c2, s2, h3.trans g3, g4, g6⟩
      | exit i => obtain ⟨c2, t2, s2, g1, g2, g3, g4, g5, g6⟩ := hq; cases g6
      | goto l => exact hq.elim
      | panic ch => obtain ⟨c2, v2, t2, s2, g1, g2, g3, g4, g5, g6, g7, g8⟩ := hq; cases g8
      | outgrown => exact hq.elim
    | ret => obtain ⟨c2, t2, s2, g1, g2, g3, g4, g5, g6⟩ := hq; cases g6
    | exit i => obtain ⟨c2, t2, s2, g1, g2, g3, g4, g5, g6⟩ := hq; cases g6
    | goto l => exact hq.elim
    | panic ch => obtain ⟨c2, v2, t2, s2, g1, g2, g3, g4, g5, g6, g7, g8⟩ := hq; cases g8
    | outgrown => exact hq.elim

theorem runD_sound (hT : TOk P T) (hcall : CallOk P call) (hm : P.follows .mixedOrders = true) {f0 : Nat} {x : ADef} {func cf : Func} {A B C : Code} {id cid : Nat} {o1 o2 r : Oper} {c2 cr : Call} {cops : Array Oper} {rest : List Oper} {hint chint : Nat → List (Nat × Nat)}
    (hx : DefOk P T f0 x func cf A B C id cid o1 o2 r c2 cr cops rest hint chint) {args : List AV} {k : KC} (hk : runD call x args s k = true) (h : Rel c s w) (hw : ∀ v ∈ args, v.wf c s.nx) :
    Calls P f0 (args.map (AV.conc c)).toArray w (CPost c s w k) := by
  obtain ⟨n, res, pre, d0, f, caps, body, cn, rd, crest, cbody⟩ := x
  obtain ⟨hlen, hk1⟩ := ifB_true (show ifB (Nat.ble (llen args) n) _ = true from hk)
  have hlen := (natBle_iff _ _).1 hlen
  rw [llen_eq] at hlen
  have hn : func.ntmps = n := hx.ntmps
  refine calls_of_wp_defers hx.at_ hx.body ?_
  rw [hn]
  obtain ⟨t, ht, hk2⟩ := args_rel (c := c) (s := s) args 0 .leaf ((args.map (AV.conc c)).toArray ++ Array.replicate (n - (args.map (AV.conc c)).toArray.size) undef) (by intro m v hv; cases hv) hw
    (by
      intro j v hv
      rw [Nat.zero_add]
      have hj : j < args.length := (List.getElem?_eq_some_iff.1 hv).1
      rw [Array.getElem?_append_left (by simpa using hj)]
      simp [hv]) hk1
  refine wp_seq (wp_mono (exec_sound hT hcall hm A hx.compA h ht (by simp; omega) rfl hk2) ?_)
  intro e a1 w1 hq
  cases e with
  | normal =>
    obtain ⟨c1, t1, s1, h1, h2, h3, h4, h5, h6⟩ := hq
    obtain ⟨l, hl, h7⟩ := optB_true h6
    obtain ⟨ps, hps, h8⟩ := optB_true h7
    rw [putK_eq] at h8
    have hmk : pureOp s1.φ t1 (.mkfunc f caps) = some (.w (.s (.fn f ps))) := by
      simp only [pureOp, opMkfn, hl, optP, hps]
    obtain ⟨e1, e2⟩ := pure_sound (o := o1) hT hx.mk1 h5 h4.sat hmk
    obtain ⟨q1, q2, q3⟩ := putA_rel (c := c1) (s := s1) (v := .w (.s (.fn f ps))) (dst := some d0) hx.lt1 h2 h5 e2
    generalize ha2 : a1.put (some d0) ((AV.w (.s (.fn f ps))).conc c1) = a2 at *
    have hv2 : a2.eval (.tmp d0) = .func (.func f) #[] (ps.map (capPtr c1)).toArray := by
      have hd : d0 < a1.tmps.size := by rw [h2]; exact (natBle_iff _ _).1 hx.lt1
      rw [← ha2]
      exact put_eq hd
    have hex2 : (execOp a2.eval o2).run P w1 = .ok (.defer { target := .fn (.func f) (ps.map (capPtr c1)).toArray, args := #[] }) w1 := by
      have hop := hx.op2
      obtain ⟨dst, op, ty, pos, af, g⟩ := o2
      have hop : op = _ := hop
      subst hop
      have hcal := hx.cal2
      have hcal : c2.callee = .value (.tmp d0) := hcal
      simp [execOp, resolve, hcal, hx.arg2, hv2, Deferred.ofValue]
    let a3 : Act := { a2 with defers := { target := .fn (.func f) (ps.map (capPtr c1)).toArray, args := #[] } :: a2.defers }
    have hd3 : a3.defers = [{ target := .fn (.func f) (ps.map (capPtr c1)).toArray, args := #[] }] := by
      show _ :: a2.defers = _
      rw [q3, h1]
    refine wp_seq (wp_region ?_)
    have hran : List.range (#[o1, o2] : Array Oper).size = [0, 1] := rfl
    have hr0 : (#[o1, o2] : Array Oper)[0]? = some o1 := rfl
    have hr1 : (#[o1, o2] : Array Oper)[1]? = some o2 := rfl
    rw [hran]
    simp only [wpOps, hr0, hr1]
    have w1' : ∀ tm, Region.wanted o1 (yielded #[o1, o2] tm) = true := fun tm => by simp [Region.wanted, hx.g1]
    have w2' : ∀ tm, Region.wanted o2 (yielded #[o1, o2] tm) = true := fun tm => by simp [Region.wanted, hx.g2]
    simp only [w1', w2', if_true]
    refine .inl ?_
    unfold Oper.wp
    rw [show Sem.run P (execOp a1.eval o1) w1 = _ from e1 w1, Oper.upon_value, hx.dst1]
    have ha2' : a1.put (some d0) ((AV.w (.s (.fn f ps))).conc c1) = a2 := ha2
    rw [ha2']
    refine .inl ?_
    rw [hex2, Oper.upon_defer, hx.dst2]
    show B.wp P _ a3 w1
    refine wp_mono (exec_sound hT hcall hm B hx.compB h4 (a := a3) q1 q2 hd3 h8) ?_
    -- the ways out of the body
    have leave : ∀ {u : FrameMode} {rv : AV} {a' : Act} {w' : World} {c' : Cx} {t' : Tmps} {s' : S}, Finds c' u rv → rv.wf c' s'.nx → a'.defers = [{ target := .fn (.func f) (ps.map (capPtr c1)).toArray, args := #[] }] → u ≠ .run → Step c1 c' s1 s' w1 w' → Rel c' s' w' → TRel c' s'.nx t' a'.tmps →
        closK call ⟨n, res, pre, d0, f, caps, body, cn, rd, crest, cbody⟩ ps rv s' (fun s => resK res t' s k) = true → Leaves P func a'.tmps (CPost c s w k) a'.defers u w' := by
      intro u rv a' w' c' t' s' hu hrv hdf hne hst hrel htr hk'
      rw [hdf]
      have hcap : ps.map (capPtr c') = ps.map (capPtr c1) := List.map_congr_left fun p hp => by
        have : p.1 < s1.nx := e2 p hp
        simp [capPtr, hst.ext.ι p.1 this]
      refine leaves_cons hne (f := f) (args := (ps.map (capPtr c1)).toArray) ?_ ?_
      · simp only [invoke]
        rw [show (#[] : Array Value) ++ (ps.map (capPtr c1)).toArray = (ps.map (capPtr c1)).toArray by simp]
        exact hx.ccall _ _
      · have hcl := clos_sound hT hcall hm hx hu hrv (ps := ps) (fun p hp => Nat.lt_of_lt_of_le (e2 p hp) hst.nx) hrel hk'
        rw [hcap] at hcl
        refine CallsD.mono hcl ?_
        intro e u' w'' he
        cases e with
        | panicked ch => exact he.elim
        | outgrown => exact he.elim
        | returned v0 =>
          obtain ⟨hset, c3, s3, g1, g2, g3⟩ := he
          simp only [hset]
          obtain ⟨l, hl, g4⟩ := optB_true g3
          obtain ⟨v, hv, g5⟩ := optB_true g4
          obtain ⟨r1, r2⟩ := res_sound hT g2 (htr.ext g1.ext g1.nx) hx.res hl
          obtain ⟨r3, r4⟩ := mkRes_spec (c := c3) (s := s3) hv r2
          exact ⟨_, run_results func r1, c3, v, s3, r3, r4, (h3.trans hst).trans g1, g2, g5⟩
    intro e a' w' hq
    cases e with
    | normal =>
      obtain ⟨c', t', s', g1, g2, g3, g4, g5, g6⟩ := hq
      exact leave (rv := .w (.s .niliface)) (.inl ⟨rfl, rfl⟩) trivial g1 (by simp) g3 g4 g5 g6
    | ret =>
      obtain ⟨c', t', s', g1, g2, g3, g4, g5, g6⟩ := hq
      exact leave (rv := .w (.s .niliface)) (.inl ⟨rfl, rfl⟩) trivial g1 (by simp) g3 g4 g5 g6
    | exit i => obtain ⟨c', t', s', g1, g2, g3, g4, g5, g6⟩ := hq; cases g6
    | goto l => exact hq.elim
    | panic ch =>
      obtain ⟨c', v, t', s', g0, g1, g2, g3, g4, g5, g6, g7⟩ := hq
      subst g0
      exact leave (rv := v) (.inr rfl) g1 g2 (by simp) g4 g5 g6 g7
    | outgrown => exact hq.elim
  | ret => obtain ⟨c', t', s', g1, g2, g3, g4, g5, g6⟩ := hq; cases g6
  | exit i => obtain ⟨c', t', s', g1, g2, g3, g4, g5, g6⟩ := hq; cases g6
  | goto l => exact hq.elim
  | panic ch => obtain ⟨c2, v2, t2, s2, g1, g2, g3, g4, g5, g6, g7, g8⟩ := hq; cases g8
  | outgrown => exact hq.elim
end
end
end Go.Sy

/-! The symbolic executor, part Z: functions whose answers get a name. -/
namespace Go.Sy
set_option linter.unusedVariables false
set_option linter.unusedSectionVars false
noncomputable section

def xVia (fn : AFunc) (conv : AV → Phi → Option (AV × Phi)) : CallY := fun call args s k => runF call fn args s fun r s => match r with
  | .val v => (match s with | .mk h nx φ => optB (conv v φ) fun p => k (.val p.1) ⟨h, nx, p.2⟩)
  | .panic v => k (.panic v) s
def ConvOk (conv : AV → Phi → Option (AV × Phi)) : Prop := ∀ v φ p, conv v φ = some p → ∀ c : Cx, Sat c.σ φ → p.1.conc c = v.conc c ∧ (∀ nx, v.wf c nx → p.1.wf c nx) ∧ Sat c.σ p.2

theorem xVia_ok {P : Program} {T : TyT} (hT : TOk P T) (hm : P.follows .mixedOrders = true) {f : Nat} {fn : AFunc} {func : Func} {code : Code} {hint : Nat → List (Nat × Nat)} (hf : FnOk P T f fn func code hint) {conv : AV → Phi → Option (AV × Phi)} (hc : ConvOk conv)
    (call : CallF) (hcall : CallOk P call) : XOk1 P f (xVia fn conv call) := by
  intro args s k hk c w h hw
  refine .inl ⟨hf.call _ w, Calls.mono (runF_sound hT hcall hm hf hk h hw) fun e w' he => ?_⟩
  cases e with
  | returned u =>
    obtain ⟨c', v, s', e1, e2, e3, e4, e5⟩ := he
    obtain ⟨hh, nx, φ⟩ := s'
    obtain ⟨p, hp, e6⟩ := optB_true (show optB (conv v φ) _ = true from e5)
    obtain ⟨g1, g2, g3⟩ := hc v φ p hp c' e4.sat
    exact ⟨c', p.1, ⟨hh, nx, p.2⟩, by rw [e1, g1], g2 nx e2, ⟨e3.ext, e3.nx, e3.os, e3.tape, e3.output, e3.size, e3.frame, e3.anew⟩, e4.facts g3, e6⟩
  | panicked ch =>
    obtain ⟨c', v, s', e1, e2, e3, e4, e5⟩ := he
    exact ⟨c', v, s', e1, e2, e3, e4, e5⟩
  | outgrown => exact he.elim

/-- a number cut to the size m: is it the input number i? -/
def cutOf (t : Tm) : Option (Nat × Nat) := match t with
  | .mod (.add (.mod (.var i) (.lit (.ofNat a))) (.lit (.ofNat b))) (.lit (.ofNat c)) => (match Nat.beq a b, Nat.beq b c with | true, true => some (i, a) | _, _ => none)
  | _ => none
theorem cutOf_spec {t : Tm} {i m : Nat} (h : cutOf t = some (i, m)) (σ : Env) : t.eval σ = (((σ.v i).tmod m) + m).tmod m := by
  unfold cutOf at h
  split at h <;> try (simp at h; done)
  rename_i j a b c
  split at h <;> try (simp at h; done)
  rename_i h1 h2
  have h1 := (natBeq_iff _ _).1 h1
  have h2 := (natBeq_iff _ _).1 h2
  subst h1; subst h2
  injection h with h; injection h with h3 h4
  subst h3; subst h4
  rfl
def convN (v : AV) (φ : Phi) : Option (AV × Phi) := match v with
  | .w (.s (.int .i64 t)) => optP (cutOf t) none fun p => ckB (and2 (Nat.beq p.1 1) (Nat.ble 1 p.2)) none (forceN (Nat.add 1000 p.2) fun i => some (vInt .i64 (.var i), setRng φ i (.ofNat 0) (.ofNat (Nat.sub p.2 1))))
  | _ => none
theorem cut_range (x : Int) (m : Nat) (hm : 1 ≤ m) : 0 ≤ (x.tmod m + m).tmod m ∧ (x.tmod m + m).tmod m ≤ (m : Int) - 1 := by
  have hpos : (0 : Int) < m := by omega
  have h1 : -(m : Int) < x.tmod m := by
    have h3 := Int.natAbs_tmod x m
    have h4 : x.natAbs % (m : Int).natAbs < (m : Int).natAbs := Nat.mod_lt _ (by omega)
    omega
  have h2 : 0 ≤ x.tmod m + m := by omega
  exact ⟨Int.tmod_nonneg _ h2, by have := Int.tmod_lt_of_pos (x.tmod m + m) hpos; omega⟩
theorem convN_ok : ConvOk convN := by
  intro v φ p h c hs
  unfold convN at h
  split at h <;> try (simp at h; done)
  rename_i t
  obtain ⟨⟨i, m⟩, h1, g1⟩ := optP_some h
  obtain ⟨g2, g3⟩ := ckB_some g1
  rw [forceN_eq] at g3
  injection g3 with g3; subst g3
  obtain ⟨g4, g5⟩ := and2_iff.1 g2
  have k4 : i = 1 := (natBeq_iff _ _).1 g4
  have k5 : 1 ≤ m := (natBle_iff _ _).1 g5
  subst k4
  have e := cutOf_spec h1 c.σ
  have en := c.σ.n_eq m
  have hr := cut_range (c.σ.v 1) m k5
  refine ⟨?_, fun _ _ => trivial, setRng_sat hs ?_⟩
  · show Value.int .i64 (c.σ.v (1000 + m)) = Value.int .i64 (t.eval c.σ)
    rw [en, e]
  · show (0 : Int) ≤ c.σ.v (1000 + m) ∧ c.σ.v (1000 + m) ≤ ((m - 1 : Nat) : Int)
    rw [en]; omega

/-- the one fork that is left -/
def oneOf : List Bool → Nat → Option Nat
  | [], _ => none
  | true :: l, i => (match lall bnot l with | true => some i | false => none)
  | false :: l, i => oneOf l (i + 1)
theorem oneOf_spec : ∀ {l : List Bool} {j i : Nat}, oneOf l j = some i → ∀ f, l[f]? = some true → j + f = i := by
  intro l
  induction l with
  | nil => intro j i h; cases h
  | cons b l ih =>
    intro j i h f hf
    cases b with
    | true =>
      simp only [oneOf] at h
      split at h <;> try (simp at h; done)
      rename_i hl
      injection h with h; subst h
      cases f with
      | zero => rfl
      | succ f =>
        have := (lall_iff _ _).1 hl true (List.mem_of_getElem? (by simpa using hf))
        cases this
    | false =>
      simp only [oneOf] at h
      cases f with
      | zero => simp at hf
      | succ f => have := ih h f (by simpa using hf); omega
def convFork (v : AV) (φ : Phi) : Option (AV × Phi) := match v with
  | .w (.s (.int .i64 t)) => optP (cutOf t) none fun p => ckB (and2 (Nat.beq p.1 0) (Nat.beq p.2 16)) none (match φ with
    | .mk m r a => optP (oneOf m 0) none fun i => some (vInt .i64 (.lit (.ofNat i)), ⟨m, r, a⟩))
  | _ => none
theorem convFork_ok : ConvOk convFork := by
  intro v φ p h c hs
  unfold convFork at h
  split at h <;> try (simp at h; done)
  rename_i t
  obtain ⟨⟨i, m⟩, h1, g1⟩ := optP_some h
  obtain ⟨g2, g3⟩ := ckB_some g1
  obtain ⟨mk, r, a⟩ := φ
  obtain ⟨j, hj, g6⟩ := optP_some (show optP (oneOf mk 0) none _ = some p from g3)
  injection g6 with g6; subst g6
  obtain ⟨g4, g5⟩ := and2_iff.1 g2
  have k4 : i = 0 := (natBeq_iff _ _).1 g4
  have k5 : m = 16 := (natBeq_iff _ _).1 g5
  subst k4; subst k5
  have e := cutOf_spec h1 c.σ
  have ef := c.σ.f_eq
  have hone := oneOf_spec hj c.σ.f hs.mask
  refine ⟨?_, fun _ _ => trivial, hs⟩
  show Value.int .i64 (j : Int) = Value.int .i64 (t.eval c.σ)
  rw [e]
  have : (j : Int) = (c.σ.f : Int) := by omega
  rw [this, ef]; rfl
end
end Go.Sy

/-! The symbolic executor, part Za: tables of types, functions and summaries. -/
namespace Go.Sy
set_option linter.unusedVariables false
set_option linter.unusedSectionVars false
noncomputable section

theorem AS.wf_of_none {c : Cx} {nx : Nat} {x : AS} (h : InS (fun _ => False) x) : x.wf c nx := by
  cases x with
  | ptr a b => exact h.elim
  | slice a b n cp => exact h.elim
  | map a => exact h.elim
  | fn f caps => exact fun p hp => (h p hp).elim
  | _ => trivial
theorem AW.wf_of_none {c : Cx} {nx : Nat} {x : AW} (h : InW (fun _ => False) x) : x.wf c nx := by
  cases x with
  | s x => exact AS.wf_of_none h
  | agg l => exact fun x hx => AS.wf_of_none (h x hx)
theorem tyOk_mk {P : Program} {t : TypeId} {i : TyA} {inf : TypeInfo} {z : Value} (h1 : P.underlying t = some i.desc) (h2 : P.info? t = some inf) (h3 : inf.size = i.size) (h4 : inf.bytes = i.bytes) (h5 : inf.zero = some z) (h6 : ∀ c, i.zero.conc c = z)
    (h7 : inW (fun _ => false) i.zero = true) (h8 : (cellsW i.zero).length = i.size) (h9 : (match i.plain with | true => !(P.stoodInHeld t) && !(P.eqGuardType P.depth t) | false => true) = true) : TyOk P t i := by
  refine ⟨h1, ⟨inf, h2, h3, h4, z, h5, h6⟩, fun c nx => AW.wf_of_none (InW.mono (fun _ h => by cases h) (inW_spec h7)), h8, fun hp => ?_⟩
  rw [hp] at h9
  simp only [Bool.and_eq_true, Bool.not_eq_true'] at h9
  exact h9

/-- all that a tree holds -/
def Tree.AllP {α : Type} : (Nat → α → Prop) → Tree α → Prop
  | _, .leaf => True
  | p, .node l v r => (∀ x, v = some x → p 1 x) ∧ Tree.AllP (fun m => p (2 * m)) l ∧ Tree.AllP (fun m => p (2 * m + 1)) r
theorem Tree.AllP.get {α : Type} : ∀ {t : Tree α} {p : Nat → α → Prop}, t.AllP p → ∀ {n : Nat} {x : α}, 1 ≤ n → t.get n = some x → p n x := by
  intro t
  induction t with
  | leaf => intro p h n x hn hx; cases hx
  | node l v r ihl ihr =>
    intro p h n x hn hx
    obtain ⟨h1, h2, h3⟩ := h
    rw [Tree.get_node] at hx
    by_cases hle : n ≤ 1
    · have e : n = 1 := by omega
      subst e
      simp at hx
      exact h1 x hx
    · rw [if_neg hle] at hx
      split at hx
      · have := ihl h2 (show 1 ≤ n / 2 by omega) hx
        have e : 2 * (n / 2) = n := by omega
        rw [e] at this; exact this
      · have := ihr h3 (show 1 ≤ n / 2 by omega) hx
        have e : 2 * (n / 2) + 1 = n := by omega
        rw [e] at this; exact this
theorem allN {α : Type} {p : α → Prop} : ∀ x, (none : Option α) = some x → p x := by intro x h; cases h
theorem allS {α : Type} {p : α → Prop} {y : α} (h : p y) : ∀ x, some y = some x → p x := by intro x e; injection e with e; subst e; exact h
def tyOf (t : Tree TyA) : TyT := fun n => t.get (Nat.succ n)
theorem tOk_of {P : Program} {t : Tree TyA} (h : t.AllP fun m i => TyOk P (m - 1) i) : TOk P (tyOf t) := fun n i hi => by
  have := h.get (by omega) (show t.get (Nat.succ n) = some i from hi)
  simpa using this
theorem fOk_of {P : Program} {T : TyT} {t : Tree AFunc} (h : t.AllP fun m fn => ∃ func code hint, FnOk P T (m - 1) fn func code hint) : FOk P T t := fun n i hi => by
  have := h.get (by omega) hi
  simpa using this
theorem xOk_of {P : Program} {t : Tree CallY} (h : t.AllP fun m g => ∀ call, CallOk P call → XOk1 P (m - 1) (g call)) : XOk P t := fun n i hi => by
  have := h.get (by omega) hi
  simpa using this
def bodyOf (f : Func) : Code := f.body.getD .skip
def hintL (l : List (Nat × List (Nat × Nat))) : Nat → List (Nat × Nat) := match l with
  | [] => fun _ => []
  | x :: l => fun i => match Nat.beq x.1 i with | true => x.2 | false => hintL l i
end
end Go.Sy

/-! The symbolic executor, part Zb: pieces of printed functions; the run of a law over a small input. -/
namespace Go.Sy
set_option linter.unusedVariables false
set_option linter.unusedSectionVars false
noncomputable section

theorem Tree.allLeaf {α : Type} {p : Nat → α → Prop} : (Tree.leaf : Tree α).AllP p := trivial
theorem Tree.allNode {α : Type} {p : Nat → α → Prop} {l r : Tree α} {v : Option α} (h2 : l.AllP fun m => p (2 * m)) (h1 : ∀ x, v = some x → p 1 x) (h3 : r.AllP fun m => p (2 * m + 1)) : (Tree.node l v r).AllP p := ⟨h1, h2, h3⟩

def seqL : Code → Code
  | .seq a _ => a
  | c => c
def seqR : Code → Code
  | .seq _ b => b
  | c => c
def blkB : Code → Code
  | .block _ b => b
  | c => c
def loopB : Code → Code
  | .loop b => b
  | c => c
def regId : Code → Nat
  | .region i _ _ => i
  | _ => 0
def regOps : Code → Array Oper
  | .region _ o _ => o
  | _ => #[]
def noOper : Oper := ⟨none, .panic (.func 0), 0, "", #[], none⟩
def operAt (c : Code) (i : Nat) : Oper := ((regOps c).toList[i]?).getD noOper
def callOf : Op → Call
  | .defer c => c
  | .call c => c
  | _ => ⟨.value (.func 0), #[], #[]⟩
def operTail (c : Code) : List Oper := (regOps c).toList.drop 1

theorem xD_ok {P : Program} {T : TyT} (hT : TOk P T) (hm : P.follows .mixedOrders = true) {f0 : Nat} {x : ADef} {func cf : Func} {A B C : Code} {id cid : Nat} {o1 o2 r : Oper} {c2 cr : Call} {cops : Array Oper} {rest : List Oper} {hint chint : Nat → List (Nat × Nat)}
    (hx : DefOk P T f0 x func cf A B C id cid o1 o2 r c2 cr cops rest hint chint) (call : CallF) (hcall : CallOk P call) : XOk1 P f0 (runD call x) :=
  fun args s k hk c w h hw => .inl ⟨hx.call _ w, runD_sound hT hcall hm hx hk h hw⟩

theorem via_ok {P : Program} {T : TyT} (hT : TOk P T) (hm : P.follows .mixedOrders = true) {f : Nat} {fn : AFunc} (hf : ∃ func code hint, FnOk P T f fn func code hint) {conv : AV → Phi → Option (AV × Phi)} (hc : ConvOk conv)
    (call : CallF) (hcall : CallOk P call) : XOk1 P f (xVia fn conv call) := by
  obtain ⟨func, code, hint, hf⟩ := hf
  exact xVia_ok hT hm hf hc call hcall

/-- the numbers and the bytes of an input -/
def cutN (x : Int) (m : Nat) : Int := (x.tmod m + m).tmod m
def forkOf (x : Int) : Nat := (cutN x 16).toNat
theorem forkOf_lt (x : Int) : forkOf x < 16 := by
  have := cut_range x 16 (by omega)
  unfold forkOf cutN
  omega
def envOf (x : Nat → Int) (o : Value) (ho : o.oneCell' = true) : Env where
  f := forkOf (x 0)
  v := fun i => if i < 1000 then x i else cutN (x 1) (i - 1000)
  o := fun _ => o
  one := fun _ => ho
  f_lt := forkOf_lt _
  f_eq := by
    have h : 0 ≤ cutN (x 0) 16 := (cut_range (x 0) 16 (by omega)).1
    have e : cutN (x 0) 16 = (((x 0).tmod 16) + 16).tmod 16 := rfl
    show ((cutN (x 0) 16).toNat : Int) = (((x 0).tmod 16) + 16).tmod 16
    rw [← e]
    omega
  n_eq := fun m => by
    rw [if_neg (by omega), if_pos (by omega)]
    have : 1000 + m - 1000 = m := by omega
    rw [this]; rfl

def i64R (φ : Phi) (i : Nat) : Phi := setRng φ i (.negSucc 9223372036854775807) (.ofNat 9223372036854775807)
def u64R (φ : Phi) (i : Nat) : Phi := setRng φ i (.ofNat 0) (.ofNat 18446744073709551615)
def phi0 (m : List Bool) : Phi := ⟨m, .leaf, []⟩
/-- a fork, a number, eight words: what is known of them ahead -/
def phiSmall (m : List Bool) : Phi := u64R (u64R (u64R (u64R (u64R (u64R (u64R (u64R (i64R (i64R (phi0 m) 0) 1) 2) 3) 4) 5) 6) 7) 8) 9
def argSmall : AV := .w (.agg [.int .i64 (.var 0), .int .i64 (.var 1), .int .u64 (.var 2), .int .u64 (.var 3), .int .u64 (.var 4), .int .u64 (.var 5), .int .u64 (.var 6), .int .u64 (.var 7), .int .u64 (.var 8), .int .u64 (.var 9), .opq 0])
def kTrue : KC := fun r _ => match r with
  | .val v => vEq v (vBool true)
  | .panic _ => false
def inI64 (x : Int) : Prop := -9223372036854775808 ≤ x ∧ x ≤ 9223372036854775807
def inU64 (x : Int) : Prop := 0 ≤ x ∧ x ≤ 18446744073709551615

theorem phi0_sat {σ : Env} {m : List Bool} (h : m[σ.f]? = some true) : Sat σ (phi0 m) := ⟨h, fun i lo hi h => (by cases h), fun c hc => (by cases hc)⟩
theorem i64R_sat {σ : Env} {φ : Phi} {i : Nat} (hs : Sat σ φ) (h : inI64 (σ.v i)) : Sat σ (i64R φ i) := setRng_sat hs h
theorem u64R_sat {σ : Env} {φ : Phi} {i : Nat} (hs : Sat σ φ) (h : inU64 (σ.v i)) : Sat σ (u64R φ i) := setRng_sat hs h
theorem phiSmall_sat {σ : Env} {m : List Bool} (h : m[σ.f]? = some true) (h0 : inI64 (σ.v 0)) (h1 : inI64 (σ.v 1)) (h2 : inU64 (σ.v 2)) (h3 : inU64 (σ.v 3)) (h4 : inU64 (σ.v 4)) (h5 : inU64 (σ.v 5)) (h6 : inU64 (σ.v 6)) (h7 : inU64 (σ.v 7)) (h8 : inU64 (σ.v 8)) (h9 : inU64 (σ.v 9)) : Sat σ (phiSmall m) :=
  u64R_sat (u64R_sat (u64R_sat (u64R_sat (u64R_sat (u64R_sat (u64R_sat (u64R_sat (i64R_sat (i64R_sat (phi0_sat h) h0) h1) h2) h3) h4) h5) h6) h7) h8) h9

/-- the mask of one fork -/
def maskOf (i : Nat) : List Bool := lmap (fun j => Nat.beq i j) [0, 1, 2, 3, 4, 5, 6, 7, 8, 9, 10, 11, 12, 13, 14, 15]

theorem kTrue_spec {r : Ret} {s : S} (h : kTrue r s = true) : r = .val (vBool true) := by
  cases r with
  | val v => exact congrArg Ret.val (vEq_spec _ _ h)
  | panic v => cases h

/-- the law's answer is true in every world -/
def SaysTrue (P : Program) (f : Nat) (args : Array Value) (w : World) : Prop :=
  CallRuns P f args w fun e w' => match e with
    | .returned u => u = .bool true ∧ Go.RowKit.Below w.heap.size w w'
    | .panicked _ => False
    | .outgrown => False

theorem says_of_run {P : Program} {call : CallF} (hcall : CallOk P call) {f : Nat} {args : List AV} {φ : Phi} (hrun : call f args ⟨.leaf, 0, φ⟩ kTrue = true) {σ : Env} (hs : Sat σ φ)
    (hw : ∀ c : Cx, ∀ v ∈ args, v.wf c 0) (w : World) : SaysTrue P f (args.map (AV.conc ⟨fun _ => 0, fun _ => 0, σ⟩)).toArray w := by
  have hrel : Rel ⟨fun _ => 0, fun _ => 0, σ⟩ ⟨.leaf, 0, φ⟩ w := ⟨hs, fun id o h => (by cases h), fun id o h => (by cases h), fun id o h => (by cases h), fun id id' o o' h => (by cases h)⟩
  have := hcall f args _ _ hrun _ w hrel (hw _)
  have key : ∀ e w', CPost ⟨fun _ => 0, fun _ => 0, σ⟩ ⟨.leaf, 0, φ⟩ w kTrue e w' → (match e with
    | .returned u => u = .bool true ∧ Go.RowKit.Below w.heap.size w w'
    | .panicked _ => False
    | .outgrown => False : Prop) := by
    intro e w' h
    cases e with
    | returned u =>
      obtain ⟨c', v, s', e1, e2, e3, e4, e5⟩ := h
      have hv := kTrue_spec e5
      injection hv with hv
      subst hv
      exact ⟨e1, e3.below fun id => rfl⟩
    | panicked ch =>
      obtain ⟨c', v, s', e1, e2, e3, e4, e5⟩ := h
      cases e5
    | outgrown => exact h.elim
  rcases this with ⟨h1, h2⟩ | ⟨v, w', h1, h2⟩
  · exact .inl ⟨h1, Calls.mono h2 fun e w' h => key e w' h⟩
  · exact .inr ⟨v, w', h1, key (.returned v) w' h2⟩

theorem SaysTrue.calls {P : Program} {f : Nat} {args : Array Value} {w : World} (hc : (callFunc f args).run P w = .ok (.enter f args) w) (h : SaysTrue P f args w) :
    Calls P f args w fun e w' => e = .returned (.bool true) ∧ Go.RowKit.Below w.heap.size w w' := by
  rcases h with ⟨_, h⟩ | ⟨v, w', h, _⟩
  · refine Calls.mono h fun e w' h => ?_
    cases e with
    | returned u => exact ⟨by rw [h.1], h.2⟩
    | panicked ch => exact h.elim
    | outgrown => exact h.elim
  · rw [hc] at h
    injection h with h
    cases h

theorem maskOf_at (i : Nat) (h : i < 16) : (maskOf i)[i]? = some true := by
  have : ∀ i, i < 16 → (maskOf i)[i]? = some true := by
    intro i h
    have e : maskOf i = [0, 1, 2, 3, 4, 5, 6, 7, 8, 9, 10, 11, 12, 13, 14, 15].map fun j => Nat.beq i j := lmap_eq ..
    rw [e, List.getElem?_map]
    have e2 : [0, 1, 2, 3, 4, 5, 6, 7, 8, 9, 10, 11, 12, 13, 14, 15] = List.range 16 := rfl
    rw [e2, List.getElem?_range h]
    simp
  exact this i h

/-- A law over a small input, run fork by fork: its answer is true in every world. -/
theorem law_small {P : Program} {call : CallF} (hcall : CallOk P call) {f : Nat} (hc : ∀ args w, (callFunc f args).run P w = .ok (.enter f args) w) (hrun : ∀ i, i < 16 → call f [argSmall] ⟨.leaf, 0, phiSmall (maskOf i)⟩ kTrue = true)
    (x : Nat → Int) (o : Value) (ho : o.oneCell' = true) (h0 : inI64 (x 0)) (h1 : inI64 (x 1)) (h2 : inU64 (x 2)) (h3 : inU64 (x 3)) (h4 : inU64 (x 4)) (h5 : inU64 (x 5)) (h6 : inU64 (x 6)) (h7 : inU64 (x 7)) (h8 : inU64 (x 8)) (h9 : inU64 (x 9)) (w : World) :
    Calls P f #[.agg #[.int .i64 (x 0), .int .i64 (x 1), .int .u64 (x 2), .int .u64 (x 3), .int .u64 (x 4), .int .u64 (x 5), .int .u64 (x 6), .int .u64 (x 7), .int .u64 (x 8), .int .u64 (x 9), o]] w fun e w' => e = .returned (.bool true) ∧ Go.RowKit.Below w.heap.size w w' := by
  have hs : Sat (envOf x o ho) (phiSmall (maskOf (forkOf (x 0)))) := phiSmall_sat (maskOf_at _ (forkOf_lt _)) h0 h1 h2 h3 h4 h5 h6 h7 h8 h9
  have := says_of_run hcall (hrun _ (forkOf_lt (x 0))) hs (by
    intro c v hv
    rcases List.mem_cons.1 hv with rfl | hv
    · intro y hy
      simp only [List.mem_cons, List.not_mem_nil, or_false] at hy
      rcases hy with rfl | rfl | rfl | rfl | rfl | rfl | rfl | rfl | rfl | rfl | rfl <;> trivial
    · cases hv) w
  exact this.calls (hc _ _)
end
end Go.Sy

/-! The symbolic executor, part Zc: what a function answers to given numbers, found once. -/
namespace Go.Sy
set_option linter.unusedVariables false
set_option linter.unusedSectionVars false
noncomputable section

def kIs (r : AV) : KC := fun q _ => match q with
  | .val v => vEq v r
  | .panic _ => false
def allF : List Bool := [true, true, true, true, true, true, true, true, true, true, true, true, true, true, true, true]
theorem allF_at (i : Nat) (h : i < 16) : allF[i]? = some true := by
  have e : allF = List.replicate 16 true := rfl
  rw [e, List.getElem?_replicate, if_pos h]
def sAll : S := ⟨.leaf, 0, phi0 allF⟩
def xMemo (tab : List AV → Option AV) : CallX := fun args s k => optB (tab args) fun r => k (.val r) s

theorem memo_ok {P : Program} {call0 : CallF} (h0 : CallOk P call0) {f : Nat} {tab : List AV → Option AV}
    (htab : ∀ args r, tab args = some r → call0 f args sAll (kIs r) = true ∧ (∀ c : Cx, ∀ v ∈ args, v.wf c 0) ∧ (∀ c : Cx, r.wf c 0)) : XOk1 P f (xMemo tab) := by
  intro args s k hk c w h hw
  obtain ⟨r, hr, hk⟩ := optB_true (show optB (tab args) _ = true from hk)
  obtain ⟨h1, h2, h3⟩ := htab args r hr
  have hrel : Rel c sAll w := ⟨phi0_sat (allF_at _ c.σ.f_lt), fun id o h => (by cases h), fun id o h => (by cases h), fun id o h => (by cases h), fun id id' o o' h => (by cases h)⟩
  have key : ∀ e w', CPost c sAll w (kIs r) e w' → CPost c s w k e w' := by
    intro e w' he
    cases e with
    | returned u =>
      obtain ⟨c', v, s', e1, e2, e3, e4, e5⟩ := he
      have hv : v = r := vEq_spec _ _ e5
      subst hv
      have hcc : v.conc c' = v.conc c := AV.conc_ext (nx := 0) e3.ext (h3 c)
      have hfr : ∀ b, b < w.heap.size → w'.heap[b]? = w.heap[b]? := fun b hb => e3.frame b hb fun id o h => by cases h
      exact ⟨c, v, s, by rw [e1, hcc], AV.wf_ext (Cx.Ext.refl 0 c) (Nat.zero_le _) (h3 c),
        ⟨.refl _ _, Nat.le_refl _, e3.os, e3.tape, e3.output, e3.size, fun b hb _ => hfr b hb, fun id o h => .inr ⟨id, o, h, rfl⟩⟩,
        ⟨h.sat, h.lt, h.wf, fun id o ho => by rw [hfr _ (h.ι_lt ho)]; exact h.obj id o ho, h.inj⟩, hk⟩
    | panicked ch =>
      obtain ⟨c', v, s', e1, e2, e3, e4, e5⟩ := he
      cases e5
    | outgrown => exact he.elim
  rcases h0 f args _ _ h1 c w hrel (h2 c) with ⟨g1, g2⟩ | ⟨v, w', g1, g2⟩
  · exact .inl ⟨g1, Calls.mono g2 fun e w' h => key e w' h⟩
  · exact .inr ⟨v, w', g1, key (.returned v) w' g2⟩

/-- a function of no argument that says yes -/
def yesTab : List AV → Option AV := fun args => match args with
  | [] => some (vBool true)
  | _ => none
theorem yes_ok {P : Program} {call0 : CallF} (h0 : CallOk P call0) {f : Nat} (h : call0 f [] sAll (kIs (vBool true)) = true) : XOk1 P f (xMemo yesTab) := by
  refine memo_ok h0 fun args r hr => ?_
  unfold yesTab at hr
  split at hr <;> try (simp at hr; done)
  injection hr with hr; subst hr
  exact ⟨h, fun c v hv => (by cases hv), fun c => trivial⟩

/-- a number's range cut at places, smallest first; each piece goes its own way -/
def cutsK (i : Nat) (l : List Int) : Phi → (Phi → Bool) → Bool :=
  List.rec (fun φ k => k φ) (fun b _ ih φ k => brc φ (.le (.var i) (.lit b)) fun e φ => match e with | true => k φ | false => ih φ k) l
theorem cutsK_cons (i : Nat) (b : Int) (l : List Int) (φ : Phi) (k : Phi → Bool) : cutsK i (b :: l) φ k = brc φ (.le (.var i) (.lit b)) fun e φ => match e with | true => k φ | false => cutsK i l φ k := rfl
theorem cutsK_spec {σ : Env} (i : Nat) : ∀ (l : List Int) {φ : Phi} {k : Phi → Bool}, Sat σ φ → cutsK i l φ k = true → ∃ φ', Sat σ φ' ∧ k φ' = true := by
  intro l
  induction l with
  | nil => intro φ k hs h; exact ⟨φ, hs, h⟩
  | cons b l ih =>
    intro φ k hs h
    rw [cutsK_cons] at h
    obtain ⟨φ', hs', h'⟩ := brc_spec hs h
    split at h'
    · exact ⟨φ', hs', h'⟩
    · exact ih hs' h'
/-- a function, run with a number's range cut ahead -/
def xCut (fn : AFunc) (i : Nat) (l : List Int) : CallY := fun call args s k => match s with
  | .mk h nx φ => cutsK i l φ fun φ => runF call fn args ⟨h, nx, φ⟩ k
theorem cut_ok {P : Program} {T : TyT} (hT : TOk P T) (hm : P.follows .mixedOrders = true) {f : Nat} {fn : AFunc} (hf : ∃ func code hint, FnOk P T f fn func code hint) {i : Nat} {l : List Int}
    (call : CallF) (hcall : CallOk P call) : XOk1 P f (xCut fn i l call) := by
  obtain ⟨func, code, hint, hf⟩ := hf
  intro args s k hk c w h hw
  obtain ⟨hh, nx, φ⟩ := s
  obtain ⟨φ', hs', hk'⟩ := cutsK_spec i l h.sat (show cutsK i l φ _ = true from hk)
  refine .inl ⟨hf.call _ w, Calls.mono (runF_sound hT hcall hm hf hk' (h.facts hs') hw) fun e w' he => ?_⟩
  have hst := Step.facts c ⟨hh, nx, φ⟩ w φ'
  cases e with
  | returned u =>
    obtain ⟨c', v, s', e1, e2, e3, e4, e5⟩ := he
    exact ⟨c', v, s', e1, e2, hst.trans e3, e4, e5⟩
  | panicked ch =>
    obtain ⟨c', v, s', e1, e2, e3, e4, e5⟩ := he
    exact ⟨c', v, s', e1, e2, hst.trans e3, e4, e5⟩
  | outgrown => exact he.elim
end
end Go.Sy

/-! The symbolic executor, part Ze: 'delete what a test names' on a map without entries. -/
namespace Go.Sy
set_option linter.unusedVariables false
set_option linter.unusedSectionVars false
noncomputable section

section
variable {P : Program} {ops : Array Oper} {Q : Exit → Act → World → Prop} {a : Act} {w : World}
theorem wpList_val {rest : List Oper} {o : Oper} {v : Value} {w' : World} (hg : o.guard = none) (hr : (execOp a.eval o).run P w = .ok (.value v) w') (h : wpList P ops Q rest (a.put o.dst v) w') : wpList P ops Q (o :: rest) a w := by
  unfold wpList
  rw [if_pos (by simp [Region.wanted, hg])]
  refine .inl ?_
  show o.upon P a _ Q _
  rw [hr, Oper.upon_value]; exact h
theorem eval_put {d : Nat} {v : Value} (h : d < a.tmps.size) : (a.put (some d) v).eval (.tmp d) = v := by
  simp [Act.put, Act.eval, h]
theorem put_size {d : Option Nat} {v : Value} : (a.put d v).tmps.size = a.tmps.size := by
  cases d <;> simp [Act.put]
theorem put_defers {d : Option Nat} {v : Value} : (a.put d v).defers = a.defers := by
  cases d <;> simp [Act.put]

structure DelOk (P : Program) (f : Nat) (func : Func) (ty kt vt : TypeId) (i0 i1 : Nat) (o0 o1 n0 n1 : Oper) (B : Code) : Prop where
  at_ : P.funcs[f]? = some func
  call : ∀ args w, (callFunc f args).run P w = .ok (.enter f args) w
  body : func.body = some (.seq (.region i0 #[o0, o1] false) (.block 0 (.loop (.seq (.region i1 #[n0, n1] false) (.seq (.cond (.tmp 9) .skip (.exit 0)) B)))))
  ntmps : func.ntmps = 19
  res : func.results = #[]
  und : P.underlying ty = some (.map kt vt)
  p0 : o0.op = .move (.tmp 0)
  d0 : o0.dst = some 6
  g0 : o0.guard = none
  p1 : o1.op = .range ty (.tmp 6)
  d1 : o1.dst = some 7
  g1 : o1.guard = none
  p2 : n0.op = .next (.tmp 7) false
  d2 : n0.dst = some 8
  g2 : n0.guard = none
  p3 : n1.op = .extract (.tmp 8) 0
  d3 : n1.dst = some 9
  g3 : n1.guard = none

theorem del_calls {f : Nat} {func : Func} {ty kt vt : TypeId} {i0 i1 : Nat} {o0 o1 n0 n1 : Oper} {B : Code} (h : DelOk P f func ty kt vt i0 i1 o0 o1 n0 n1 B) {m c : Value} {it : Obj}
    (hrange : (Instr.range ty m).run P w = .ok (.pointer (some ⟨w.heap.size, 0, none⟩)) (w.alloc it)) (hnext : ∀ t, (Instr.next (.pointer (some ⟨w.heap.size, 0, none⟩)) false t).run P (w.alloc it) = .ok (.tuple #[.bool false]) (w.alloc it)) :
    Calls P f #[m, c] w fun e w' => e = .returned (.tuple #[]) ∧ w' = w.alloc it := by
  obtain ⟨hat, hcall, hb, hn, hres, hund, p0, d0, g0, p1, d1, g1, p2, d2, g2, p3, d3, g3⟩ := h
  refine calls_of_wp hat hb ?_
  rw [hn]
  have hsz : (#[m, c] ++ Array.replicate (19 - (#[m, c] : Array Value).size) undef).size = 19 := by simp
  have h0 : (#[m, c] ++ Array.replicate (19 - (#[m, c] : Array Value).size) undef).getD 0 undef = m := by rw [Array.getD_eq_getD_getElem?, Array.getElem?_append_left (by simp)]; rfl
  generalize #[m, c] ++ Array.replicate (19 - (#[m, c] : Array Value).size) undef = T at hsz h0
  refine wp_seq (wp_region_list ?_)
  show wpList P _ _ [o0, o1] _ _
  refine wpList_val g0 (v := m) (w' := w) ?_ ?_
  · obtain ⟨dst, op, t, pos, af, g⟩ := o0
    have p0 : op = _ := p0
    subst p0
    have : (⟨T, []⟩ : Act).eval (.tmp 0) = m := h0
    simp [execOp, this]
  rw [d0]
  generalize ha1 : (⟨T, []⟩ : Act).put (some 6) m = a1
  have s1 : a1.tmps.size = 19 := by rw [← ha1, put_size]; exact hsz
  have f1 : a1.defers = [] := by rw [← ha1, put_defers]
  have e1 : a1.eval (.tmp 6) = m := by rw [← ha1]; exact eval_put (by show 6 < T.size; omega)
  clear ha1
  refine wpList_val g1 (v := .pointer (some ⟨w.heap.size, 0, none⟩)) (w' := w.alloc it) ?_ ?_
  · obtain ⟨dst, op, t, pos, af, g⟩ := o1
    have p1 : op = _ := p1
    subst p1
    simp [execOp, e1, hrange]
  rw [d1]
  generalize ha2 : a1.put (some 7) (.pointer (some ⟨w.heap.size, 0, none⟩)) = a2
  have s2 : a2.tmps.size = 19 := by rw [← ha2, put_size]; exact s1
  have f2 : a2.defers = [] := by rw [← ha2, put_defers]; exact f1
  have e2 : a2.eval (.tmp 7) = .pointer (some ⟨w.heap.size, 0, none⟩) := by rw [← ha2]; exact eval_put (by omega)
  clear ha2
  show (Code.block 0 _).wp P _ a2 (w.alloc it)
  refine wp_block (wp_loop_rounds 1 ?_)
  rw [rounds_succ]
  refine wp_seq (wp_region_list ?_)
  show wpList P _ _ [n0, n1] _ _
  refine wpList_val g2 (v := .tuple #[.bool false]) (w' := w.alloc it) ?_ ?_
  · obtain ⟨dst, op, t, pos, af, g⟩ := n0
    have p2 : op = _ := p2
    subst p2
    simp [execOp, e2, hnext]
  rw [d2]
  generalize ha3 : a2.put (some 8) (.tuple #[.bool false]) = a3
  have s3 : a3.tmps.size = 19 := by rw [← ha3, put_size]; exact s2
  have f3 : a3.defers = [] := by rw [← ha3, put_defers]; exact f2
  have e3 : a3.eval (.tmp 8) = .tuple #[.bool false] := by rw [← ha3]; exact eval_put (by omega)
  clear ha3
  refine wpList_val g3 (v := .bool false) (w' := w.alloc it) ?_ ?_
  · obtain ⟨dst, op, t, pos, af, g⟩ := n1
    have p3 : op = _ := p3
    subst p3
    simp [execOp, e3, Instr.extract]
  rw [d3]
  generalize ha4 : a3.put (some 9) (.bool false) = a4
  have f4 : a4.defers = [] := by rw [← ha4, put_defers]; exact f3
  have e4 : a4.eval (.tmp 9) = .bool false := by rw [← ha4]; exact eval_put (by omega)
  clear ha4
  show (Code.seq _ B).wp P _ a4 (w.alloc it)
  refine wp_seq (wp_cond_false e4 (wp_exit ?_))
  simp only [Exit.then, Exit.inBlock, if_true]
  exact ⟨f4, .tuple #[], by simp [results, hres], rfl, rfl⟩
end

def xDel : CallX := fun args s k => match args with
  | [a, _] => (match a with
    | .w x => (match x with
      | .s y => (match y with
        | .map id => optB (s.get id) fun o => (match o with
          | .map es _ => (match es with | [] => k (.val (.tup [])) s | _ => false)
          | _ => false)
        | .nilm => k (.val (.tup [])) s
        | _ => false)
      | _ => false)
    | _ => false)
  | _ => false

theorem Step.garbage {c : Cx} {s : S} {w : World} (h : Rel c s w) (it : Obj) : Step c c s s w (w.alloc it) ∧ Rel c s (w.alloc it) := by
  have hfr : ∀ b, b < w.heap.size → (w.alloc it).heap[b]? = w.heap[b]? := fun b hb => heap_alloc_old w it hb
  refine ⟨⟨.refl _ _, Nat.le_refl _, rfl, rfl, rfl, ?_, fun b hb _ => hfr b hb, fun id o h => .inr ⟨id, o, h, rfl⟩⟩, ⟨h.sat, h.lt, h.wf, fun id o ho => by rw [hfr _ (h.ι_lt ho)]; exact h.obj id o ho, h.inj⟩⟩
  show w.heap.size ≤ (w.heap.push it).size
  simp

theorem xDel_ok {P : Program} {f : Nat} {func : Func} {ty kt vt : TypeId} {i0 i1 : Nat} {o0 o1 n0 n1 : Oper} {B : Code} (hd : DelOk P f func ty kt vt i0 i1 o0 o1 n0 n1 B) : XOk1 P f xDel := by
  intro args s k hk c w h hw
  refine .inl ⟨hd.call _ w, ?_⟩
  have fin : ∀ (it : Obj) (hk1 : k (.val (.tup [])) s = true) {m x : Value}, (Instr.range ty m).run P w = .ok (.pointer (some ⟨w.heap.size, 0, none⟩)) (w.alloc it) → (∀ t, (Instr.next (.pointer (some ⟨w.heap.size, 0, none⟩)) false t).run P (w.alloc it) = .ok (.tuple #[.bool false]) (w.alloc it)) →
      Calls P f #[m, x] w (CPost c s w k) := by
    intro it hk1 m x hr hn
    refine Calls.mono (del_calls hd hr hn) fun e w' he => ?_
    obtain ⟨rfl, rfl⟩ := he
    obtain ⟨q1, q2⟩ := Step.garbage h it
    exact ⟨c, .tup [], s, rfl, (by intro x hx; cases hx), q1, q2, hk1⟩
  unfold xDel at hk
  split at hk <;> try (simp at hk; done)
  rename_i u x'
  split at hk <;> try (simp at hk; done)
  rename_i y
  split at hk <;> try (simp at hk; done)
  rename_i z
  split at hk <;> try (simp at hk; done)
  · rename_i id
    obtain ⟨o, ho, hk1⟩ := optB_true hk
    split at hk1 <;> try (simp at hk1; done)
    rename_i es cl
    split at hk1 <;> try (simp at hk1; done)
    rw [S.get_eq] at ho
    have hob : w.heap[c.ι id]? = some (.map #[] cl) := h.obj id _ ho
    refine fin _ hk1 (run_range_map w ty kt vt (c.ι id) #[] cl hd.und hob) fun t => ?_
    rcases run_next_map (P := P) w t (c.ι id) cl cl #[] #[] cl hob (by simp) (Nat.le_refl _) with ⟨_, h2⟩ | ⟨e, he, _⟩
    · exact h2
    · simp [leftOf] at he
  · exact fin _ hk (run_range_nilMap w ty kt vt hd.und) fun t => run_next_nilMap w t _ _ _
end
end Go.Sy

/-! The symbolic executor, part Zf: what a function answers at each fork, found once for all of them. -/
namespace Go.Sy
set_option linter.unusedVariables false
set_option linter.unusedSectionVars false
noncomputable section

/-- numbers that tell of one fork -/
def forkX (i : Nat) : Nat → Int := fun j => match j with
  | 0 => (i : Int)
  | _ => 0
theorem forkOf_fork : ∀ i : Nat, i < 16 → forkOf (i : Int) = i := by
  intro i hi
  have h1 : ((i : Int)).tmod 16 = i := Int.tmod_eq_of_lt (by omega) (by omega)
  have h2 : ((i : Int) + 16).tmod 16 = i := by
    rw [Int.tmod_eq_emod_of_nonneg (by omega)]; omega
  have h3 : cutN (i : Int) 16 = i := by
    show (((i : Int)).tmod 16 + 16).tmod 16 = i
    rw [h1, h2]
  unfold forkOf
  rw [h3]; rfl
def envF (i : Nat) : Env := envOf (forkX i) (.bool false) rfl
theorem envF_f {i : Nat} (h : i < 16) : (envF i).f = i := forkOf_fork i h

theorem memoF_ok {P : Program} {call0 : CallF} (h0 : CallOk P call0) {f : Nat} {tab : List AV → Option AV}
    (htab : ∀ args r, tab args = some r → ∃ i, i < 16 ∧ ∃ (args0 : List AV) (k0 : KC), call0 f args0 sAll k0 = true ∧ (∀ c : Cx, ∀ v ∈ args0, v.wf c 0) ∧ (∀ c : Cx, r.wf c 0) ∧
      (∀ c c' : Cx, c'.σ.f = i → args0.map (AV.conc c') = args.map (AV.conc c)) ∧
      (∀ q s', k0 q s' = true → ∀ c c' : Cx, Sat c'.σ s'.φ → c'.σ.f = i → ∃ v, q = .val v ∧ v.conc c' = r.conc c)) : XOk1 P f (xMemo tab) := by
  intro args s k hk c w h hw
  obtain ⟨r, hr, hk⟩ := optB_true (show optB (tab args) _ = true from hk)
  obtain ⟨i, hi, args0, k0, h1, h2, h3, h4, h5⟩ := htab args r hr
  have hrel : Rel ⟨c.ι, c.κ, envF i⟩ sAll w := ⟨phi0_sat (allF_at _ (envF i).f_lt), fun id o h => (by cases h), fun id o h => (by cases h), fun id o h => (by cases h), fun id id' o o' h => (by cases h)⟩
  have key : ∀ e w', CPost ⟨c.ι, c.κ, envF i⟩ sAll w k0 e w' → CPost c s w k e w' := by
    intro e w' he
    cases e with
    | returned u =>
      obtain ⟨c', v, s', e1, e2, e3, e4, e5⟩ := he
      have hσ : c'.σ = envF i := e3.ext.σ
      obtain ⟨v', ev, hv⟩ := h5 _ _ e5 c c' e4.sat (by rw [hσ]; exact envF_f hi)
      injection ev with ev; subst ev
      have hfr : ∀ b, b < w.heap.size → w'.heap[b]? = w.heap[b]? := fun b hb => e3.frame b hb fun id o h => (by cases h)
      exact ⟨c, r, s, by rw [e1, hv], AV.wf_ext (Cx.Ext.refl 0 c) (Nat.zero_le _) (h3 c),
        ⟨.refl _ _, Nat.le_refl _, e3.os, e3.tape, e3.output, e3.size, fun b hb _ => hfr b hb, fun id o h => .inr ⟨id, o, h, rfl⟩⟩,
        ⟨h.sat, h.lt, h.wf, fun id o ho => by rw [hfr _ (h.ι_lt ho)]; exact h.obj id o ho, h.inj⟩, hk⟩
    | panicked ch =>
      obtain ⟨c', v, s', e1, e2, e3, e4, e5⟩ := he
      have hσ : c'.σ = envF i := e3.ext.σ
      obtain ⟨v', ev, hv⟩ := h5 _ _ e5 c c' e4.sat (by rw [hσ]; exact envF_f hi)
      cases ev
    | outgrown => exact he.elim
  have ea := h4 c ⟨c.ι, c.κ, envF i⟩ (envF_f hi)
  have hc := h0 f args0 _ _ h1 ⟨c.ι, c.κ, envF i⟩ w hrel (h2 _)
  rw [ea] at hc
  rcases hc with ⟨g1, g2⟩ | ⟨v, w', g1, g2⟩
  · exact .inl ⟨g1, Calls.mono g2 fun e w' h => key e w' h⟩
  · exact .inr ⟨v, w', g1, key (.returned v) w' g2⟩

/-- of all forks that are left -/
def allFrom (l : List Bool) : Nat → (Nat → Bool) → Bool :=
  List.rec (fun _ _ => true) (fun b _ ih j p => forceN (Nat.add j 1) fun j' => match b with | true => and2 (p j) (ih j' p) | false => ih j' p) l
def treeAll {α : Type} (t : Tree α) : (Nat → α → Bool) → Bool :=
  Tree.rec (fun _ => true) (fun _ v _ il ir p => and2 (match v with | none => true | some x => p 1 x) (and2 (il fun m => p (Nat.mul 2 m)) (ir fun m => p (Nat.add (Nat.mul 2 m) 1)))) t
theorem allFrom_cons (b : Bool) (l : List Bool) (j : Nat) (p : Nat → Bool) : allFrom (b :: l) j p = match b with | true => and2 (p j) (allFrom l (j + 1) p) | false => allFrom l (j + 1) p := by
  show forceN (Nat.add j 1) (fun j' => match b with | true => and2 (p j) (allFrom l j' p) | false => allFrom l j' p) = _
  rw [forceN_eq]
theorem allFrom_spec : ∀ {l : List Bool} {j : Nat} {p : Nat → Bool}, allFrom l j p = true → ∀ f, l[f]? = some true → p (j + f) = true := by
  intro l
  induction l with
  | nil => intro j p _ f hf; simp at hf
  | cons b l ih =>
    intro j p h f hf
    rw [allFrom_cons] at h
    cases f with
    | zero =>
      simp at hf; subst hf
      exact (and2_iff.1 h).1
    | succ f =>
      have h' : allFrom l (j + 1) p = true := by
        cases b with
        | true => exact (and2_iff.1 h).2
        | false => exact h
      have := ih h' f (by simpa using hf)
      rw [show j + (f + 1) = j + 1 + f by omega]; exact this
theorem treeAll_node {α : Type} (l r : Tree α) (v : Option α) (p : Nat → α → Bool) : treeAll (.node l v r) p = and2 (match v with | none => true | some x => p 1 x) (and2 (treeAll l fun m => p (Nat.mul 2 m)) (treeAll r fun m => p (Nat.add (Nat.mul 2 m) 1))) := rfl
theorem treeAll_spec {α : Type} : ∀ {t : Tree α} {p : Nat → α → Bool}, treeAll t p = true → t.AllP fun m x => p m x = true := by
  intro t
  induction t with
  | leaf => intro p _; trivial
  | node l v r ihl ihr =>
    intro p h
    rw [treeAll_node] at h
    obtain ⟨h1, h2⟩ := and2_iff.1 h
    obtain ⟨h2, h3⟩ := and2_iff.1 h2
    refine ⟨fun x hx => ?_, ihl h2, ihr h3⟩
    subst hx; exact h1

def forksT : Tm := .tab [0, 1, 2, 3, 4, 5, 6, 7, 8, 9, 10, 11, 12, 13, 14, 15]
theorem forksT_at {σ : Env} {i : Nat} (h : σ.f = i) (hi : i < 16) : forksT.eval σ = (i : Int) := by
  subst h
  have e : ([0, 1, 2, 3, 4, 5, 6, 7, 8, 9, 10, 11, 12, 13, 14, 15] : List Int) = (List.range 16).map fun j : Nat => (j : Int) := rfl
  unfold forksT
  rw [Tm.eval, e, List.getD_eq_getElem?_getD, List.getElem?_map, List.getElem?_range σ.f_lt]
  rfl
def i64N (n : Nat) : AV := .w (.s (.int .i64 (.lit (.ofNat n))))
def asI64 (v : AV) : Option Nat := match v with | .w (.s (.int .i64 (.lit (.ofNat n)))) => some n | _ => none
theorem asI64_spec {v : AV} {n : Nat} (h : asI64 v = some n) : v = i64N n := by
  unfold asI64 at h
  split at h <;> try (simp at h; done)
  injection h with h; subst h; rfl

/-! a function of fork and number that answers two numbers and a yes or no -/
def popR (e : List Bool × Nat × Nat) (i : Nat) : AV := match lget e.1 i with
  | some true => .tup [.s (.int .i64 (.lit (.ofNat e.2.1))), .s (.int .i64 (.lit (.ofNat e.2.2))), .s (.bool true)]
  | _ => .tup [.s (.int .i64 (.lit (.ofNat 0))), .s (.int .i64 (.lit (.ofNat 0))), .s (.bool false)]
theorem popR_conc (e : List Bool × Nat × Nat) (i : Nat) (c c' : Cx) : (popR e i).conc c = (popR e i).conc c' := by
  unfold popR
  split <;> rfl
theorem popR_wf (e : List Bool × Nat × Nat) (i : Nat) (c : Cx) : (popR e i).wf c 0 := by
  unfold popR
  split <;> (intro x hx; simp only [List.mem_cons, List.not_mem_nil, or_false] at hx; rcases hx with rfl | rfl | rfl <;> trivial)
def kPop (e : List Bool × Nat × Nat) : KC := fun q s => match q with
  | .val v => (match s with | .mk _ _ φ => (match φ with | .mk m _ _ => allFrom m 0 fun i => vEq v (popR e i)))
  | .panic _ => false
def popTab (t : Tree (List Bool × Nat × Nat)) : List AV → Option AV := fun args => match args with
  | [a, b] => optP (asI64 a) none fun i => optP (asI64 b) none fun op => ckB (Nat.ble (Nat.succ i) 16) none (optP (t.get (Nat.succ op)) none fun e => some (popR e i))
  | _ => none
def popRun (call : CallF) (f : Nat) : Nat → List Bool × Nat × Nat → Bool := fun m e => forceN (Nat.sub m 1) fun op => call f [.w (.s (.int .i64 forksT)), i64N op] sAll (kPop e)
theorem pop_ok {P : Program} {call0 : CallF} (h0 : CallOk P call0) {f : Nat} {t : Tree (List Bool × Nat × Nat)} (h : treeAll t (popRun call0 f) = true) : XOk1 P f (xMemo (popTab t)) := by
  refine memoF_ok h0 fun args r hr => ?_
  unfold popTab at hr
  split at hr <;> try (simp at hr; done)
  rename_i a b
  obtain ⟨i, h1, g1⟩ := optP_some hr
  obtain ⟨op, h2, g2⟩ := optP_some g1
  obtain ⟨h3, g3⟩ := ckB_some g2
  obtain ⟨e, h4, g4⟩ := optP_some g3
  injection g4 with g4
  have hi : i < 16 := (natBle_iff _ _).1 h3
  have hrun := (treeAll_spec h).get (by omega) h4
  unfold popRun at hrun
  rw [forceN_eq] at hrun
  have e1 : Nat.sub (Nat.succ op) 1 = op := rfl
  rw [e1] at hrun
  rw [asI64_spec h1, asI64_spec h2, ← g4]
  refine ⟨i, hi, _, _, hrun, ?_, popR_wf e i, ?_, ?_⟩
  · intro c v hv
    simp only [List.mem_cons, List.not_mem_nil, or_false] at hv
    rcases hv with rfl | rfl <;> trivial
  · intro c c' hc
    have := forksT_at hc hi
    simp only [List.map_cons, List.map_nil, AV.conc, AW.conc, AS.conc, i64N, this]
    rfl
  · intro q s' hk c c' hs hc
    unfold kPop at hk
    split at hk <;> try (simp at hk; done)
    rename_i v
    split at hk
    split at hk
    rename_i m rr aa
    have hm : m[c'.σ.f]? = some true := hs.mask
    have := allFrom_spec hk _ hm
    rw [hc, Nat.zero_add] at this
    have := vEq_spec _ _ this
    subst this
    exact ⟨_, rfl, popR_conc e i c' c⟩

/-! a function of the fork's rules and a number that answers a number -/
def numAt (t : Tm) (i : Nat) : Option Int := match t with
  | .lit n => some n
  | .tab l => lget l i
  | _ => none
theorem numAt_spec {t : Tm} {i : Nat} {n : Int} (h : numAt t i = some n) {σ : Env} (hf : σ.f = i) : t.eval σ = n := by
  subst hf
  unfold numAt at h
  split at h <;> try (simp at h; done)
  · injection h with h
  · rename_i l
    rw [lget_eq] at h
    rw [Tm.eval, List.getD_eq_getElem?_getD, h]; rfl
def asAt (i : Nat) (x : AS) : AS := match x with
  | .int k t => (match numAt t i with | some n => .int k (.lit n) | none => .int k t)
  | y => y
theorem asAt_conc {i : Nat} (x : AS) (hx : ∃ k t n, x = .int k t ∧ numAt t i = some n) {c c' : Cx} (hc : c'.σ.f = i) : x.conc c' = (asAt i x).conc c := by
  obtain ⟨k, t, n, rfl, h⟩ := hx
  simp only [asAt, h, AS.conc]
  rw [numAt_spec h hc]; rfl
/-- are they numbers that each fork has? -/
def tabOk (x : AS) : Bool := match x with
  | .int _ (.tab l) => Nat.beq (llen l) 16
  | .int _ (.lit _) => true
  | _ => false
theorem tabOk_spec {x : AS} (h : tabOk x = true) {i : Nat} (hi : i < 16) : ∃ k t n, x = .int k t ∧ numAt t i = some n := by
  unfold tabOk at h
  split at h <;> try (simp at h; done)
  · rename_i k l
    have hl := (natBeq_iff _ _).1 h
    rw [llen_eq] at hl
    refine ⟨k, .tab l, l[i], rfl, ?_⟩
    show lget l i = _
    rw [lget_eq]
    exact List.getElem?_eq_getElem (by omega)
  · exact ⟨_, _, _, rfl, rfl⟩
def u64N (n : Nat) : AV := .w (.s (.int .u64 (.lit (.ofNat n))))
def kBase (e : List Nat) : KC := fun q s => match q with
  | .val v => optB (asIntA v) fun p => ifB (kindEq p.1 .u64) (match s with | .mk _ _ φ => (match φ with | .mk m _ _ => allFrom m 0 fun i => optB (numAt p.2 i) fun n => optB (lget e i) fun r => intEq n (.ofNat r)))
  | .panic _ => false
def baseTab (rules : List AS) (t : Tree (List Nat)) : List AV → Option AV := fun args => match args with
  | [a, b] => optP (asAggA a) none fun l => optP (lget l 0) none fun x => optP (asI64 (.w (.s x))) none fun i => ckB (and2 (Nat.ble (Nat.succ i) 16) (wEq (.agg l) (.agg (lmap (asAt i) rules)))) none
      (optP (asI64 b) none fun op => optP (t.get (Nat.succ op)) none fun e => optP (lget e i) none fun r => some (u64N r))
  | _ => none
def baseRun (call : CallF) (f : Nat) (rules : List AS) : Nat → List Nat → Bool := fun m e => forceN (Nat.sub m 1) fun op => call f [.w (.agg rules), i64N op] sAll (kBase e)
theorem base_ok {P : Program} {call0 : CallF} (h0 : CallOk P call0) {f : Nat} {rules : List AS} {t : Tree (List Nat)} (hr : lall tabOk rules = true) (h : treeAll t (baseRun call0 f rules) = true) : XOk1 P f (xMemo (baseTab rules t)) := by
  have hrules := (lall_iff _ _).1 hr
  refine memoF_ok h0 fun args r hr => ?_
  unfold baseTab at hr
  split at hr <;> try (simp at hr; done)
  rename_i a b
  obtain ⟨l, h1, g1⟩ := optP_some hr
  obtain ⟨x, h2, g2⟩ := optP_some g1
  obtain ⟨i, h3, g3⟩ := optP_some g2
  obtain ⟨h4, g4⟩ := ckB_some g3
  obtain ⟨op, h5, g5⟩ := optP_some g4
  obtain ⟨e, h6, g6⟩ := optP_some g5
  obtain ⟨n, h7, g7⟩ := optP_some g6
  injection g7 with g7
  obtain ⟨h8, h9⟩ := and2_iff.1 h4
  have hi : i < 16 := (natBle_iff _ _).1 h8
  have hl := wEq_spec _ _ h9
  injection hl with hl
  have hrun := (treeAll_spec h).get (by omega) h6
  unfold baseRun at hrun
  rw [forceN_eq] at hrun
  have e1 : Nat.sub (Nat.succ op) 1 = op := rfl
  rw [e1] at hrun
  have ha : a = .w (.agg l) := by
    unfold asAggA at h1
    split at h1 <;> try (simp at h1; done)
    injection h1 with h1; subst h1; rfl
  rw [ha, asI64_spec h5, ← g7, hl]
  refine ⟨i, hi, _, _, hrun, ?_, fun c => trivial, ?_, ?_⟩
  · intro c v hv
    simp only [List.mem_cons, List.not_mem_nil, or_false] at hv
    rcases hv with rfl | rfl
    · intro y hy
      obtain ⟨k, t, n, rfl, _⟩ := tabOk_spec (hrules y hy) hi
      trivial
    · trivial
  · intro c c' hc
    have : rules.map (AS.conc c') = (lmap (asAt i) rules).map (AS.conc c) := by
      rw [lmap_eq, List.map_map]
      exact List.map_congr_left fun y hy => asAt_conc y (tabOk_spec (hrules y hy) hi) hc
    simp only [List.map_cons, List.map_nil, AV.conc, AW.conc, i64N, this]
    rfl
  · intro q s' hk c c' hs hc
    unfold kBase at hk
    split at hk <;> try (simp at hk; done)
    rename_i v
    obtain ⟨p, hp, hk1⟩ := optB_true hk
    obtain ⟨hq, hk2⟩ := ifB_true hk1
    have ev := asIntA_spec hp
    have ek := kindEq_eq hq
    split at hk2
    split at hk2
    rename_i m rr aa
    have hm : m[c'.σ.f]? = some true := hs.mask
    have := allFrom_spec hk2 _ hm
    rw [hc, Nat.zero_add] at this
    obtain ⟨n', hn, g1⟩ := optB_true this
    obtain ⟨r', hr', g2⟩ := optB_true g1
    have g2 := (intEq_iff _ _).1 g2
    rw [h7] at hr'
    injection hr' with hr'
    subst hr'
    refine ⟨v, rfl, ?_⟩
    rw [ev, ek]
    have := numAt_spec hn hc
    simp only [AV.conc, AW.conc, AS.conc, u64N, this, g2]
    rfl
end
end Go.Sy

/-! The symbolic executor, part Zg: small numbers, one by one. -/
namespace Go.Sy
set_option linter.unusedVariables false
set_option linter.unusedSectionVars false
noncomputable section

def upFrom (n : Nat) : Nat → List Int := Nat.rec (fun _ => []) (fun _ ih j => Int.ofNat j :: ih (Nat.add j 1)) n
/-- where a number below a small bound is cut -/
def splitN (i : Nat) : List Int := match Nat.ble i 1016 with
  | true => upFrom (Nat.sub i 1001) 0
  | false => []
def varOf (v : AV) : Option Nat := match v with | .w (.s (.int .i64 (.var i))) => some i | _ => none
theorem varOf_spec {v : AV} {i : Nat} (h : varOf v = some i) : v = .w (.s (.int .i64 (.var i))) := by
  unfold varOf at h
  split at h <;> try (simp at h; done)
  injection h with h; subst h; rfl
/-- what is known ahead of a number's range is kept -/
def keepR (φ ψ : Phi) (i : Nat) : Phi := match φ with
  | .mk m r a => (match r.get (Nat.succ i) with | some _ => .mk m r a | none => ψ)
theorem keepR_sat {σ : Env} {φ ψ : Phi} (h1 : Sat σ φ) (h2 : Sat σ ψ) (i : Nat) : Sat σ (keepR φ ψ i) := by
  unfold keepR
  split
  split
  · exact h1
  · exact h2
def xN (fn : AFunc) : CallY := fun call args s k => runF call fn args s fun r s => match r with
  | .val v => (match s with | .mk h nx φ => optB (convN v φ) fun p => optB (varOf p.1) fun i => cutsK i (splitN i) (keepR φ p.2 i) fun φ' => k (.val (vInt .i64 (sq φ' (.var i)))) ⟨h, nx, φ'⟩)
  | .panic v => k (.panic v) s
theorem xN_ok {P : Program} {T : TyT} (hT : TOk P T) (hm : P.follows .mixedOrders = true) {f : Nat} {fn : AFunc} (hf : ∃ func code hint, FnOk P T f fn func code hint) (call : CallF) (hcall : CallOk P call) : XOk1 P f (xN fn call) := by
  obtain ⟨func, code, hint, hf⟩ := hf
  intro args s k hk c w h hw
  refine .inl ⟨hf.call _ w, Calls.mono (runF_sound hT hcall hm hf hk h hw) fun e w' he => ?_⟩
  cases e with
  | returned u =>
    obtain ⟨c', v, s', e1, e2, e3, e4, e5⟩ := he
    obtain ⟨hh, nx, φ⟩ := s'
    obtain ⟨p, hp, e6⟩ := optB_true (show optB (convN v φ) _ = true from e5)
    obtain ⟨i, hi, e7⟩ := optB_true e6
    obtain ⟨g1, g2, g3⟩ := convN_ok v φ p hp c' e4.sat
    obtain ⟨φ', hs', e8⟩ := cutsK_spec i _ (keepR_sat e4.sat g3 i) e7
    have ep := varOf_spec hi
    refine ⟨c', .w (.s (.int .i64 (sq φ' (.var i)))), ⟨hh, nx, φ'⟩, ?_, trivial, ⟨e3.ext, e3.nx, e3.os, e3.tape, e3.output, e3.size, e3.frame, e3.anew⟩, e4.facts hs', e8⟩
    rw [e1, ← g1, ep]
    show Value.int .i64 ((Tm.var i).eval c'.σ) = Value.int .i64 ((sq φ' (.var i)).eval c'.σ)
    rw [sq_spec hs']
  | panicked ch =>
    obtain ⟨c', v, s', e1, e2, e3, e4, e5⟩ := he
    exact ⟨c', v, s', e1, e2, e3, e4, e5⟩
  | outgrown => exact he.elim

/-- a fork, and a number that is cut to a size below n, known -/
def phiAt (m : List Bool) (i k : Nat) : Phi := setRng (phiSmall m) i (.ofNat k) (.ofNat k)
/-- A law over a small input, run fork by fork and number by number. -/
theorem law_small_at {P : Program} {call : CallF} (hcall : CallOk P call) {f : Nat} (hc : ∀ args w, (callFunc f args).run P w = .ok (.enter f args) w) (n : Nat) (hn : 0 < n)
    (hrun : ∀ i, i < 16 → ∀ k, k < n → call f [argSmall] ⟨.leaf, 0, phiAt (maskOf i) (1000 + n) k⟩ kTrue = true)
    (x : Nat → Int) (o : Value) (ho : o.oneCell' = true) (h0 : inI64 (x 0)) (h1 : inI64 (x 1)) (h2 : inU64 (x 2)) (h3 : inU64 (x 3)) (h4 : inU64 (x 4)) (h5 : inU64 (x 5)) (h6 : inU64 (x 6)) (h7 : inU64 (x 7)) (h8 : inU64 (x 8)) (h9 : inU64 (x 9)) (w : World) :
    Calls P f #[.agg #[.int .i64 (x 0), .int .i64 (x 1), .int .u64 (x 2), .int .u64 (x 3), .int .u64 (x 4), .int .u64 (x 5), .int .u64 (x 6), .int .u64 (x 7), .int .u64 (x 8), .int .u64 (x 9), o]] w fun e w' => e = .returned (.bool true) ∧ Go.RowKit.Below w.heap.size w w' := by
  have hs : Sat (envOf x o ho) (phiSmall (maskOf (forkOf (x 0)))) := phiSmall_sat (maskOf_at _ (forkOf_lt _)) h0 h1 h2 h3 h4 h5 h6 h7 h8 h9
  have hv : (envOf x o ho).v (1000 + n) = cutN (x 1) n := by
    show (if 1000 + n < 1000 then x (1000 + n) else cutN (x 1) (1000 + n - 1000)) = _
    rw [if_neg (by omega), show 1000 + n - 1000 = n by omega]
  have hr : 0 ≤ cutN (x 1) n ∧ cutN (x 1) n ≤ (n : Int) - 1 := cut_range (x 1) n hn
  have hk : (cutN (x 1) n).toNat < n := by omega
  have hs' : Sat (envOf x o ho) (phiAt (maskOf (forkOf (x 0))) (1000 + n) (cutN (x 1) n).toNat) := by
    refine setRng_sat hs ?_
    rw [hv]
    simp only [Int.ofNat_eq_natCast]
    omega
  have := says_of_run hcall (hrun _ (forkOf_lt (x 0)) _ hk) hs' (by
    intro c v hv
    rcases List.mem_cons.1 hv with rfl | hv
    · intro y hy
      simp only [List.mem_cons, List.not_mem_nil, or_false] at hy
      rcases hy with rfl | rfl | rfl | rfl | rfl | rfl | rfl | rfl | rfl | rfl | rfl <;> trivial
    · cases hv) w
  exact this.calls (hc _ _)
end
end Go.Sy

