/- The symbolic executor: parts Uc, Ud, Ue, Uf, Ug, U, V, W. Sound by one theorem (callA_ok). No condition. -/
import Derived.Test.YtcpeflfonacdgaaGreatSy3
set_option linter.unusedVariables false
set_option linter.unusedSimpArgs false
set_option linter.unusedSectionVars false
/-! The symbolic executor, part Uc: a drawn region's run, in whatever order: what holds at each point. -/
namespace Go.Sy
set_option linter.unusedVariables false
set_option linter.unusedSectionVars false
noncomputable section

structure HI where
  it : DIt
  t : Tmps
  v : AV
def tmAt (t0 : Tmps) (h : List HI) : Tmps := h.foldl (fun t x => putA x.it.op.dst x.v t) t0
theorem tmAt_snoc (t0 : Tmps) (h : List HI) (x : HI) : tmAt t0 (h ++ [x]) = putA x.it.op.dst x.v (tmAt t0 h) := by simp [tmAt]
theorem putA_get (dst : Option Nat) (v : AV) (t : Tmps) (m : Nat) : (putA dst v t).get (Nat.succ m) = if dst = some m then some v else t.get (Nat.succ m) := by
  cases dst with
  | none => simp [putA]
  | some d =>
    simp only [putA]
    rw [Tree.get_set _ _ _ _ (by omega) (by omega)]
    by_cases h : d = m
    · subst h; simp
    · rw [if_neg (by omega), if_neg (by simpa using h)]
theorem tmAt_get : ∀ (h : List HI) (t0 : Tmps) {m : Nat} {v : AV}, (tmAt t0 h).get (Nat.succ m) = some v → (∃ z ∈ h, z.it.op.dst = some m ∧ v = z.v) ∨ (t0.get (Nat.succ m) = some v ∧ ∀ z ∈ h, z.it.op.dst ≠ some m) := by
  intro h
  induction h with
  | nil => intro t0 m v hv; exact .inr ⟨hv, by simp⟩
  | cons x h ih =>
    intro t0 m v hv
    have hv : (tmAt (putA x.it.op.dst x.v t0) h).get (Nat.succ m) = some v := hv
    rcases ih _ hv with ⟨z, hz, h1, h2⟩ | ⟨h1, h2⟩
    · exact .inl ⟨z, List.mem_cons_of_mem _ hz, h1, h2⟩
    · rw [putA_get] at h1
      split at h1
      · rename_i e
        injection h1 with h1; subst h1
        exact .inl ⟨x, List.mem_cons_self .., e, rfl⟩
      · rename_i e
        refine .inr ⟨h1, fun z hz => ?_⟩
        rcases List.mem_cons.1 hz with rfl | hz
        · exact e
        · exact h2 z hz

def GuardV (g : Option (Nat × Bool)) (t : Tmps) (b : Bool) : Prop := match g with
  | none => b = true
  | some p => ∃ v x, t.get (Nat.succ p.1) = some v ∧ asBoolA v = some x ∧ b = boolEq x p.2
theorem guardE_spec {g : Option (Nat × Bool)} {t : Tmps} {k : Bool → Bool} (h : guardE g t k = true) : ∃ b, GuardV g t b ∧ k b = true := by
  cases g with
  | none => exact ⟨true, rfl, h⟩
  | some p =>
    obtain ⟨v, hv, h1⟩ := optB_true (show optB (t.get (Nat.succ p.1)) _ = true from h)
    obtain ⟨x, hx, h2⟩ := optB_true h1
    exact ⟨_, ⟨v, x, hv, hx, rfl⟩, h2⟩

/-- some slots of a row -/
def restr (t : Tmps) (l : List Nat) : Tmps := l.foldr (fun m r => match t.get (Nat.succ m) with | some v => r.set (some v) (Nat.succ m) | none => r) .leaf
theorem restr_get (t : Tmps) : ∀ (l : List Nat) (m : Nat), (restr t l).get (Nat.succ m) = if m ∈ l then t.get (Nat.succ m) else none := by
  intro l
  induction l with
  | nil => intro m; simp [restr, Tree.get_leaf]
  | cons x l ih =>
    intro m
    have e : restr t (x :: l) = match t.get (Nat.succ x) with | some v => (restr t l).set (some v) (Nat.succ x) | none => restr t l := rfl
    rw [e]
    cases hx : t.get (Nat.succ x) with
    | none =>
      simp only []
      rw [ih]
      by_cases h : m = x
      · subst h; simp [hx]
      · simp [h]
    | some v =>
      simp only []
      rw [Tree.get_set _ _ _ _ (by omega) (by omega)]
      by_cases h : m = x
      · subst h; simp [hx]
      · rw [if_neg (by omega), ih]; simp [h]
theorem restr_agree (t : Tmps) (l : List Nat) : Agree t (restr t l) l := fun n hn => by rw [restr_get, if_pos hn]

/-- what is known of an operation that was worked out -/
def EvI (c0 : Cx) (base : Nat) (s : S) (pr : List PR) (pm : List PM) (L : Nat → Prop) (x : HI) : Prop := match x.it.op.op with
  | .p o => ∃ φ, Sat c0.σ φ ∧ pureOp φ x.t o = some x.v
  | .r o => L x.it.i ∨ (⟨x.it.i, o, x.t, x.v⟩ : PR) ∈ pr
  | .m o => L x.it.i ∨ ∃ ob, makeOp x.t (base + x.it.off) o = some (ob, x.v) ∧ (⟨x.it.i, base + x.it.off, ob⟩ : PM) ∈ pm ∧ lall (slotIn (base + x.it.off) x.t) (usesM o) = true
  | .b _ => True

structure DK where
  call : CallF
  plan : List DIt
  base : Nat
  k : KX
  c0 : Cx
  s0 : S
  w0 : World
  t0 : Tmps
  d : List Deferred
  n : Nat

structure Inv (D : DK) (pre suf : List DIt) (hist : List HI) (t : Tmps) (s : S) (pr : List PR) (pm : List PM) (N : Nat) (L : Nat → Prop) (c : Cx) (a : Act) (w : World) : Prop where
  plan : D.plan = pre ++ suf
  its : hist.map (·.it) = pre
  run : drawL D.call D.base D.k suf t s pr pm = true
  step : Step D.c0 c D.s0 s D.w0 w
  rel : Rel c s w
  nxN : s.nx ≤ N
  inPre : ∀ y ∈ D.plan, L y.i → y ∈ pre
  bars : ∀ y ∈ pre, isB y.op.op = true → L y.i
  closed : ∀ y ∈ D.plan, L y.i → ∀ k, Nat.testBit y.anc k = true → L k
  t0wf : ∀ m v, D.t0.get (Nat.succ m) = some v → v.wf D.c0 D.s0.nx
  tEq : t = tmAt D.t0 hist
  tAt : ∀ h1 x h2, hist = h1 ++ x :: h2 → x.t = tmAt D.t0 h1
  tm1 : ∀ x ∈ hist, ∀ m, x.it.op.dst = some m → L x.it.i → a.tmps.getD m undef = x.v.conc c
  tm2 : ∀ m v, D.t0.get (Nat.succ m) = some v → (∀ x ∈ hist, x.it.op.dst = some m → ¬ L x.it.i) → a.tmps.getD m undef = v.conc c
  vwf : ∀ x ∈ hist, L x.it.i → x.v.wf c N
  vin : ∀ x ∈ hist, InV (fun id => id < s.nx ∨ ∃ p ∈ pm, p.id = id ∧ (Nat.testBit x.it.anc p.i = true ∨ p.i = x.it.i)) x.v
  ev : ∀ x ∈ hist, ∃ b, GuardV x.it.op.guard x.t b ∧ (b = false → x.v = .undef) ∧ (b = true → EvI D.c0 D.base s pr pm L x)
  prok : ∀ e ∈ pr, readOp e.t s e.o = some e.v
  pmid : ∀ p ∈ pm, s.nx ≤ p.id ∧ p.id < N
  pmd : ∀ p ∈ pm, ∀ q ∈ pm, p.id = q.id → p = q
  pmn : pm.Pairwise fun p q => p.id ≠ q.id
  pmx : ∀ p ∈ pm, ∃ x ∈ hist, x.it.i = p.i ∧ (∃ o, x.it.op.op = .m o) ∧ GuardV x.it.op.guard x.t true
  pmu : ∀ p ∈ pm, ∀ q ∈ pm, p.i = q.i → p = q
  pmin : ∀ p ∈ pm, InO (fun id => id < s.nx ∨ ∃ q ∈ pm, q.id = id ∧ ∃ y ∈ pre, y.i = p.i ∧ Nat.testBit y.anc q.i = true) p.ob
  pmb : ∀ p ∈ pm, L p.i → D.w0.heap.size ≤ c.ι p.id ∧ c.ι p.id < w.heap.size ∧ ObjRel c p.id p.ob (w.heap[c.ι p.id]?) ∧ (∀ id o, s.at id = some o → c.ι id ≠ c.ι p.id) ∧ p.ob.wf c N
  pmj : ∀ p ∈ pm, ∀ q ∈ pm, L p.i → L q.i → p.id ≠ q.id → c.ι p.id ≠ c.ι q.id
  defs : a.defers = D.d
  size : a.tmps.size = D.n

section
variable {P : Program} {T : TyT} {ops : Array Oper} {D : DK} {pre suf : List DIt} {hist : List HI} {t : Tmps} {s : S} {pr : List PR} {pm : List PM} {N : Nat} {L : Nat → Prop} {c : Cx} {a : Act} {w : World}

theorem pair_split {plan : List DIt} (hp : plan.Pairwise fun x y => okPair x y = true) {a b : List DIt} (e : plan = a ++ b) {x y : DIt} (hx : x ∈ a) (hy : y ∈ b) : okPair x y = true := by
  subst e
  exact (List.pairwise_append.1 hp).2.2 x hx y hy
/-- operations of one number are one -/
theorem plan_inj {plan : List DIt} (hp : plan.Pairwise fun x y => okPair x y = true) {x y : DIt} (hx : x ∈ plan) (hy : y ∈ plan) (e : x.i = y.i) : x = y := by
  induction plan with
  | nil => cases hx
  | cons z l ih =>
    rw [List.pairwise_cons] at hp
    rcases List.mem_cons.1 hx with hx1 | hx1 <;> rcases List.mem_cons.1 hy with hy1 | hy1
    · rw [hx1, hy1]
    · rw [hx1] at e; exact absurd e (okPair_ne (hp.1 y hy1))
    · rw [hy1] at e; exact absurd e.symm (okPair_ne (hp.1 x hx1))
    · exact ih hp.2 hx1 hy1

theorem Inv.mem (I : Inv D pre suf hist t s pr pm N L c a w) {x : HI} (hx : x ∈ hist) : x.it ∈ D.plan := by
  rw [I.plan, ← I.its]
  exact List.mem_append_left _ (List.mem_map_of_mem hx)
theorem Inv.σ (I : Inv D pre suf hist t s pr pm N L c a w) : c.σ = D.c0.σ := I.step.ext.σ

/-- names that are read now -/
def Alw (s : S) (pm : List PM) (L : Nat → Prop) (id : Nat) : Prop := id < s.nx ∨ ∃ p ∈ pm, p.id = id ∧ L p.i
theorem Inv.alw (I : Inv D pre suf hist t s pr pm N L c a w) {x : HI} (hx : x ∈ hist) (hl : L x.it.i) : InV (Alw s pm L) x.v :=
  InV.mono (fun id h => by
    rcases h with h | ⟨p, hp, he, h⟩
    · exact .inl h
    · refine .inr ⟨p, hp, he, ?_⟩
      rcases h with h | h
      · exact I.closed _ (I.mem hx) hl _ h
      · rw [h]; exact hl) (I.vin x hx)

/-- what an operation that is next in no matter what order sees in its slots -/
theorem Inv.slot (hP : PlanOk T ops D.n D.plan) (I : Inv D pre suf hist t s pr pm N L c a w) {y : DIt} {h1 h2 : List HI} (he : hist = h1 ++ h2) (hy : y ∈ D.plan) (hl : ¬ L y.i) (hanc : ∀ k, Nat.testBit y.anc k = true → L k)
    (hb : ∀ z ∈ h1, okPair z.it y = true) (hf : ∀ z ∈ h2, z.it = y ∨ okPair y z.it = true) {m : Nat} (hm : m ∈ y.op.uses) {v : AV} (hv : (tmAt D.t0 h1).get (Nat.succ m) = some v) :
    a.tmps.getD m undef = v.conc c ∧ v.wf c N ∧ InV (Alw s pm L) v := by
  rcases tmAt_get h1 D.t0 hv with ⟨z, hz, hd, rfl⟩ | ⟨h0, hno⟩
  · have hzh : z ∈ hist := by rw [he]; exact List.mem_append_left _ hz
    have hzl : L z.it.i := by
      rcases okPair_or (hb z hz) with h | ⟨h, _, _⟩
      · exact hanc _ h
      · exact absurd hm (h m hd)
    exact ⟨I.tm1 z hzh m hd hzl, I.vwf z hzh hzl, I.alw hzh hzl⟩
  · have hw0 := I.t0wf m v h0
    have hw : v.wf c s.nx := AV.wf_ext I.step.ext I.step.nx hw0
    refine ⟨I.tm2 m v h0 ?_, AV.wf_mono hw I.nxN, InV.mono (fun id h => .inl h) hw.names⟩
    intro x hx hd hxl
    rw [he] at hx
    rcases List.mem_append.1 hx with hx | hx
    · exact hno x hx hd
    · rcases hf x hx with e | hp
      · rw [e] at hxl; exact hl hxl
      · rcases okPair_or hp with h | ⟨_, h, _⟩
        · exact hl (I.closed _ (I.mem (by rw [he]; exact List.mem_append_right _ hx)) hxl _ h)
        · exact h m hd hm

theorem uses_sub {o : AOper} {m : Nat} (h : m ∈ uses o.op) : m ∈ o.uses := by
  unfold AOper.uses
  cases o.guard with
  | none => exact h
  | some p => exact List.mem_cons_of_mem _ h

/-- is an operation wanted: as it was worked out -/
theorem wanted_of {n : Nat} {o : Oper} {ao : AOper} (h : compOper T ops n o = some ao) {t : Tmps} {b : Bool} (hg : GuardV ao.guard t b) (hdst : ∀ (j d : Nat), (ops[j]?).bind (·.dst) = some d → d < a.tmps.size)
    (hv : ∀ m ∈ ao.uses, ∀ v, t.get (Nat.succ m) = some v → a.tmps.getD m undef = v.conc c) : Region.wanted o (yielded ops a.tmps) = b := by
  obtain ⟨_, _, _, hg'⟩ := compOper_some h
  rcases hg' with ⟨h1, h2⟩ | ⟨j, want, d, h1, h2, h3⟩
  · rw [h2] at hg
    have : b = true := hg
    subst this
    simp [Region.wanted, h1]
  · rw [h3] at hg
    obtain ⟨v, x, g1, g2, g3⟩ := hg
    have e := asBoolA_spec g2
    subst e
    have hd' := hv d (by simp [AOper.uses, h3]) _ g1
    have hd' : a.tmps.getD d undef = .bool x := hd'
    have hl := hdst j d h2
    have e2 : a.tmps[d]? = some (.bool x) := by
      rw [Array.getD_eq_getD_getElem?] at hd'
      cases hx : a.tmps[d]? with
      | none => exact absurd (Array.getElem?_eq_none_iff.1 hx) (Nat.not_le.2 hl)
      | some y => rw [hx] at hd'; exact congrArg some hd'
    have e1 : yielded ops a.tmps j = some x := by
      unfold yielded
      rw [h2]
      simp [e2]
    rw [g3]
    simp only [Region.wanted, h1, e1]
    cases x <;> cases want <;> rfl
end
end
end Go.Sy

/-! The symbolic executor, part Ud: a drawn region's run: what does not write is worked out ahead. -/
namespace Go.Sy
set_option linter.unusedVariables false
set_option linter.unusedSectionVars false

section
variable {P : Program} {T : TyT} {ops : Array Oper} {D : DK} {pre suf : List DIt} {hist : List HI} {t : Tmps} {s : S} {pr : List PR} {pm : List PM} {N : Nat} {L : Nat → Prop} {c : Cx} {a : Act} {w : World}

theorem snoc_split {α : Type} {h : List α} {x : α} {h1 h2 : List α} {z : α} (e : h ++ [x] = h1 ++ z :: h2) : (h = h1 ∧ x = z ∧ h2 = []) ∨ ∃ h2', h2 = h2' ++ [x] ∧ h = h1 ++ z :: h2' := by
  rcases List.eq_nil_or_concat h2 with rfl | ⟨h2', l, rfl⟩
  · have := List.append_inj' e rfl
    simp at this
    exact .inl ⟨this.1, this.2, rfl⟩
  · have e' : h ++ [x] = (h1 ++ z :: h2') ++ [l] := by simpa using e
    have := List.append_inj' e' rfl
    simp at this
    exact .inr ⟨h2', by rw [this.2]; simp, this.1⟩

theorem EvI.mono {c0 : Cx} {base : Nat} {pr' : List PR} {pm' : List PM} {x : HI} (h : EvI c0 base s pr pm L x) (h1 : ∀ e ∈ pr, e ∈ pr') (h2 : ∀ e ∈ pm, e ∈ pm') : EvI c0 base s pr' pm' L x := by
  unfold EvI at h ⊢
  split at h <;> rename_i o ho
  · exact h
  · exact h.imp id (h1 _)
  · rcases h with h | ⟨ob, g1, g2, g3⟩
    · exact .inl h
    · exact .inr ⟨ob, g1, h2 _ g2, g3⟩
  · trivial

theorem Inv.out (hP : PlanOk T ops D.n D.plan) {y : DIt} (I : Inv D pre (y :: suf) hist t s pr pm N L c a w) : ¬ L y.i := by
  intro hl
  have hm : y ∈ D.plan := by rw [I.plan]; simp
  have h1 := I.inPre y hm hl
  exact okPair_ne (pair_split hP.pair I.plan h1 (List.mem_cons_self ..)) rfl

/-- one more operation is worked out -/
theorem Inv.grow (hP : PlanOk T ops D.n D.plan) {y : DIt} (I : Inv D pre (y :: suf) hist t s pr pm N L c a w) (hb : isB y.op.op = false) {v : AV} {pr' : List PR} {pm' : List PM} {N' : Nat}
    (hrun : drawL D.call D.base D.k suf (putA y.op.dst v t) s pr' pm' = true) (hN : N ≤ N') (hpr : ∀ e ∈ pr, e ∈ pr') (hprok : ∀ e ∈ pr', readOp e.t s e.o = some e.v)
    (hpm : pm' = pm ∨ ∃ id ob, pm' = pm ++ [⟨y.i, id, ob⟩] ∧ s.nx ≤ id ∧ id < N' ∧ (∀ q ∈ pm, q.id ≠ id) ∧ InO (fun i => i < s.nx ∨ ∃ q ∈ pm, q.id = i ∧ Nat.testBit y.anc q.i = true) ob ∧ (∃ o, y.op.op = .m o) ∧ GuardV y.op.guard t true)
    (hvin : InV (fun id => id < s.nx ∨ ∃ p ∈ pm', p.id = id ∧ (Nat.testBit y.anc p.i = true ∨ p.i = y.i)) v)
    (hev : ∃ b, GuardV y.op.guard t b ∧ (b = false → v = .undef) ∧ (b = true → EvI D.c0 D.base s pr' pm' L ⟨y, t, v⟩)) :
    Inv D (pre ++ [y]) suf (hist ++ [⟨y, t, v⟩]) (putA y.op.dst v t) s pr' pm' N' L c a w := by
  have hly := I.out hP
  have hsub : ∀ p ∈ pm, p ∈ pm' := by
    rcases hpm with rfl | ⟨id, ob, rfl, _⟩
    · exact fun p h => h
    · exact fun p h => List.mem_append_left _ h
  have hold : ∀ p ∈ pm', L p.i → p ∈ pm := by
    intro p hp hl
    rcases hpm with rfl | ⟨id, ob, rfl, _⟩
    · exact hp
    · rcases List.mem_append.1 hp with hp | hp
      · exact hp
      · simp at hp; subst hp; exact absurd hl hly
  constructor
  · rw [I.plan]; simp
  · simp [I.its]
  · exact hrun
  · exact I.step
  · exact I.rel
  · exact Nat.le_trans I.nxN hN
  · exact fun z hz hl => List.mem_append_left _ (I.inPre z hz hl)
  · intro z hz hzb
    rcases List.mem_append.1 hz with hz | hz
    · exact I.bars z hz hzb
    · simp at hz; subst hz; rw [hb] at hzb; cases hzb
  · exact I.closed
  · exact I.t0wf
  · rw [tmAt_snoc, ← I.tEq]
  · intro h1 x h2 e
    rcases snoc_split e with ⟨rfl, rfl, _⟩ | ⟨h2', _, e'⟩
    · exact I.tEq
    · exact I.tAt h1 x h2' e'
  · intro x hx m hd hl
    rcases List.mem_append.1 hx with hx | hx
    · exact I.tm1 x hx m hd hl
    · simp at hx; subst hx; exact absurd hl hly
  · exact fun m v hv h => I.tm2 m v hv fun x hx => h x (List.mem_append_left _ hx)
  · intro x hx hl
    rcases List.mem_append.1 hx with hx | hx
    · exact AV.wf_mono (I.vwf x hx hl) hN
    · simp at hx; subst hx; exact absurd hl hly
  · intro x hx
    rcases List.mem_append.1 hx with hx | hx
    · exact InV.mono (fun _ h => h.imp (fun h => h) fun ⟨p, hp, h⟩ => ⟨p, hsub p hp, h⟩) (I.vin x hx)
    · simp at hx; subst hx; exact hvin
  · intro x hx
    rcases List.mem_append.1 hx with hx | hx
    · obtain ⟨b, g1, g2, g3⟩ := I.ev x hx
      exact ⟨b, g1, g2, fun h => (g3 h).mono hpr hsub⟩
    · simp at hx; subst hx; exact hev
  · exact hprok
  · intro p hp
    rcases hpm with rfl | ⟨id, ob, rfl, h1, h2, h3, h4, h5, h6⟩
    · exact ⟨(I.pmid p hp).1, Nat.lt_of_lt_of_le (I.pmid p hp).2 hN⟩
    · rcases List.mem_append.1 hp with hp | hp
      · exact ⟨(I.pmid p hp).1, Nat.lt_of_lt_of_le (I.pmid p hp).2 hN⟩
      · simp at hp; subst hp; exact ⟨h1, h2⟩
  · intro p hp q hq e
    rcases hpm with rfl | ⟨id, ob, rfl, h1, h2, h3, h4, h5, h6⟩
    · exact I.pmd p hp q hq e
    · rcases List.mem_append.1 hp with hp | hp <;> rcases List.mem_append.1 hq with hq | hq
      · exact I.pmd p hp q hq e
      · simp at hq; subst hq; exact absurd e (h3 p hp)
      · simp at hp; subst hp; exact absurd e.symm (h3 q hq)
      · simp at hp hq; rw [hp, hq]
  · rcases hpm with rfl | ⟨id, ob, rfl, h1, h2, h3, h4, h5, h6⟩
    · exact I.pmn
    · refine List.pairwise_append.2 ⟨I.pmn, by simp, fun p hp q hq => ?_⟩
      simp at hq; subst hq; exact h3 p hp
  · intro p hp
    rcases hpm with rfl | ⟨id, ob, rfl, h1, h2, h3, h4, h5, h6⟩
    · obtain ⟨z, hz, e⟩ := I.pmx p hp
      exact ⟨z, List.mem_append_left _ hz, e⟩
    · rcases List.mem_append.1 hp with hp | hp
      · obtain ⟨z, hz, e⟩ := I.pmx p hp
        exact ⟨z, List.mem_append_left _ hz, e⟩
      · simp at hp; subst hp; exact ⟨⟨y, t, v⟩, by simp, rfl, h5, h6⟩
  · intro p hp q hq e
    have hno : ∀ q ∈ pm, q.i ≠ y.i := by
      intro q hq e
      obtain ⟨z, hz, e1, _⟩ := I.pmx q hq
      have hz' : z.it ∈ pre := by rw [← I.its]; exact List.mem_map_of_mem hz
      exact okPair_ne (pair_split hP.pair I.plan hz' (List.mem_cons_self ..)) (e1.trans e)
    rcases hpm with rfl | ⟨id, ob, rfl, h1, h2, h3, h4, h5, h6⟩
    · exact I.pmu p hp q hq e
    · rcases List.mem_append.1 hp with hp | hp <;> rcases List.mem_append.1 hq with hq | hq
      · exact I.pmu p hp q hq e
      · simp at hq; subst hq; exact absurd e (hno p hp)
      · simp at hp; subst hp; exact absurd e.symm (hno q hq)
      · simp at hp hq; rw [hp, hq]
  · intro p hp
    have old : p ∈ pm → InO (fun id => id < s.nx ∨ ∃ q ∈ pm', q.id = id ∧ ∃ z ∈ pre ++ [y], z.i = p.i ∧ Nat.testBit z.anc q.i = true) p.ob := fun hp =>
      InO.mono (fun id h => h.imp (fun h => h) fun ⟨q, hq, e, z, hz, h⟩ => ⟨q, hsub q hq, e, z, List.mem_append_left _ hz, h⟩) (I.pmin p hp)
    rcases hpm with rfl | ⟨id, ob, rfl, h1, h2, h3, h4, h5, h6⟩
    · exact old hp
    · rcases List.mem_append.1 hp with hp | hp
      · exact old hp
      · simp at hp; subst hp
        exact InO.mono (fun id h => h.imp (fun h => h) fun ⟨q, hq, e, h⟩ => ⟨q, hsub q hq, e, y, by simp, rfl, h⟩) h4
  · intro p hp hl
    obtain ⟨g1, g2, g3, g4, g5⟩ := I.pmb p (hold p hp hl) hl
    exact ⟨g1, g2, g3, g4, AObj.wf_mono g5 hN⟩
  · exact fun p hp q hq h1 h2 => I.pmj p (hold p hp h1) q (hold q hq h2) h1 h2
  · exact I.defs
  · exact I.size

theorem okId_spec {nx anc : Nat} {pm : List PM} {id : Nat} (h : okId nx anc pm id = true) : id < nx ∨ ∃ p ∈ pm, p.id = id ∧ Nat.testBit anc p.i = true := by
  unfold okId at h
  split at h
  · rename_i hb; exact .inl ((natBle_iff _ _).1 hb)
  · obtain ⟨p, hp, h⟩ := (lanyM_iff _ _).1 h
    obtain ⟨h1, h2⟩ := and2_iff.1 h
    exact .inr ⟨p, hp, (natBeq_iff _ _).1 h1, h2⟩
theorem okId1_spec {nx anc me : Nat} {pm : List PM} {id : Nat} (h : okId1 nx anc me pm id = true) : id < nx ∨ (∃ p ∈ pm, p.id = id ∧ Nat.testBit anc p.i = true) ∨ id = me := by
  unfold okId1 at h
  split at h
  · rename_i hb; exact (okId_spec hb).imp (fun h => h) .inl
  · exact .inr (.inr ((natBeq_iff _ _).1 h))

theorem drawI_eq (call : CallF) (base i anc off : Nat) (dst : Option Nat) (o : AOp) (g : Option (Nat × Bool)) (t : Tmps) (s : S) (pr : List PR) (pm : List PM) (k : KX) (ih : KD) :
    drawI call base ⟨i, ⟨dst, o, g⟩, anc, off⟩ t s pr pm k ih = guardE g t fun b => match b with
      | false => putK dst .undef t fun t => ih t s pr pm
      | true => (match o with
        | .p o => drawP o dst anc t s pr pm ih
        | .r o => drawR i o dst anc t s pr pm ih
        | .m o => forceN (Nat.add base off) fun id => drawM i id o dst anc t s pr pm ih
        | .b o => drawB call o dst anc t s pr pm k ih) := rfl

theorem Inv.advance1 (hP : PlanOk T ops D.n D.plan) {y : DIt} (I : Inv D pre (y :: suf) hist t s pr pm N L c a w) (hb : isB y.op.op = false) :
    ∃ hist' t' pr' pm' N', Inv D (pre ++ [y]) suf hist' t' s pr' pm' N' L c a w := by
  obtain ⟨i, ⟨dst, op, g⟩, anc, off⟩ := y
  have hk := I.run
  rw [drawL_cons] at hk
  rw [drawI_eq] at hk
  obtain ⟨b, hg, hk1⟩ := guardE_spec hk
  have σe := I.σ
  obtain ⟨hh, nx, φ⟩ := s
  have hsat : Sat D.c0.σ φ := by rw [← σe]; exact I.rel.sat
  cases b with
  | false =>
    have hk2 : putK dst .undef t (fun t => drawL D.call D.base D.k suf t ⟨hh, nx, φ⟩ pr pm) = true := hk1
    rw [putK_eq] at hk2
    exact ⟨_, _, pr, pm, N, I.grow hP hb hk2 (Nat.le_refl _) (fun _ h => h) I.prok (.inl rfl) trivial ⟨false, hg, fun _ => rfl, fun h => by cases h⟩⟩
  | true =>
    cases op with
    | p o =>
      obtain ⟨v, hv, hk2⟩ := optB_true (show optB (pureOp φ t o) _ = true from hk1)
      obtain ⟨hin, hk3⟩ := ifB_true hk2
      rw [putK_eq] at hk3
      exact ⟨_, _, pr, pm, N, I.grow hP hb hk3 (Nat.le_refl _) (fun _ h => h) I.prok (.inl rfl) (InV.mono (fun id h => (okId_spec h).imp (fun h => h) fun ⟨p, hp, e, h⟩ => ⟨p, hp, e, .inl h⟩) (inV_spec hin))
        ⟨true, hg, fun h => (by cases h), fun _ => ⟨φ, hsat, hv⟩⟩⟩
    | r o =>
      obtain ⟨v, hv, hk2⟩ := optB_true (show optB (readOp t ⟨hh, nx, φ⟩ o) _ = true from hk1)
      obtain ⟨hin, hk3⟩ := ifB_true hk2
      rw [forceV_eq, putK_eq] at hk3
      refine ⟨_, _, ⟨i, o, t, v⟩ :: pr, pm, N, I.grow hP hb hk3 (Nat.le_refl _) (fun _ h => List.mem_cons_of_mem _ h) ?_ (.inl rfl) (InV.mono (fun id h => (okId_spec h).imp (fun h => h) fun ⟨p, hp, e, h⟩ => ⟨p, hp, e, .inl h⟩) (inV_spec hin))
        ⟨true, hg, fun h => (by cases h), fun _ => .inr (List.mem_cons_self ..)⟩⟩
      intro e he
      rcases List.mem_cons.1 he with rfl | he
      · exact hv
      · exact I.prok e he
    | m o =>
      have hk2 : forceN (Nat.add D.base off) (fun id => drawM i id o dst anc t ⟨hh, nx, φ⟩ pr pm (drawL D.call D.base D.k suf)) = true := hk1
      rw [forceN_eq] at hk2
      have hk2 : drawM i (D.base + off) o dst anc t ⟨hh, nx, φ⟩ pr pm (drawL D.call D.base D.k suf) = true := hk2
      obtain ⟨h1, hk3⟩ := ifB_true (show ifB _ _ = true from hk2)
      obtain ⟨h1, h2⟩ := and2_iff.1 h1
      have h1 := (natBle_iff _ _).1 h1
      have h2 := (lall_iff _ _).1 h2
      obtain ⟨⟨ob, v⟩, hv, hk4⟩ := optB_true hk3
      obtain ⟨h3, hk5⟩ := ifB_true hk4
      obtain ⟨h3, h4⟩ := and2_iff.1 h3
      obtain ⟨h4, h5⟩ := and2_iff.1 h4
      rw [forceO_eq, putK_eq, lapp_eq] at hk5
      have hne : ∀ q ∈ pm, q.id ≠ D.base + off := by
        intro q hq e
        have := h2 q hq
        rw [(natBeq_iff _ _).2 e] at this
        cases this
      refine ⟨_, _, pr, pm ++ [⟨i, D.base + off, ob⟩], max N (D.base + off + 1), I.grow hP hb hk5 (Nat.le_max_left _ _) (fun _ h => h) I.prok (.inr ⟨D.base + off, ob, rfl, h1, ?_, hne, ?_, ⟨o, rfl⟩, hg⟩) ?_
        ⟨true, hg, fun h => (by cases h), fun _ => .inr ⟨ob, hv, by simp, h3⟩⟩⟩
      · exact Nat.lt_of_lt_of_le (Nat.lt_succ_self _) (Nat.le_max_right _ _)
      · exact InO.mono (fun id h => okId_spec h) (inO_spec h5)
      · refine InV.mono (fun id h => ?_) (inV_spec h4)
        rcases okId1_spec h with h | ⟨p, hp, e, h⟩ | h
        · exact .inl h
        · exact .inr ⟨p, List.mem_append_left _ hp, e, .inl h⟩
        · exact .inr ⟨_, List.mem_append_right _ (List.mem_singleton.2 rfl), h.symm, .inr rfl⟩
    | b o => cases hb

/-- up to the next one that writes -/
theorem Inv.advance (hP : PlanOk T ops D.n D.plan) : ∀ (suf : List DIt) {pre : List DIt} {hist : List HI} {t : Tmps} {pr : List PR} {pm : List PM} {N : Nat}, Inv D pre suf hist t s pr pm N L c a w →
    ∃ pre' suf' hist' t' pr' pm' N', Inv D pre' suf' hist' t' s pr' pm' N' L c a w ∧ (suf' = [] ∨ ∃ y r, suf' = y :: r ∧ isB y.op.op = true) := by
  intro suf
  induction suf with
  | nil => intro pre hist t pr pm N I; exact ⟨_, _, _, _, _, _, _, I, .inl rfl⟩
  | cons y suf ih =>
    intro pre hist t pr pm N I
    cases hb : isB y.op.op with
    | true => exact ⟨_, _, _, _, _, _, _, I, .inr ⟨y, suf, rfl, hb⟩⟩
    | false =>
      obtain ⟨_, _, _, _, _, I'⟩ := I.advance1 hP hb
      exact ih I'
end
end Go.Sy

/-! The symbolic executor, part Ue: a drawn region's run: an operation that does not write, whenever it comes. -/
namespace Go.Sy
set_option linter.unusedVariables false
set_option linter.unusedSectionVars false

section
variable {P : Program} {T : TyT} {ops : Array Oper} {D : DK} {pre suf : List DIt} {hist : List HI} {t : Tmps} {s : S} {pr : List PR} {pm : List PM} {N : Nat} {L : Nat → Prop} {c : Cx} {a : Act} {w : World}

theorem put_defers_eq (a : Act) (dst : Option Tmp) (v : Value) : (a.put dst v).defers = a.defers := by cases dst <;> rfl
theorem put_size_eq (a : Act) (dst : Option Tmp) (v : Value) : (a.put dst v).tmps.size = a.tmps.size := by cases dst <;> simp [Act.put]
theorem put_ne {a : Act} {dst : Option Tmp} {v : Value} {m : Nat} (h : dst ≠ some m) : (a.put dst v).tmps.getD m undef = a.tmps.getD m undef := by
  cases dst with
  | none => rfl
  | some d =>
    have : d ≠ m := fun e => h (by rw [e])
    simp [Act.put, Array.getD_eq_getD_getElem?, Array.getElem?_setIfInBounds_ne this]
theorem put_eq {a : Act} {v : Value} {m : Nat} (h : m < a.tmps.size) : (a.put (some m) v).tmps.getD m undef = v := by
  simp [Act.put, Array.getD_eq_getD_getElem?, h]

theorem hist_inj (hP : PlanOk T ops D.n D.plan) (I : Inv D pre suf hist t s pr pm N L c a w) {x y : HI} (hx : x ∈ hist) (hy : y ∈ hist) (e : x.it.i = y.it.i) : x = y := by
  have hp : hist.Pairwise fun x y => okPair x.it y.it = true := by
    have h1 := hP.pair
    rw [I.plan, ← I.its] at h1
    exact List.pairwise_map.1 (List.pairwise_append.1 h1).1
  clear I
  induction hist with
  | nil => cases hx
  | cons z l ih =>
    rw [List.pairwise_cons] at hp
    rcases List.mem_cons.1 hx with hx1 | hx1 <;> rcases List.mem_cons.1 hy with hy1 | hy1
    · rw [hx1, hy1]
    · rw [hx1] at e; exact absurd e (okPair_ne (hp.1 y hy1))
    · rw [hy1] at e; exact absurd e.symm (okPair_ne (hp.1 x hx1))
    · exact ih hx1 hy1 hp.2
theorem dst_inj {plan : List DIt} (hp : plan.Pairwise fun x y => okPair x y = true) {x y : DIt} (hx : x ∈ plan) (hy : y ∈ plan) {d : Nat} (h1 : x.op.dst = some d) (h2 : y.op.dst = some d) : x = y := by
  induction plan with
  | nil => cases hx
  | cons z l ih =>
    rw [List.pairwise_cons] at hp
    rcases List.mem_cons.1 hx with hx1 | hx1 <;> rcases List.mem_cons.1 hy with hy1 | hy1
    · rw [hx1, hy1]
    · rw [hx1] at h1; exact (okPair_dst (hp.1 y hy1) h1 h2).elim
    · rw [hy1] at h2; exact (okPair_dst (hp.1 x hx1) h2 h1).elim
    · exact ih hp.2 hx1 hy1
theorem EvI.monoL {c0 : Cx} {base : Nat} {L' : Nat → Prop} {x : HI} (h : EvI c0 base s pr pm L x) (h1 : ∀ j, L j → L' j) : EvI c0 base s pr pm L' x := by
  unfold EvI at h ⊢
  split at h <;> rename_i o ho
  · exact h
  · exact h.imp (h1 _) id
  · exact h.imp (h1 _) id
  · trivial

theorem Inv.fired (hP : PlanOk T ops D.n D.plan) (I : Inv D pre suf hist t s pr pm N L c a w) {x : HI} (hx : x ∈ hist) (hl : ¬ L x.it.i) (hanc : ∀ k, Nat.testBit x.it.anc k = true → L k) {c' : Cx} {w' : World} {N' : Nat} (hN : N ≤ N')
    (hon : On (Alw s pm L) c c') (hst : Step D.c0 c' D.s0 s D.w0 w') (hrel : Rel c' s w') (hvw : x.v.wf c' N') (hdst : ∀ d, x.it.op.dst = some d → d < D.n)
    (hheap : ∀ b, b < w.heap.size → w'.heap[b]? = w.heap[b]?) (hsz : w.heap.size ≤ w'.heap.size)
    (hnew : ∀ p ∈ pm, p.i = x.it.i → D.w0.heap.size ≤ c'.ι p.id ∧ c'.ι p.id < w'.heap.size ∧ ObjRel c' p.id p.ob (w'.heap[c'.ι p.id]?) ∧ (∀ id o, s.at id = some o → c'.ι id ≠ c'.ι p.id) ∧ p.ob.wf c' N' ∧ ∀ q ∈ pm, L q.i → c'.ι q.id ≠ c'.ι p.id) :
    Inv D pre suf hist t s pr pm N' (fun j => L j ∨ j = x.it.i) c' (a.put x.it.op.dst (x.v.conc c')) w' := by
  have hxp := I.mem hx
  have hnx : ∀ id, id < s.nx → c'.ι id = c.ι id := fun id h => (hon.at_ id (.inl h)).1
  constructor
  · exact I.plan
  · exact I.its
  · exact I.run
  · exact hst
  · exact hrel
  · exact Nat.le_trans I.nxN hN
  · intro y hy h
    rcases h with h | h
    · exact I.inPre y hy h
    · rw [plan_inj hP.pair hy hxp h, ← I.its]
      exact List.mem_map_of_mem hx
  · exact fun y hy hb => .inl (I.bars y hy hb)
  · intro y hy h k hk
    rcases h with h | h
    · exact .inl (I.closed y hy h k hk)
    · rw [plan_inj hP.pair hy hxp h] at hk
      exact .inl (hanc k hk)
  · exact I.t0wf
  · exact I.tEq
  · exact I.tAt
  · intro z hz m hd h
    by_cases hzx : z = x
    · subst hzx
      rw [hd, put_eq (by rw [I.size]; exact hdst m hd)]
    · have h : L z.it.i := h.resolve_right fun e => hzx (hist_inj hP I hz hx e)
      rw [put_ne, I.tm1 z hz m hd h, hon.v (I.alw hz h)]
      intro hd'
      exact hzx (hist_inj hP I hz hx (by rw [dst_inj hP.pair (I.mem hz) hxp hd hd']))
  · intro m v hv h
    have hw : v.wf c s.nx := AV.wf_ext I.step.ext I.step.nx (I.t0wf m v hv)
    rw [put_ne (fun e => h x hx e (.inr rfl)), I.tm2 m v hv fun z hz hd hl => h z hz hd (.inl hl)]
    rw [hon.v (InV.mono (fun id h => .inl h) hw.names)]
  · intro z hz h
    by_cases hzx : z = x
    · subst hzx; exact hvw
    · have h : L z.it.i := h.resolve_right fun e => hzx (hist_inj hP I hz hx e)
      exact AV.wf_mono (hon.v_wf (I.alw hz h) (I.vwf z hz h)) hN
  · exact I.vin
  · intro z hz
    obtain ⟨b, h1, h2, h3⟩ := I.ev z hz
    exact ⟨b, h1, h2, fun h => (h3 h).monoL fun _ h => .inl h⟩
  · exact I.prok
  · exact fun p hp => ⟨(I.pmid p hp).1, Nat.lt_of_lt_of_le (I.pmid p hp).2 hN⟩
  · exact I.pmd
  · exact I.pmn
  · exact I.pmx
  · exact I.pmu
  · exact I.pmin
  · intro p hp h
    rcases h with h | h
    · obtain ⟨g1, g2, g3, g4, g5⟩ := I.pmb p hp h
      have hid : Alw s pm L p.id := .inr ⟨p, hp, rfl, h⟩
      have e := (hon.at_ p.id hid).1
      rw [e]
      have hob : InO (Alw s pm L) p.ob := InO.mono (fun id hh => by
        rcases hh with hh | ⟨q, hq, e1, y, hy, e2, hb⟩
        · exact .inl hh
        · refine .inr ⟨q, hq, e1, I.closed y (by rw [I.plan]; exact List.mem_append_left _ hy) (by rw [e2]; exact h) _ hb⟩) (I.pmin p hp)
      refine ⟨g1, Nat.lt_of_lt_of_le g2 hsz, ?_, ?_, AObj.wf_mono (hon.o_wf hob g5) hN⟩
      · rw [hheap _ g2]; exact hon.obj hid hob g3
      · intro id o ho
        rw [hnx id (I.rel.lt id o ho)]
        exact g4 id o ho
    · obtain ⟨g1, g2, g3, g4, g5, _⟩ := hnew p hp h
      exact ⟨g1, g2, g3, g4, g5⟩
  · intro p hp q hq h1 h2 hne
    rcases h1 with h1 | h1 <;> rcases h2 with h2 | h2
    · rw [(hon.at_ p.id (.inr ⟨p, hp, rfl, h1⟩)).1, (hon.at_ q.id (.inr ⟨q, hq, rfl, h2⟩)).1]
      exact I.pmj p hp q hq h1 h2 hne
    · exact (hnew q hq h2).2.2.2.2.2 p hp h1
    · exact fun e => (hnew p hp h1).2.2.2.2.2 q hq h2 e.symm
    · exact absurd (by rw [I.pmu p hp q hq (h1.trans h2.symm)]) hne
  · rw [put_defers_eq]; exact I.defs
  · rw [put_size_eq]; exact I.size

theorem On.refl {p : Nat → Prop} (c : Cx) : On p c c := ⟨rfl, fun _ _ => ⟨rfl, rfl⟩⟩

theorem GuardV.inj {g : Option (Nat × Bool)} {t : Tmps} {b b' : Bool} (h : GuardV g t b) (h' : GuardV g t b') : b = b' := by
  cases g with
  | none => have h : b = true := h; have h' : b' = true := h'; rw [h, h']
  | some p =>
    obtain ⟨v, x, h1, h2, h3⟩ := h
    obtain ⟨v', x', h1', h2', h3'⟩ := h'
    rw [h1] at h1'; injection h1' with h1'; subst h1'
    rw [h2] at h2'; injection h2' with h2'; subst h2'
    rw [h3, h3']

theorem compOp_p {T : TyT} {o : Op} {p : POp} (h : compOp T o = some (.p p)) : compP T o = some p := by
  unfold compOp at h
  split at h
  · rename_i q hq; injection h with h; injection h with h; subst h; exact hq
  · (repeat' split at h) <;> simp at h
theorem compOp_r {T : TyT} {o : Op} {p : ROp} (h : compOp T o = some (.r p)) : compR T o = some p := by
  unfold compOp at h
  (repeat' split at h) <;> simp_all
theorem compOp_m {T : TyT} {o : Op} {p : MOp} (h : compOp T o = some (.m p)) : compM T o = some p := by
  unfold compOp at h
  (repeat' split at h) <;> simp_all
theorem compOp_b {T : TyT} {o : Op} {p : BOp} (h : compOp T o = some (.b p)) : compB T o = some p := by
  unfold compOp at h
  (repeat' split at h) <;> simp_all

theorem View.mono {c : Cx} {s : S} {w : World} (h : Rel c s w) {N : Nat} (hN : s.nx ≤ N) : View c N s w :=
  ⟨h.sat, fun id o ho => AObj.wf_mono (h.wf id o ho) hN, h.obj⟩

/-- An operation that was worked out ahead comes to its turn. -/
theorem Inv.fire (hT : TOk P T) (hP : PlanOk T ops D.n D.plan) (hdst : ∀ (j d : Nat), (ops[j]?).bind (·.dst) = some d → d < D.n) (I : Inv D pre suf hist t s pr pm N L c a w) {x : HI} (hx : x ∈ hist) (hl : ¬ L x.it.i)
    (hanc : ∀ k, Nat.testBit x.it.anc k = true → L k) {K : Act → World → Prop} {Q : Exit → Act → World → Prop}
    (hK : ∀ c' a' w' N', Inv D pre suf hist t s pr pm N' (fun j => L j ∨ j = x.it.i) c' a' w' → K a' w') : wpOp P ops Q x.it.i K a w := by
  have hxp := I.mem hx
  obtain ⟨o, ho, hc⟩ := hP.op _ hxp
  obtain ⟨hcop, hdo, hdlt, _⟩ := compOper_some hc
  obtain ⟨h1, h2, eh⟩ := List.append_of_mem hx
  have hpw : hist.Pairwise fun x y => okPair x.it y.it = true := by
    have h1 := hP.pair
    rw [I.plan, ← I.its] at h1
    exact List.pairwise_map.1 (List.pairwise_append.1 h1).1
  rw [eh] at hpw
  obtain ⟨_, hpw2, hpw3⟩ := List.pairwise_append.1 hpw
  rw [List.pairwise_cons] at hpw2
  have hxt := I.tAt h1 x h2 eh
  have star : ∀ m ∈ x.it.op.uses, ∀ v, x.t.get (Nat.succ m) = some v → a.tmps.getD m undef = v.conc c ∧ v.wf c N ∧ InV (Alw s pm L) v := by
    intro m hm v hv
    rw [hxt] at hv
    refine I.slot hP (h2 := x :: h2) eh hxp hl hanc (fun z hz => hpw3 z hz x (List.mem_cons_self ..)) ?_ hm hv
    intro z hz
    rcases List.mem_cons.1 hz with rfl | hz
    · exact .inl rfl
    · exact .inr (hpw2.1 z hz)
  have hd : ∀ d, x.it.op.dst = some d → d < D.n := by
    intro d hd
    rw [hdo] at hd
    rw [hd] at hdlt
    exact (natBle_iff _ _).1 hdlt
  obtain ⟨b, hg, hb1, hb2⟩ := I.ev x hx
  have hw := wanted_of (c := c) hc hg (fun j d h => by rw [I.size]; exact hdst j d h) (fun m hm v hv => (star m hm v hv).1)
  have stay : ∀ {v : Value}, v = x.v.conc c → (∀ p ∈ pm, p.i ≠ x.it.i) → x.v.wf c N → K (a.put o.dst v) w := by
    intro v hv hno hvw
    rw [hv, ← hdo]
    exact hK c _ w N (I.fired hP hx hl hanc (Nat.le_refl _) (On.refl c) I.step I.rel hvw hd (fun _ _ => rfl) (Nat.le_refl _) (fun p hp e => absurd e (hno p hp)))
  have hno : (∀ o', x.it.op.op ≠ .m o') ∨ b = false → ∀ p ∈ pm, p.i ≠ x.it.i := by
    intro h p hp e
    obtain ⟨z, hz, e1, ⟨o', e2⟩, e3⟩ := I.pmx p hp
    have hzx := hist_inj hP I hz hx (e1.trans e)
    subst hzx
    rcases h with h | h
    · exact h o' e2
    · subst h; have := hg.inj e3; cases this
  unfold wpOp
  simp only [ho]
  cases b with
  | false =>
    simp only [hw, Bool.false_eq_true, if_false]
    have hv : x.v = .undef := hb1 rfl
    exact stay (by rw [hv]; rfl) (hno (.inr rfl)) (by rw [hv]; trivial)
  | true =>
    simp only [hw, if_true]
    refine .inl ?_
    have hev := hb2 rfl
    unfold EvI at hev
    unfold Oper.wp
    have trel : TRel c N (restr x.t (uses x.it.op.op)) a.tmps := by
      intro m v hv
      rw [restr_get] at hv
      split at hv
      · rename_i hm
        have := star m (uses_sub hm) v hv
        exact ⟨this.1, this.2.1⟩
      · cases hv
    split at hev
    · rename_i po hop
      rw [hop] at hcop trel hno
      obtain ⟨φ, hs, hp⟩ := hev
      rw [pureOp_congr (t' := restr x.t (usesP po)) (restr_agree _ _)] at hp
      have hs' : Sat c.σ φ := by rw [I.σ]; exact hs
      obtain ⟨e1, e2⟩ := pure_sound hT (compOp_p hcop) trel hs' hp
      rw [show Sem.run P (execOp a.eval o) w = .ok (.value (x.v.conc c)) w from e1 w, Oper.upon_value]
      exact stay rfl (hno (.inl (by simp))) e2
    · rename_i ro hop
      rw [hop] at hcop trel hno
      rcases hev with h | hev
      · exact absurd h hl
      have hp := I.prok _ hev
      have hp : readOp x.t s ro = some x.v := hp
      rw [readOp_congr (t' := restr x.t (usesR ro)) (restr_agree _ _)] at hp
      obtain ⟨e1, e2⟩ := read_sound hT (compOp_r hcop) trel (View.mono I.rel I.nxN) hp
      rw [e1, Oper.upon_value]
      exact stay rfl (hno (.inl (by simp))) e2
    · rename_i mo hop
      rw [hop] at hcop
      rcases hev with h | ⟨ob, hmk, hpm, hsl⟩
      · exact absurd h hl
      have hid := I.pmid _ hpm
      have hid1 : s.nx ≤ D.base + x.it.off := hid.1
      have hid2 : D.base + x.it.off < N := hid.2
      have trel' : TRel c (D.base + x.it.off) (restr x.t (usesM mo)) a.tmps := by
        intro m v hv
        rw [restr_get] at hv
        split at hv
        · rename_i hm
          have h1 := star m (uses_sub (by rw [hop]; exact hm)) v hv
          have h2 := (lall_iff _ _).1 hsl m hm
          simp only [slotIn, hv] at h2
          have h3 := inV_spec h2
          exact ⟨h1.1, InV.wf (InV.mono (fun id h => (natBle_iff _ _).1 h) h3) h1.2.1⟩
        · cases hv
      rw [makeOp_congr (t' := restr x.t (usesM mo)) (restr_agree _ _)] at hmk
      obtain ⟨obj, e1, e2, e3, e4⟩ := make_sound (s := ⟨s.h, D.base + x.it.off, s.φ⟩) (w := w) hT (compOp_m hcop) trel' hmk
      have e1 : Sem.run P (execOp a.eval o) w = .ok (.value (x.v.conc (c.set2 (D.base + x.it.off) w.heap.size 0))) (w.alloc obj) := e1
      have e2 : x.v.wf (c.set2 (D.base + x.it.off) w.heap.size 0) (D.base + x.it.off + 1) := e2
      have e3 : ob.wf (c.set2 (D.base + x.it.off) w.heap.size 0) (D.base + x.it.off + 1) := e3
      have e4 : ObjRel (c.set2 (D.base + x.it.off) w.heap.size 0) (D.base + x.it.off) ob (some obj) := e4
      rw [e1, Oper.upon_value, ← hdo]
      have hne : ∀ id, Alw s pm L id → id ≠ D.base + x.it.off := by
        rintro id (h | ⟨p, hp, rfl, hpl⟩) e
        · omega
        · have := I.pmd p hp _ hpm e
          subst this
          exact hl hpl
      have hon : On (Alw s pm L) c (c.set2 (D.base + x.it.off) w.heap.size 0) := ⟨rfl, fun id h => by simp [Cx.set2, hne id h]⟩
      have hself : (c.set2 (D.base + x.it.off) w.heap.size 0).ι (D.base + x.it.off) = w.heap.size := by simp [Cx.set2]
      refine hK _ _ _ N (I.fired hP hx hl hanc (Nat.le_refl _) hon (I.step.early I.rel hid1 obj) (I.rel.early hid1 obj) (AV.wf_mono e2 (by omega)) hd (fun b hb => heap_alloc_old w obj hb) (by simp) ?_)
      intro p hp e
      have := I.pmu p hp _ hpm e
      subst this
      show _ ≤ (c.set2 (D.base + x.it.off) w.heap.size 0).ι (D.base + x.it.off) ∧ _
      simp only [hself]
      refine ⟨I.step.size, by simp, ?_, ?_, AObj.wf_mono e3 (by omega), ?_⟩
      · rw [heap_alloc_new w obj]; exact e4
      · intro id o' ho'
        rw [(hon.at_ id (.inl (I.rel.lt id o' ho'))).1]
        have := I.rel.ι_lt ho'
        omega
      · intro q hq hql
        rw [(hon.at_ q.id (.inr ⟨q, hq, rfl, hql⟩)).1]
        have := (I.pmb q hq hql).2.1
        omega
    · rename_i bo hop
      exact absurd (I.bars x.it (by rw [← I.its]; exact List.mem_map_of_mem hx) (by rw [hop]; rfl)) hl
end
end Go.Sy

/-! The symbolic executor, part Uf: a drawn region's run: an operation that writes; the end. -/
namespace Go.Sy
set_option linter.unusedVariables false
set_option linter.unusedSectionVars false

section
variable {P : Program} {T : TyT} {ops : Array Oper} {D : DK} {pre suf : List DIt} {hist : List HI} {t : Tmps} {s : S} {pr : List PR} {pm : List PM} {N : Nat} {L : Nat → Prop} {c : Cx} {a : Act} {w : World}

/-- blocks that were made ahead are taken up, in order -/
theorem adoptK_spec {c0 : Cx} {s0 : S} {w0 w : World} {c : Cx} {N : Nat} (anc : Option Nat) : ∀ (pm : List PM) {s : S} {k : List PM → S → Bool}, adoptK anc pm s k = true → Step c0 c s0 s w0 w → Rel c s w →
    (∀ p ∈ pm, taken anc p.i = true → w0.heap.size ≤ c.ι p.id ∧ ObjRel c p.id p.ob (w.heap[c.ι p.id]?) ∧ (∀ id o, s.at id = some o → c.ι id ≠ c.ι p.id) ∧ p.ob.wf c N) →
    (∀ p ∈ pm, ∀ q ∈ pm, taken anc p.i = true → taken anc q.i = true → p.id ≠ q.id → c.ι p.id ≠ c.ι q.id) → (pm.Pairwise fun p q => p.id ≠ q.id) →
    ∃ s', k (pm.filter fun p => !taken anc p.i) s' = true ∧ Step c0 c s0 s' w0 w ∧ Rel c s' w ∧ s.nx ≤ s'.nx ∧ s'.φ = s.φ ∧ (∀ p ∈ pm, taken anc p.i = true → p.id < s'.nx) ∧
      ∀ id o, s'.at id = some o → s.at id = some o ∨ ∃ p ∈ pm, taken anc p.i = true ∧ p.id = id := by
  intro pm
  induction pm with
  | nil => intro s k hk hst hr _ _ _; exact ⟨s, hk, hst, hr, Nat.le_refl _, rfl, by simp, fun id o h => .inl h⟩
  | cons p pm ih =>
    intro s k hk hst hr hb hj hd
    rw [adoptK_cons] at hk
    rw [List.pairwise_cons] at hd
    cases ht : taken anc p.i with
    | false =>
      rw [ht] at hk
      obtain ⟨s', h1, h2, h3, h4, h5, h6, h7⟩ := ih (k := fun l s => k (p :: l) s) hk hst hr (fun q hq => hb q (List.mem_cons_of_mem _ hq)) (fun q hq r hr => hj q (List.mem_cons_of_mem _ hq) r (List.mem_cons_of_mem _ hr)) hd.2
      refine ⟨s', by simpa [ht] using h1, h2, h3, h4, h5, ?_, fun id o h => (h7 id o h).imp (fun h => h) fun ⟨q, hq, h⟩ => ⟨q, List.mem_cons_of_mem _ hq, h⟩⟩
      intro q hq hqt
      rcases List.mem_cons.1 hq with rfl | hq
      · rw [ht] at hqt; cases hqt
      · exact h6 q hq hqt
    | true =>
      rw [ht] at hk
      have hk : s.newAtK p.id p.ob (fun s => adoptK anc pm s k) = true := hk
      rw [S.newAtK_eq] at hk
      obtain ⟨g1, hk1⟩ := ifB_true hk
      obtain ⟨g2, hk2⟩ := ifB_true hk1
      have g1 := (natBle_iff _ _).1 g1
      obtain ⟨b1, b2, b3, b4⟩ := hb p (List.mem_cons_self ..) ht
      have hw : p.ob.wf c (p.id + 1) := InO.wf (InO.mono (fun id h => Nat.lt_succ_of_le ((natBle_iff _ _).1 h)) (inO_spec g2)) b4
      have hr' := hr.newAt g1 hw b2 b3
      have hst' := hst.newAt p.ob g1 b1
      have hb' : ∀ q ∈ pm, taken anc q.i = true → w0.heap.size ≤ c.ι q.id ∧ ObjRel c q.id q.ob (w.heap[c.ι q.id]?) ∧ (∀ id o, (s.newAt p.id p.ob).at id = some o → c.ι id ≠ c.ι q.id) ∧ q.ob.wf c N := by
        intro q hq hqt
        obtain ⟨c1, c2, c3, c4⟩ := hb q (List.mem_cons_of_mem _ hq) hqt
        refine ⟨c1, c2, ?_, c4⟩
        intro id o h
        rw [S.at_newAt] at h
        split at h
        · rename_i e; subst e
          exact hj p (List.mem_cons_self ..) q (List.mem_cons_of_mem _ hq) ht hqt (hd.1 q hq)
        · exact c3 id o h
      obtain ⟨s', h1, h2, h3, h4, h5, h6, h7⟩ := ih (k := k) hk2 hst' hr' hb' (fun q hq r hr => hj q (List.mem_cons_of_mem _ hq) r (List.mem_cons_of_mem _ hr)) hd.2
      have hn1 : s.nx ≤ s'.nx := Nat.le_trans (by show s.nx ≤ p.id + 1; omega) h4
      have hn2 : p.id < s'.nx := Nat.lt_of_lt_of_le (by show p.id < p.id + 1; omega) h4
      refine ⟨s', by simpa [ht] using h1, h2, h3, hn1, h5, ?_, ?_⟩
      · intro q hq hqt
        rcases List.mem_cons.1 hq with rfl | hq
        · exact hn2
        · exact h6 q hq hqt
      · intro id o h
        rcases h7 id o h with h | ⟨q, hq, h⟩
        · rw [S.at_newAt] at h
          split at h
          · rename_i e; exact .inr ⟨p, List.mem_cons_self .., ht, e.symm⟩
          · exact .inl h
        · exact .inr ⟨q, List.mem_cons_of_mem _ hq, h⟩

theorem recheck_spec {anc : Nat} {s : S} : ∀ (pr : List PR) {k : List PR → Bool}, recheck anc s pr k = true → ∃ pr', k pr' = true ∧ (∀ e ∈ pr', readOp e.t s e.o = some e.v) ∧ ∀ e ∈ pr, Nat.testBit anc e.i = true ∨ e ∈ pr' := by
  intro pr
  induction pr with
  | nil => intro k h; exact ⟨[], h, by simp, by simp⟩
  | cons x pr ih =>
    intro k h
    rw [recheck_cons] at h
    cases ht : Nat.testBit anc x.i with
    | true =>
      rw [ht] at h
      obtain ⟨pr', h1, h2, h3⟩ := ih (k := k) h
      refine ⟨pr', h1, h2, fun e he => ?_⟩
      rcases List.mem_cons.1 he with rfl | he
      · exact .inl ht
      · exact h3 e he
    | false =>
      rw [ht] at h
      obtain ⟨v, hv, g1⟩ := optB_true (show optB (readOp x.t s x.o) _ = true from h)
      obtain ⟨g2, g3⟩ := ifB_true g1
      have e := vEq_spec _ _ g2
      subst e
      obtain ⟨pr', h1, h2, h3⟩ := ih (k := fun l => k (x :: l)) g3
      refine ⟨x :: pr', h1, fun e he => ?_, fun e he => ?_⟩
      · rcases List.mem_cons.1 he with rfl | he
        · exact hv
        · exact h2 e he
      · rcases List.mem_cons.1 he with rfl | he
        · exact .inr (List.mem_cons_self ..)
        · exact (h3 e he).imp (fun h => h) (List.mem_cons_of_mem _)

theorem Step.recx {c0 c1 c2 : Cx} {s0 s1 : S} {w0 w1 : World} (h : Step c0 c1 s0 s1 w0 w1) (hr : Rel c1 s1 w1) (he : Cx.Ext s1.nx c1 c2) : Step c0 c2 s0 s1 w0 w1 := by
  refine ⟨h.ext.trans he h.nx, h.nx, h.os, h.tape, h.output, h.size, h.frame, ?_⟩
  intro id o ho
  rw [he.ι id (hr.lt id o ho)]
  exact h.anew id o ho
end
end Go.Sy

/-! The symbolic executor, part Ug: a drawn region's run: what holds when an operation that writes is done. -/
namespace Go.Sy
set_option linter.unusedVariables false
set_option linter.unusedSectionVars false

section
variable {P : Program} {T : TyT} {ops : Array Oper} {D : DK} {pre suf : List DIt} {hist : List HI} {t : Tmps} {s : S} {pr : List PR} {pm : List PM} {N : Nat} {L : Nat → Prop} {c : Cx} {a : Act} {w : World}

theorem Inv.wrote (hP : PlanOk T ops D.n D.plan) {y : DIt} (I : Inv D pre (y :: suf) hist t s pr pm N L c a w) (hb : isB y.op.op = true) (hanc : ∀ k, Nat.testBit y.anc k = true → L k) (hdst : ∀ d, y.op.dst = some d → d < D.n)
    {v : AV} {c2 : Cx} {s1 : S} {w1 : World} {pr' : List PR} {pm' : List PM} {N' : Nat} (hrun : drawL D.call D.base D.k suf (putA y.op.dst v t) s1 pr' pm' = true) (hst : Step D.c0 c2 D.s0 s1 D.w0 w1) (hrel : Rel c2 s1 w1)
    (hnx : s.nx ≤ s1.nx) (hN : N ≤ N') (hN1 : s1.nx ≤ N') (hon : On (Alw s pm L) c c2) (hv : v.wf c2 s1.nx) (hprok : ∀ e ∈ pr', readOp e.t s1 e.o = some e.v) (hprs : ∀ e ∈ pr, e ∈ pr' ∨ Nat.testBit y.anc e.i = true)
    (hpms : ∀ p ∈ pm', p ∈ pm) (hpmt : ∀ p ∈ pm, p ∈ pm' ∨ (p.id < s1.nx ∧ L p.i)) (hpmx : ∀ p ∈ pm', s1.nx ≤ p.id) (hpmn : pm'.Pairwise fun p q => p.id ≠ q.id) (hsz : w.heap.size ≤ w1.heap.size)
    (hheap : ∀ p ∈ pm', L p.i → w1.heap[c.ι p.id]? = w.heap[c.ι p.id]? ∧ ∀ id o, s1.at id = some o → c2.ι id ≠ c.ι p.id) {b : Bool} (hg : GuardV y.op.guard t b) (hgv : b = false → v = .undef) :
    Inv D (pre ++ [y]) suf (hist ++ [⟨y, t, v⟩]) (putA y.op.dst v t) s1 pr' pm' N' (fun j => L j ∨ j = y.i) c2 (a.put y.op.dst (v.conc c2)) w1 := by
  have hyp : y ∈ D.plan := by rw [I.plan]; simp
  have hpre : ∀ z ∈ hist, okPair z.it y = true := fun z hz => pair_split hP.pair I.plan (by rw [← I.its]; exact List.mem_map_of_mem hz) (List.mem_cons_self ..)
  have hLz : ∀ z ∈ hist, L z.it.i ∨ z.it.i = y.i → L z.it.i := fun z hz h => h.resolve_right (okPair_ne (hpre z hz))
  have hLp : ∀ p ∈ pm', L p.i ∨ p.i = y.i → L p.i := by
    intro p hp h
    obtain ⟨x, hx, e, _⟩ := I.pmx p (hpms p hp)
    exact h.resolve_right fun e' => okPair_ne (hpre x hx) (e.trans e')
  have hal : ∀ p ∈ pm', L p.i → Alw s pm L p.id := fun p hp h => .inr ⟨p, hpms p hp, rfl, h⟩
  constructor
  · rw [I.plan]; simp
  · simp [I.its]
  · exact hrun
  · exact hst
  · exact hrel
  · exact hN1
  · intro z hz h
    rcases h with h | h
    · exact List.mem_append_left _ (I.inPre z hz h)
    · rw [plan_inj hP.pair hz hyp h]; simp
  · intro z hz h
    rcases List.mem_append.1 hz with hz | hz
    · exact .inl (I.bars z hz h)
    · simp at hz; subst hz; exact .inr rfl
  · intro z hz h k hk
    rcases h with h | h
    · exact .inl (I.closed z hz h k hk)
    · rw [plan_inj hP.pair hz hyp h] at hk
      exact .inl (hanc k hk)
  · exact I.t0wf
  · rw [tmAt_snoc, ← I.tEq]
  · intro h1 x h2 e
    rcases snoc_split e with ⟨rfl, rfl, _⟩ | ⟨h2', _, e'⟩
    · exact I.tEq
    · exact I.tAt h1 x h2' e'
  · intro z hz m hd h
    rcases List.mem_append.1 hz with hz | hz
    · have hl := hLz z hz h
      rw [put_ne (fun e => (okPair_dst (hpre z hz) hd e).elim), I.tm1 z hz m hd hl, hon.v (I.alw hz hl)]
    · simp at hz; subst hz
      have hd : y.op.dst = some m := hd
      show (a.put y.op.dst (v.conc c2)).tmps.getD m undef = v.conc c2
      rw [hd, put_eq (by rw [I.size]; exact hdst m hd)]
  · intro m u hu h
    have hw : u.wf c s.nx := AV.wf_ext I.step.ext I.step.nx (I.t0wf m u hu)
    rw [put_ne (fun e => h ⟨y, t, v⟩ (by simp) e (.inr rfl)), I.tm2 m u hu fun z hz hd hl => h z (List.mem_append_left _ hz) hd (.inl hl)]
    rw [hon.v (InV.mono (fun id h => .inl h) hw.names)]
  · intro z hz h
    rcases List.mem_append.1 hz with hz | hz
    · have hl := hLz z hz h
      exact AV.wf_mono (hon.v_wf (I.alw hz hl) (I.vwf z hz hl)) hN
    · simp at hz; subst hz; exact AV.wf_mono hv hN1
  · intro z hz
    rcases List.mem_append.1 hz with hz | hz
    · refine InV.mono (fun id h => ?_) (I.vin z hz)
      rcases h with h | ⟨p, hp, e, h⟩
      · exact .inl (Nat.lt_of_lt_of_le h hnx)
      · rcases hpmt p hp with hp' | ⟨hp', _⟩
        · exact .inr ⟨p, hp', e, h⟩
        · exact .inl (by omega)
    · simp at hz; subst hz; exact InV.mono (fun id h => .inl h) hv.names
  · intro z hz
    rcases List.mem_append.1 hz with hz | hz
    · obtain ⟨b, h1, h2, h3⟩ := I.ev z hz
      refine ⟨b, h1, h2, fun h => ?_⟩
      have h3 := h3 h
      unfold EvI at h3 ⊢
      split at h3 <;> rename_i o ho
      · exact h3
      · rcases h3 with h3 | h3
        · exact .inl (.inl h3)
        · rcases hprs _ h3 with h4 | h4
          · exact .inr h4
          · exact .inl (.inl (hanc _ h4))
      · rcases h3 with h3 | ⟨ob, g1, g2, g3⟩
        · exact .inl (.inl h3)
        · rcases hpmt _ g2 with h4 | ⟨_, h4⟩
          · exact .inr ⟨ob, g1, h4, g3⟩
          · exact .inl (.inl h4)
      · trivial
    · simp at hz; subst hz
      refine ⟨b, hg, hgv, fun _ => ?_⟩
      unfold EvI
      split <;> rename_i o ho
      · have ho : y.op.op = _ := ho; rw [ho] at hb; cases hb
      · have ho : y.op.op = _ := ho; rw [ho] at hb; cases hb
      · have ho : y.op.op = _ := ho; rw [ho] at hb; cases hb
      · trivial
  · exact hprok
  · exact fun p hp => ⟨hpmx p hp, Nat.lt_of_lt_of_le (I.pmid p (hpms p hp)).2 hN⟩
  · exact fun p hp q hq e => I.pmd p (hpms p hp) q (hpms q hq) e
  · exact hpmn
  · intro p hp
    obtain ⟨x, hx, h⟩ := I.pmx p (hpms p hp)
    exact ⟨x, List.mem_append_left _ hx, h⟩
  · exact fun p hp q hq e => I.pmu p (hpms p hp) q (hpms q hq) e
  · intro p hp
    refine InO.mono (fun id h => ?_) (I.pmin p (hpms p hp))
    rcases h with h | ⟨q, hq, e, z, hz, h⟩
    · exact .inl (Nat.lt_of_lt_of_le h hnx)
    · rcases hpmt q hq with hq' | ⟨hq', _⟩
      · exact .inr ⟨q, hq', e, z, List.mem_append_left _ hz, h⟩
      · exact .inl (by omega)
  · intro p hp h
    have hl := hLp p hp h
    obtain ⟨g1, g2, g3, g4, g5⟩ := I.pmb p (hpms p hp) hl
    obtain ⟨k1, k2⟩ := hheap p hp hl
    have hid := hal p hp hl
    have e := (hon.at_ p.id hid).1
    rw [e]
    have hob : InO (Alw s pm L) p.ob := InO.mono (fun id hh => by
      rcases hh with hh | ⟨q, hq, e1, z, hz, e2, hb⟩
      · exact .inl hh
      · exact .inr ⟨q, hq, e1, I.closed z (by rw [I.plan]; exact List.mem_append_left _ hz) (by rw [e2]; exact hl) _ hb⟩) (I.pmin p (hpms p hp))
    refine ⟨g1, Nat.lt_of_lt_of_le g2 hsz, ?_, k2, AObj.wf_mono (hon.o_wf hob g5) hN⟩
    rw [k1]; exact hon.obj hid hob g3
  · intro p hp q hq h1 h2 hne
    have l1 := hLp p hp h1
    have l2 := hLp q hq h2
    rw [(hon.at_ p.id (hal p hp l1)).1, (hon.at_ q.id (hal q hq l2)).1]
    exact I.pmj p (hpms p hp) q (hpms q hq) l1 l2 hne
  · rw [put_defers_eq]; exact I.defs
  · rw [put_size_eq]; exact I.size

open Classical in
/-- The next operation that writes comes to its turn. -/
theorem Inv.barrier (hT : TOk P T) (hcall : CallOk P D.call) (hP : PlanOk T ops D.n D.plan) (hdst : ∀ (j d : Nat), (ops[j]?).bind (·.dst) = some d → d < D.n) {y : DIt} (I : Inv D pre (y :: suf) hist t s pr pm N L c a w) (hb : isB y.op.op = true)
    (hanc : ∀ k, Nat.testBit y.anc k = true → L k) {K : Act → World → Prop} {Q : Exit → Act → World → Prop}
    (hpan : ∀ c' v s' w', v.wf c' s'.nx → Step D.c0 c' D.s0 s' D.w0 w' → Rel c' s' w' → D.k (.panic v) .leaf s' = true → Q (.panic [{ v := v.conc c', recovered := false }]) a w')
    (hK : ∀ hist' t' s' pr' pm' N' c' a' w', Inv D (pre ++ [y]) suf hist' t' s' pr' pm' N' (fun j => L j ∨ j = y.i) c' a' w' → K a' w') : wpOp P ops Q y.i K a w := by
  have hyp : y ∈ D.plan := by rw [I.plan]; simp
  have hly := I.out hP
  obtain ⟨o, ho, hc⟩ := hP.op _ hyp
  obtain ⟨hcop, hdo, hdlt, _⟩ := compOper_some hc
  have star : ∀ m ∈ y.op.uses, ∀ v, t.get (Nat.succ m) = some v → a.tmps.getD m undef = v.conc c ∧ v.wf c N ∧ InV (Alw s pm L) v := by
    intro m hm v hv
    rw [I.tEq] at hv
    exact I.slot hP (h2 := []) (by simp) hyp hly hanc (fun z hz => pair_split hP.pair I.plan (by rw [← I.its]; exact List.mem_map_of_mem hz) (List.mem_cons_self ..)) (by simp) hm hv
  have hd : ∀ d, y.op.dst = some d → d < D.n := by
    intro d hd
    rw [hdo] at hd
    rw [hd] at hdlt
    exact (natBle_iff _ _).1 hdlt
  have hk := I.run
  rw [drawL_cons] at hk
  obtain ⟨i, ⟨dst, op, g⟩, anc, off⟩ := y
  rw [drawI_eq] at hk
  obtain ⟨b, hg, hk1⟩ := guardE_spec hk
  have hw := wanted_of (c := c) hc hg (fun j d h => by rw [I.size]; exact hdst j d h) (fun m hm v hv => (star m hm v hv).1)
  have hdo : dst = o.dst := hdo
  unfold wpOp
  have ho' : ops[i]? = some o := ho
  simp only [ho']
  cases b with
  | false =>
    simp only [hw, Bool.false_eq_true, if_false]
    have hk2 : putK dst .undef t (fun t => drawL D.call D.base D.k suf t s pr pm) = true := hk1
    rw [putK_eq] at hk2
    have I' := I.wrote hP hb hanc hd hk2 I.step I.rel (Nat.le_refl _) (Nat.le_refl _) I.nxN (On.refl c) trivial I.prok (fun e he => .inl he) (fun p hp => hp) (fun p hp => .inl hp) (fun p hp => (I.pmid p hp).1) I.pmn (Nat.le_refl _)
      (fun p hp hl => ⟨rfl, (I.pmb p hp hl).2.2.2.1⟩) hg (fun _ => rfl)
    have := hK _ _ _ _ _ _ _ _ _ I'
    rw [← hdo]; exact this
  | true =>
    simp only [hw, if_true]
    refine .inl ?_
    cases op with
    | p o' => cases hb
    | r o' => cases hb
    | m o' => cases hb
    | b bo =>
      have hk2 : drawB D.call bo dst anc t s pr pm D.k (drawL D.call D.base D.k suf) = true := hk1
      unfold drawB at hk2
      have htk : ∀ p : PM, taken (some anc) p.i = true → L p.i := fun p h => hanc _ h
      obtain ⟨s', h1, h2, h3, h4, h5, h6, h7⟩ := adoptK_spec (N := N) (some anc) pm hk2 I.step I.rel
        (fun p hp ht => have q := I.pmb p hp (htk p ht); ⟨q.1, q.2.2.1, q.2.2.2.1, q.2.2.2.2⟩) (fun p hp q hq h1 h2 hne => I.pmj p hp q hq (htk p h1) (htk q h2) hne) I.pmn
      obtain ⟨g1, hk3⟩ := ifB_true h1
      have g1 := (lall_iff _ _).1 g1
      have hk3 : stepB D.call bo t s' (fun v s => recheck anc s pr fun pr => ifB (lall (fun p => Nat.ble s.nx p.id) (pm.filter fun p => !taken (some anc) p.i)) (putK dst v t fun t => drawL D.call D.base D.k suf t s pr (pm.filter fun p => !taken (some anc) p.i)))
        (fun v s => D.k (.panic v) .leaf s) = true := hk3
      rw [stepB_congr (t' := restr t (usesB bo)) (restr_agree _ _)] at hk3
      have trel : TRel c s'.nx (restr t (usesB bo)) a.tmps := by
        intro m v hv
        rw [restr_get] at hv
        split at hv
        · rename_i hm
          have k1 := star m (uses_sub (o := ⟨dst, .b bo, g⟩) hm) v hv
          have k2 := g1 m hm
          simp only [slotIn, hv] at k2
          exact ⟨k1.1, InV.wf (InV.mono (fun id h => (natBle_iff _ _).1 h) (inV_spec k2)) k1.2.1⟩
        · cases hv
      unfold Oper.wp
      refine stepB_sound hT hcall (compOp_b hcop) trel h3 hk3 ⟨?_, ?_⟩
      · intro c1 v s1 w1 hvw hstep hrel1 hkn
        obtain ⟨pr', r1, r2, r3⟩ := recheck_spec pr hkn
        obtain ⟨r4, r5⟩ := ifB_true r1
        have r4 := (lall_iff _ _).1 r4
        rw [putK_eq] at r5
        let pm' := pm.filter fun p => !taken (some anc) p.i
        have hpm' : ∀ p ∈ pm', p ∈ pm ∧ taken (some anc) p.i = false := fun p hp => by simpa [pm'] using hp
        have hpmx : ∀ p ∈ pm', s1.nx ≤ p.id := fun p hp => (natBle_iff _ _).1 (r4 p hp)
        let c2 : Cx := ⟨fun id => if ∃ p ∈ pm', p.id = id ∧ L p.i then c.ι id else c1.ι id, fun id => if ∃ p ∈ pm', p.id = id ∧ L p.i then c.κ id else c1.κ id, c1.σ⟩
        have hlow : ∀ id, id < s1.nx → ¬ ∃ p ∈ pm', p.id = id ∧ L p.i := by
          rintro id h ⟨p, hp, rfl, _⟩
          have := hpmx p hp
          omega
        have he : Cx.Ext s1.nx c1 c2 := ⟨rfl, fun id h => if_neg (hlow id h), fun id h => if_neg (hlow id h)⟩
        have hon : On (Alw s pm L) c c2 := by
          have low : ∀ id, id < s'.nx → c2.ι id = c.ι id ∧ c2.κ id = c.κ id := fun id h => by
            have h' : id < s1.nx := Nat.lt_of_lt_of_le h hstep.nx
            exact ⟨(he.ι id h').trans (hstep.ext.ι id h), (he.κ id h').trans (hstep.ext.κ id h)⟩
          refine ⟨hstep.ext.σ, fun id h => ?_⟩
          rcases h with h | ⟨p, hp, e, hl⟩
          · exact low id (Nat.lt_of_lt_of_le h h4)
          · cases ht : taken (some anc) p.i with
            | true => exact low id (by rw [← e]; exact h6 p hp ht)
            | false =>
              have : ∃ p ∈ pm', p.id = id ∧ L p.i := ⟨p, by simpa [pm'] using ⟨hp, ht⟩, e, hl⟩
              exact ⟨if_pos this, if_pos this⟩
        have hst1 : Step D.c0 c1 D.s0 s1 D.w0 w1 := h2.trans hstep
        have hsz := hstep.size
        have hv1 : v.conc c2 = v.conc c1 := AV.conc_ext he hvw
        have hv2 : v.wf c2 s1.nx := AV.wf_ext he (Nat.le_refl _) hvw
        have hblk : ∀ p ∈ pm', L p.i → ∀ id x, s'.at id = some x → c.ι id ≠ c.ι p.id := by
          intro p hp hl id x hx
          obtain ⟨hp1, hp2⟩ := hpm' p hp
          rcases h7 id x hx with hx | ⟨q, hq, hqt, e⟩
          · exact (I.pmb p hp1 hl).2.2.2.1 id x hx
          · rw [← e]
            refine I.pmj q hq p hp1 (htk q hqt) hl ?_
            have := h6 q hq hqt
            have := hpmx p hp
            have := hstep.nx
            omega
        have I' := I.wrote (c2 := c2) (s1 := s1) (w1 := w1) (pr' := pr') (pm' := pm') (N' := max N s1.nx) (v := v) hP hb hanc hd r5 (hst1.recx hrel1 he) (hrel1.ext he) (Nat.le_trans h4 hstep.nx) (Nat.le_max_left _ _) (Nat.le_max_right _ _) hon hv2 r2
          (fun e he => (r3 e he).symm) (fun p hp => (hpm' p hp).1) (fun p hp => by
            cases ht : taken (some anc) p.i with
            | true => exact .inr ⟨Nat.lt_of_lt_of_le (h6 p hp ht) hstep.nx, htk p ht⟩
            | false => exact .inl (by simpa [pm'] using ⟨hp, ht⟩)) hpmx (I.pmn.filter _) hsz
          (fun p hp hl => by
            have q := I.pmb p (hpm' p hp).1 hl
            refine ⟨hstep.frame _ q.2.1 (hblk p hp hl), ?_⟩
            intro id x hx
            rw [he.ι id (hrel1.lt id x hx)]
            rcases hstep.anew id x hx with h | ⟨id0, x0, hx0, e⟩
            · have := q.2.1; omega
            · rw [← e]; exact hblk p hp hl id0 x0 hx0) hg (fun h => by cases h)
        have := hK _ _ _ _ _ _ _ _ _ I'
        rw [← hdo, ← hv1]
        exact this
      · intro c1 v s1 w1 hvw hstep hrel1 hkp
        exact hpan c1 v s1 w1 hvw (h2.trans hstep) hrel1 hkp
end
end Go.Sy

/-! The symbolic executor, part U: what code comes to; a drawn region's run is sound. -/
namespace Go.Sy
set_option linter.unusedVariables false
set_option linter.unusedSectionVars false
noncomputable section

def After (n : Nat) (d : List Deferred) (c : Cx) (s : S) (w : World) (a' : Act) (w' : World) (k : Tmps → S → Bool) : Prop :=
  ∃ c' t' s', a'.defers = d ∧ a'.tmps.size = n ∧ Step c c' s s' w w' ∧ Rel c' s' w' ∧ TRel c' s'.nx t' a'.tmps ∧ k t' s' = true
def Post (n : Nat) (d : List Deferred) (c : Cx) (s : S) (w : World) (k : KX) : Exit → Act → World → Prop
  | .outgrown, _, _ => False
  | .goto _, _, _ => False
  | .normal, a', w' => After n d c s w a' w' (k .normal)
  | .exit i, a', w' => After n d c s w a' w' (k (.exit i))
  | .ret, a', w' => After n d c s w a' w' (k .ret)
  | .panic chain, a', w' => ∃ c' v t' s', chain = [{ v := v.conc c', recovered := false }] ∧ v.wf c' s'.nx ∧ a'.defers = d ∧ a'.tmps.size = n ∧ Step c c' s s' w w' ∧ Rel c' s' w' ∧ TRel c' s'.nx t' a'.tmps ∧ k (.panic v) t' s' = true
theorem After.trans {n : Nat} {d : List Deferred} {c c1 : Cx} {s s1 : S} {w w1 : World} (h : Step c c1 s s1 w w1) {a' : Act} {w' : World} {k : Tmps → S → Bool} (h' : After n d c1 s1 w1 a' w' k) : After n d c s w a' w' k := by
  obtain ⟨c', t', s', h1, h2, h3, h4, h5, h6⟩ := h'
  exact ⟨c', t', s', h1, h2, h.trans h3, h4, h5, h6⟩
theorem Post.trans {n : Nat} {d : List Deferred} {c c1 : Cx} {s s1 : S} {w w1 : World} (h : Step c c1 s s1 w w1) {k : KX} {e : Exit} {a' : Act} {w' : World} (h' : Post n d c1 s1 w1 k e a' w') : Post n d c s w k e a' w' := by
  cases e with
  | outgrown => exact h'.elim
  | goto l => exact h'.elim
  | normal => exact After.trans h h'
  | exit i => exact After.trans h h'
  | ret => exact After.trans h h'
  | panic ch =>
    obtain ⟨c', v, t', s', h1, h2, h3, h4, h5, h6⟩ := h'
    exact ⟨c', v, t', s', h1, h2, h3, h4, h.trans h5, h6⟩

theorem snocRec {α : Type} {p : List α → Prop} (l : List α) (nil : p []) (snoc : ∀ l x, p l → p (l ++ [x])) : p l := by
  have : ∀ l : List α, p l.reverse := by
    intro l
    induction l with
    | nil => exact nil
    | cons x l ih => rw [List.reverse_cons]; exact snoc _ _ ih
  have h := this l.reverse
  rwa [List.reverse_reverse] at h
/-- how many are not done yet -/
def unl (plan : List DIt) (listed : Array Bool) : Nat := plan.countP fun y => !(listed.getD y.i false)
theorem getD_set {listed : Array Bool} {i : Nat} (hi : i < listed.size) (j : Nat) : ((listed.setIfInBounds i true).getD j false = true) = (listed.getD j false = true ∨ j = i) := by
  apply propext
  by_cases h : j = i
  · subst h; simp [Array.getD_eq_getD_getElem?, hi]
  · have : i ≠ j := fun e => h e.symm
    simp [Array.getD_eq_getD_getElem?, Array.getElem?_setIfInBounds_ne this, h]
theorem unl_set {listed : Array Bool} : ∀ {plan : List DIt}, (plan.Pairwise fun x y => okPair x y = true) → ∀ {x : DIt}, x ∈ plan → x.i < listed.size → listed.getD x.i false = false → unl plan (listed.setIfInBounds x.i true) + 1 = unl plan listed := by
  intro plan
  induction plan with
  | nil => intro _ x hx; cases hx
  | cons z l ih =>
    intro hp x hx hi hf
    rw [List.pairwise_cons] at hp
    have hval : ∀ y : DIt, (!((listed.setIfInBounds x.i true).getD y.i false)) = true ↔ listed.getD y.i false = false ∧ y.i ≠ x.i := by
      intro y
      have := getD_set hi y.i
      cases h1 : (listed.setIfInBounds x.i true).getD y.i false <;> cases h2 : listed.getD y.i false <;> simp_all
    have cong : ∀ m : List DIt, (∀ y ∈ m, y.i ≠ x.i) → unl m (listed.setIfInBounds x.i true) = unl m listed := by
      intro m hm
      unfold unl
      apply List.countP_congr
      intro y hy
      rw [hval y]
      simp [hm y hy]
    rcases List.mem_cons.1 hx with e | hx
    · subst e
      have h1 := cong l fun y hy e => okPair_ne (hp.1 y hy) e.symm
      unfold unl at h1 ⊢
      rw [List.countP_cons, List.countP_cons, h1]
      have h2 : (!((listed.setIfInBounds x.i true).getD x.i false)) = false := by
        cases h : (!((listed.setIfInBounds x.i true).getD x.i false)) with
        | false => rfl
        | true => exact absurd rfl ((hval x).1 h).2
      rw [h2, hf]; simp
    · have h1 := ih hp.2 hx hi hf
      have hne : z.i ≠ x.i := okPair_ne (hp.1 x hx)
      unfold unl at h1 ⊢
      rw [List.countP_cons, List.countP_cons]
      have h2 : (!((listed.setIfInBounds x.i true).getD z.i false)) = (!(listed.getD z.i false)) := by
        cases h : (!(listed.getD z.i false)) with
        | true => exact (hval z).2 ⟨by simpa using h, hne⟩
        | false =>
          cases h' : (!((listed.setIfInBounds x.i true).getD z.i false)) with
          | false => rfl
          | true => have := ((hval z).1 h').1; rw [this] at h; cases h
      rw [h2]; omega

section
variable {P : Program} {T : TyT} {ops : Array Oper} {D : DK} {pre suf : List DIt} {hist : List HI} {t : Tmps} {s : S} {pr : List PR} {pm : List PM} {N : Nat} {c : Cx} {a : Act} {w : World}

theorem Inv.finish {L : Nat → Prop} (I : Inv D pre [] hist t s pr pm N L c a w) (hall : ∀ y ∈ D.plan, L y.i) : After D.n D.d D.c0 D.s0 D.w0 a w (D.k .normal) := by
  have hk := I.run
  rw [drawL_nil] at hk
  have hL : ∀ p ∈ pm, L p.i := by
    intro p hp
    obtain ⟨x, hx, e, _⟩ := I.pmx p hp
    rw [← e]; exact hall _ (I.mem hx)
  obtain ⟨s', h1, h2, h3, h4, h5, h6, h7⟩ := adoptK_spec (N := N) none pm hk I.step I.rel
    (fun p hp _ => have q := I.pmb p hp (hL p hp); ⟨q.1, q.2.2.1, q.2.2.2.1, q.2.2.2.2⟩) (fun p hp q hq _ _ hne => I.pmj p hp q hq (hL p hp) (hL q hq) hne) I.pmn
  refine ⟨c, t, s', I.defs, I.size, h2, h3, ?_, h1⟩
  intro m v hv
  have hv : t.get (Nat.succ m) = some v := hv
  rw [I.tEq] at hv
  rcases tmAt_get hist D.t0 hv with ⟨z, hz, hd, rfl⟩ | ⟨h0, hno⟩
  · have hl := hall _ (I.mem hz)
    refine ⟨I.tm1 z hz m hd hl, InV.wf (InV.mono (fun id h => ?_) (I.alw hz hl)) (I.vwf z hz hl)⟩
    rcases h with h | ⟨p, hp, e, _⟩
    · exact Nat.lt_of_lt_of_le h h4
    · rw [← e]; exact h6 p hp rfl
  · exact ⟨I.tm2 m v h0 fun x hx hd => absurd hd (hno x hx), AV.wf_ext h2.ext h2.nx (I.t0wf m v h0)⟩

theorem Inv.anyOrder (hT : TOk P T) (hcall : CallOk P D.call) (hP : PlanOk T ops D.n D.plan) (hdst : ∀ (j d : Nat), (ops[j]?).bind (·.dst) = some d → d < D.n) {Q : Exit → Act → World → Prop}
    (hQ : ∀ a w, After D.n D.d D.c0 D.s0 D.w0 a w (D.k .normal) → Q .normal a w)
    (hpan : ∀ (a : Act) c' v s' w', a.defers = D.d → a.tmps.size = D.n → v.wf c' s'.nx → Step D.c0 c' D.s0 s' D.w0 w' → Rel c' s' w' → D.k (.panic v) .leaf s' = true → Q (.panic [{ v := v.conc c', recovered := false }]) a w') :
    ∀ (fuel : Nat) (listed : Array Bool) {pre suf : List DIt} {hist : List HI} {t : Tmps} {s : S} {pr : List PR} {pm : List PM} {N : Nat} {c : Cx} {a : Act} {w : World}, listed.size = ops.size → unl D.plan listed = fuel →
      Inv D pre suf hist t s pr pm N (fun j => listed.getD j false = true) c a w → wpAny P .any ops Q fuel listed a w := by
  intro fuel
  induction fuel with
  | zero =>
    intro listed pre suf hist t s pr pm N c a w hsz hcnt I0
    obtain ⟨pre, suf, hist, t, pr, pm, N, I, hs⟩ := I0.advance hP
    have hall : ∀ y ∈ D.plan, listed.getD y.i false = true := by
      intro y hy
      have := (List.countP_eq_zero.1 hcnt) y hy
      simpa using this
    have hnil : Region.ready .any ops listed = [] := by
      cases hr : Region.ready .any ops listed with
      | nil => rfl
      | cons j l =>
        have hj : j ∈ Region.ready .any ops listed := by rw [hr]; exact List.mem_cons_self ..
        obtain ⟨h0, o, ho, _⟩ := mem_ready.1 hj
        have hlt : j < ops.size := (Array.getElem?_eq_some_iff.1 ho).1
        obtain ⟨y, hy, e⟩ := hP.cover j hlt
        have := hall y hy
        rw [e] at this
        have hjs : j < listed.size := by omega
        rw [Array.getD_eq_getD_getElem?, Array.getElem?_eq_getElem hjs] at this h0
        simp at this h0
        rw [this] at h0; cases h0
    refine ⟨hnil, hQ a w ?_⟩
    rcases hs with rfl | ⟨y, r, rfl, _⟩
    · exact I.finish hall
    · exact absurd (hall y (by rw [I.plan]; simp)) (I.out hP)
  | succ fuel ih =>
    intro listed pre suf hist t s pr pm N c a w hsz hcnt I0
    obtain ⟨pre, suf, hist, t, pr, pm, N, I, hs⟩ := I0.advance hP
    refine ⟨fun hnil => ?_, fun i hi => ?_⟩
    · have hall : ∀ l1 l2, D.plan = l1 ++ l2 → ∀ y ∈ l1, listed.getD y.i false = true := by
        intro l1
        induction l1 using snocRec with
        | nil => simp
        | snoc l1 x ihl =>
          intro l2 e y hy
          have e' : D.plan = l1 ++ x :: l2 := by rw [e]; simp
          rcases List.mem_append.1 hy with hy | hy
          · exact ihl (x :: l2) e' y hy
          · simp at hy; subst hy
            have hyp : y ∈ D.plan := by rw [e']; simp
            obtain ⟨o, ho, _⟩ := hP.op y hyp
            cases hv : listed.getD y.i false with
            | true => rfl
            | false =>
              have hlt : y.i < listed.size := by rw [hsz]; exact (Array.getElem?_eq_some_iff.1 ho).1
              have : y.i ∈ Region.ready .any ops listed := by
                refine mem_ready.2 ⟨?_, o, ho, fun ed hed hbd => ?_⟩
                · rw [Array.getD_eq_getD_getElem?, Array.getElem?_eq_getElem hlt] at hv ⊢
                  exact hv
                · obtain ⟨x, hx, e1⟩ := hP.first l1 y l2 e' o ho ed hed hbd
                  rw [← e1]
                  exact ihl (y :: l2) e' x hx
              rw [hnil] at this; cases this
      have hall := fun y hy => hall D.plan [] (by simp) y hy
      rcases hs with rfl | ⟨y, r, rfl, _⟩
      · exact hQ a w (I.finish hall)
      · exact absurd (hall y (by rw [I.plan]; simp)) (I.out hP)
    · obtain ⟨h0, o, ho, hedge⟩ := mem_ready.1 hi
      have hlt : i < ops.size := (Array.getElem?_eq_some_iff.1 ho).1
      have hls : i < listed.size := by omega
      obtain ⟨y, hy, e⟩ := hP.cover i hlt
      have hf : listed.getD y.i false = false := by
        rw [e]
        rw [Array.getD_eq_getD_getElem?, Array.getElem?_eq_getElem hls] at h0 ⊢
        exact h0
      have hnl : ¬ (listed.getD y.i false = true) := by rw [hf]; simp
      have hanc : ∀ k, Nat.testBit y.anc k = true → listed.getD k false = true := by
        intro k hk
        obtain ⟨ed, hed, hbd, h⟩ := hP.anc y hy o (by rw [e]; exact ho) k hk
        have h1 := hedge ed hed hbd
        rcases h with h | ⟨z, hz, hz1, hz2⟩
        · rw [← h]; exact h1
        · exact I.closed z hz (by rw [hz1]; exact h1) k hz2
      have hL : (fun j => listed.getD j false = true ∨ j = y.i) = fun j => (listed.setIfInBounds y.i true).getD j false = true := by
        funext j
        rw [getD_set (by rw [e]; exact hls)]
      have hcnt' : unl D.plan (listed.setIfInBounds y.i true) = fuel := by
        have := unl_set hP.pair hy (by rw [e]; exact hls) hf
        omega
      have hsz' : (listed.setIfInBounds y.i true).size = ops.size := by simpa using hsz
      rw [← e]
      rw [I.plan] at hy
      rcases List.mem_append.1 hy with hy | hy
      · rw [← I.its] at hy
        obtain ⟨x, hx, e1⟩ := List.mem_map.1 hy
        subst e1
        refine I.fire hT hP hdst hx hnl hanc fun c' a' w' N' I' => ?_
        rw [hL] at I'
        exact ih _ hsz' hcnt' I'
      · rcases hs with rfl | ⟨b, r, rfl, hb⟩
        · cases hy
        · rcases List.mem_cons.1 hy with rfl | hy
          · refine I.barrier hT hcall hP hdst hb hanc (fun c' v s' w' h1 h2 h3 h4 => hpan a c' v s' w' I.defs I.size h1 h2 h3 h4) fun hist' t' s' pr' pm' N' c' a' w' I' => ?_
            rw [hL] at I'
            exact ih _ hsz' hcnt' I'
          · have hpw := hP.pair
            rw [I.plan] at hpw
            have h1 := (List.pairwise_cons.1 (List.pairwise_append.1 hpw).2.1).1 y hy
            rcases okPair_or h1 with h | ⟨_, _, h⟩
            · exact absurd (hanc _ h) (I.out hP)
            · rw [hb] at h; cases h

theorem draw_sound {call : CallF} (hT : TOk P T) (hcall : CallOk P call) (hm : P.follows .mixedOrders = true) {id n : Nat} {plan : List (Nat × Nat)} {l : List DIt}
    (hc : compD T ops n plan = some l) {d : List Deferred} {k : KX} (h : Rel c s w) (hr : TRel c s.nx t a.tmps) (hn : a.tmps.size = n) (hd : a.defers = d)
    (hk : drawE call l t s k = true) : (Code.region id ops true).wp P (Post n d c s w k) a w := by
  have hP := compD_spec hc
  refine wp_region_any hm ?_
  have hrun : drawL call s.nx k l t s [] [] = true := by
    obtain ⟨hh, nx, φ⟩ := s
    exact hk
  have hst := Step.drewBy c s w (w.drawn + 1)
  let D : DK := ⟨call, l, s.nx, k, c, s, World.drewBy w (w.drawn + 1), t, d, n⟩
  have hdst : ∀ (j e : Nat), (ops[j]?).bind (·.dst) = some e → e < n := by
    intro j e he
    cases ho : ops[j]? with
    | none => rw [ho] at he; cases he
    | some o =>
      rw [ho] at he
      obtain ⟨y, hy, ey⟩ := hP.cover j (Array.getElem?_eq_some_iff.1 ho).1
      obtain ⟨o', ho', hco⟩ := hP.op y hy
      rw [ey, ho] at ho'; injection ho' with ho'; subst ho'
      obtain ⟨_, _, h3, _⟩ := compOper_some hco
      have he : o.dst = some e := he
      rw [he] at h3
      exact (natBle_iff _ _).1 h3
  refine Inv.anyOrder (D := D) (pre := []) (suf := l) (hist := []) (t := t) (s := s) (pr := []) (pm := []) (N := s.nx) (c := c) hT hcall hP hdst ?_ ?_ ops.size (Array.replicate ops.size false) (by simp) ?_ ?_
  · intro a' w' h'
    exact After.trans hst h'
  · intro a' c' v s' w' h1 h0 h2 h3 h4 h5
    refine ⟨c', v, .leaf, s', rfl, h2, h1, h0, hst.trans h3, h4, (fun m v hv => (by cases hv)), h5⟩
  · unfold unl
    rw [show D.plan = l from rfl, ← hP.size]
    rw [List.countP_eq_length]
    intro y _
    by_cases hj : y.i < l.length
    · simp [Array.getD_eq_getD_getElem?, hj]
    · simp [Array.getD_eq_getD_getElem?, hj]
  · have hno : ∀ j, ¬ ((Array.replicate ops.size false).getD j false = true) := by
      intro j
      rw [Array.getD_eq_getD_getElem?]
      by_cases hj : j < ops.size
      · simp [hj]
      · simp [hj]
    constructor
    · rfl
    · rfl
    · exact hrun
    · exact Step.refl _ _ _
    · exact h.drewBy _
    · exact Nat.le_refl _
    · exact fun y _ hl => absurd hl (hno _)
    · exact fun y hy => by cases hy
    · exact fun y _ hl => absurd hl (hno _)
    · exact fun m v hv => (hr m v hv).2
    · rfl
    · intro h1 x h2 e; simp at e
    · exact fun x hx => by cases hx
    · exact fun m v hv _ => (hr m v hv).1
    · exact fun x hx => by cases hx
    · exact fun x hx => by cases hx
    · exact fun x hx => by cases hx
    · exact fun x hx => by cases hx
    · exact fun x hx => by cases hx
    · exact fun x hx => by cases hx
    · exact List.Pairwise.nil
    · exact fun x hx => by cases hx
    · exact fun x hx => by cases hx
    · exact fun x hx => by cases hx
    · exact fun x hx => by cases hx
    · exact fun x hx => by cases hx
    · exact hd
    · exact hn
end
end
end Go.Sy

/-! The symbolic executor, part V: code. -/
namespace Go.Sy
set_option linter.unusedVariables false
set_option linter.unusedSectionVars false
noncomputable section

def regE (call : CallF) (k : KX) (ops : List AOper) : Tmps → S → Bool :=
  List.rec (fun t s => k .normal t s) (fun o _ ih t s => match o with
    | .mk dst op g => guardE g t fun b => match b with
      | false => putK dst .undef t fun t => ih t s
      | true => stepOp call op t s (fun v s => putK dst v t fun t => ih t s) (fun v s => k (.panic v) t s)) ops
theorem regE_nil (call : CallF) (k : KX) (t : Tmps) (s : S) : regE call k [] t s = k .normal t s := rfl
theorem regE_cons (call : CallF) (k : KX) (o : AOper) (l : List AOper) (t : Tmps) (s : S) : regE call k (o :: l) t s = match o with
    | .mk dst op g => guardE g t fun b => match b with
      | false => putK dst .undef t fun t => regE call k l t s
      | true => stepOp call op t s (fun v s => putK dst v t fun t => regE call k l t s) (fun v s => k (.panic v) t s) := rfl

inductive AC where
  | skip
  | reg (l : List AOper)
  | draw (l : List DIt)
  | seq (a b : AC)
  | cond (x : AX) (a b : AC)
  | block (id : Nat) (b : AC)
  | loop (b : AC)
  | exit (id : Nat)
  | ret

abbrev KB := Tmps → S → KX → Bool
def thenK (f : Tmps → S → Bool) (k : KX) : KX := fun ex t s => match ex with
  | .normal => f t s
  | .exit i => k (.exit i) t s
  | .ret => k .ret t s
  | .panic v => k (.panic v) t s
def blockK (id : Nat) (k : KX) : KX := fun ex t s => match ex with
  | .normal => k .normal t s
  | .exit i => (match Nat.beq i id with | true => k .normal t s | false => k (.exit i) t s)
  | .ret => k .ret t s
  | .panic v => k (.panic v) t s
def condK (x : AX) (f g : KB) : KB := fun t s k => optB (ev t x) fun v => optB (asBoolA v) fun b => match b with | true => f t s k | false => g t s k
def loopE (f : KB) (k : KX) (n : Nat) : Tmps → S → Bool := Nat.rec (fun _ _ => false) (fun _ ih t s => f t s (thenK ih k)) n
def exec (call : CallF) (c : AC) : KB :=
  AC.rec (fun t s k => k .normal t s) (fun l t s k => regE call k l t s) (fun l t s k => drawE call l t s k) (fun _ _ f g t s k => f t s (thenK (fun t s => g t s k) k))
    (fun x _ _ f g => condK x f g) (fun id _ f t s k => f t s (blockK id k)) (fun _ f t s k => loopE f k 1048576 t s) (fun id t s k => k (.exit id) t s) (fun t s k => k .ret t s) c
theorem loopE_zero (f : KB) (k : KX) (t : Tmps) (s : S) : loopE f k 0 t s = false := rfl
theorem loopE_succ (f : KB) (k : KX) (n : Nat) (t : Tmps) (s : S) : loopE f k (n + 1) t s = f t s (thenK (loopE f k n) k) := rfl
section
variable (call : CallF) (t : Tmps) (s : S) (k : KX)
theorem exec_skip : exec call .skip t s k = k .normal t s := rfl
theorem exec_reg (l : List AOper) : exec call (.reg l) t s k = regE call k l t s := rfl
theorem exec_draw (l : List DIt) : exec call (.draw l) t s k = drawE call l t s k := rfl
theorem exec_seq (a b : AC) : exec call (.seq a b) t s k = exec call a t s (thenK (fun t s => exec call b t s k) k) := rfl
theorem exec_cond (x : AX) (a b : AC) : exec call (.cond x a b) t s k = condK x (exec call a) (exec call b) t s k := rfl
theorem exec_block (id : Nat) (b : AC) : exec call (.block id b) t s k = exec call b t s (blockK id k) := rfl
theorem exec_loop (b : AC) : exec call (.loop b) t s k = loopE (exec call b) k 1048576 t s := rfl
theorem exec_exit (id : Nat) : exec call (.exit id) t s k = k (.exit id) t s := rfl
theorem exec_ret : exec call .ret t s k = k .ret t s := rfl
end

def compOps (T : TyT) (ops : Array Oper) (n : Nat) : List Oper → Option (List AOper)
  | [] => some []
  | o :: l => match compOper T ops n o with | none => none | some x => (match compOps T ops n l with | none => none | some r => some (x :: r))
def compC (T : TyT) (n : Nat) (hint : Nat → List (Nat × Nat)) : Code → Option AC
  | .skip => some .skip
  | .region id ops d => (match d with
    | false => (match compOps T ops n ops.toList with | none => none | some l => some (.reg l))
    | true => (match compD T ops n (hint id) with | none => none | some l => some (.draw l)))
  | .seq a b => (match compC T n hint a with | none => none | some x => (match compC T n hint b with | none => none | some y => some (.seq x y)))
  | .cond c a b => (match embO c with | none => none | some x => (match compC T n hint a with | none => none | some y => (match compC T n hint b with | none => none | some z => some (.cond x y z))))
  | .block id b => (match compC T n hint b with | none => none | some x => some (.block id x))
  | .loop b => (match compC T n hint b with | none => none | some x => some (.loop x))
  | .exit id => some (.exit id)
  | .ret => some .ret
  | _ => none

section
variable {P : Program} {T : TyT} {call : CallF} {c : Cx} {t : Tmps} {a : Act} {s : S} {w : World}

theorem putA_rel {n : Nat} {dst : Option Nat} (hd : (match dst with | none => true | some d => Nat.ble (Nat.succ d) n) = true) (hn : a.tmps.size = n) {v : AV} (hr : TRel c s.nx t a.tmps) (hw : v.wf c s.nx) :
    TRel c s.nx (putA dst v t) (a.put dst (v.conc c)).tmps ∧ (a.put dst (v.conc c)).tmps.size = n ∧ (a.put dst (v.conc c)).defers = a.defers := by
  cases dst with
  | none => exact ⟨hr, hn, rfl⟩
  | some d =>
    have hd' : d < n := (natBle_iff _ _).1 hd
    exact ⟨TRel.put hr (by rw [hn]; exact hd') rfl hw, by simp [Act.put, hn], rfl⟩

/-- is an operation wanted: what its guard's slot says -/
theorem guard_spec {ops : Array Oper} {n : Nat} {o : Oper} {ao : AOper} (h : compOper T ops n o = some ao) (hr : TRel c s.nx t a.tmps) (hlt : ∀ j want d, o.guard = some (j, want) → (ops[j]?).bind (·.dst) = some d → d < a.tmps.size)
    {k : Bool → Bool} (hk : guardE ao.guard t k = true) : ∃ b, Region.wanted o (yielded ops a.tmps) = b ∧ k b = true := by
  obtain ⟨_, _, _, hg⟩ := compOper_some h
  rcases hg with ⟨h1, h2⟩ | ⟨j, want, d, h1, h2, h3⟩
  · rw [h2] at hk
    exact ⟨true, by simp [Region.wanted, h1], hk⟩
  · rw [h3] at hk
    obtain ⟨v, hv, hk1⟩ := optB_true (show optB (t.get (Nat.succ d)) _ = true from hk)
    obtain ⟨b, hb, hk2⟩ := optB_true hk1
    have e := asBoolA_spec hb
    subst e
    have hd := (hr d _ hv).1
    have hd' : a.tmps.getD d undef = .bool b := hd
    have hl := hlt j want d h1 h2
    refine ⟨boolEq b want, ?_, hk2⟩
    have e2 : a.tmps[d]? = some (.bool b) := by
      rw [Array.getD_eq_getD_getElem?] at hd'
      cases hx : a.tmps[d]? with
      | none => exact absurd (Array.getElem?_eq_none_iff.1 hx) (Nat.not_le.2 hl)
      | some y => rw [hx] at hd'; exact congrArg some hd'
    have e1 : yielded ops a.tmps j = some b := by
      unfold yielded
      rw [h2]
      simp [e2]
    simp only [Region.wanted, h1, e1]
    cases b <;> cases want <;> rfl

theorem regE_sound (hT : TOk P T) (hcall : CallOk P call) {ops : Array Oper} {n : Nat} (hdst : ∀ (j d : Nat), (ops[j]?).bind (·.dst) = some d → d < n) {d : List Deferred} {c0 : Cx} {s0 : S} {w0 : World} {k : KX} :
    ∀ (l : List Oper) (j : Nat) (al : List AOper), (∀ i, l[i]? = ops[j + i]?) → compOps T ops n l = some al → ∀ {c : Cx} {s : S} {w : World} {t : Tmps} {a : Act}, Step c0 c s0 s w0 w → Rel c s w → TRel c s.nx t a.tmps → a.tmps.size = n → a.defers = d →
      regE call k al t s = true → wpOps P ops (Post n d c0 s0 w0 k) (List.range' j l.length) a w := by
  intro l
  induction l with
  | nil =>
    intro j al hl hc c s w t a hst h hr hn hd hk
    simp only [compOps] at hc; injection hc with hc; subst hc
    rw [regE_nil] at hk
    exact ⟨c, t, s, hd, hn, hst, h, hr, hk⟩
  | cons o l ih =>
    intro j al hl hc c s w t a hst h hr hn hd hk
    simp only [compOps] at hc
    split at hc <;> try (simp at hc; done)
    rename_i ao hao
    split at hc <;> try (simp at hc; done)
    rename_i r hr'
    injection hc with hc; subst hc
    rw [regE_cons] at hk
    have ho : ops[j]? = some o := by have := hl 0; simpa using this.symm
    have hl' : ∀ i, l[i]? = ops[j + 1 + i]? := fun i => by have := hl (i + 1); simp at this; rw [this]; congr 1; omega
    obtain ⟨h1, h2, h3, h4⟩ := compOper_some hao
    obtain ⟨dst, op, g⟩ := ao
    have h2 : dst = o.dst := h2
    subst h2
    obtain ⟨b, hb, hk1⟩ := guard_spec hao hr (fun j want d hg hj => by rw [hn]; exact hdst j d hj) hk
    simp only [List.length_cons, List.range'_succ]
    simp only [wpOps, ho]
    cases b with
    | false =>
      simp only [hb, Bool.false_eq_true, if_false]
      have hk1 : putK o.dst .undef t (fun t => regE call k r t s) = true := hk1
      rw [putK_eq] at hk1
      obtain ⟨q1, q2, q3⟩ := putA_rel (c := c) (s := s) (v := .undef) h3 hn hr trivial
      exact ih (j + 1) r hl' hr' hst h q1 q2 (q3.trans hd) hk1
    | true =>
      simp only [hb, if_true]
      refine .inl ?_
      have hk1 : stepOp call op t s (fun v s => putK o.dst v t fun t => regE call k r t s) (fun v s => k (.panic v) t s) = true := hk1
      refine step_sound hT hcall h1 hr h hk1 ⟨?_, ?_⟩
      · intro c' v s' w' hw hs' h' hk2
        rw [putK_eq] at hk2
        obtain ⟨q1, q2, q3⟩ := putA_rel (c := c') (s := s') (v := v) h3 hn (hr.ext hs'.ext hs'.nx) hw
        exact ih (j + 1) r hl' hr' (hst.trans hs') h' q1 q2 (q3.trans hd) hk2
      · intro c' v s' w' hw hs' h' hk2
        exact ⟨c', v, t, s', rfl, hw, hd, hn, hst.trans hs', h', hr.ext hs'.ext hs'.nx, hk2⟩

theorem compOps_dst {ops : Array Oper} {n : Nat} : ∀ {l : List Oper} {al : List AOper}, compOps T ops n l = some al → ∀ o ∈ l, ∀ d, o.dst = some d → d < n := by
  intro l
  induction l with
  | nil => intro al h o ho; cases ho
  | cons x l ih =>
    intro al h o ho d hd
    simp only [compOps] at h
    split at h <;> try (simp at h; done)
    rename_i ao hao
    split at h <;> try (simp at h; done)
    rename_i r hr'
    rcases List.mem_cons.1 ho with rfl | ho
    · obtain ⟨_, _, h3, _⟩ := compOper_some hao
      rw [hd] at h3
      exact (natBle_iff _ _).1 h3
    · exact ih hr' o ho d hd

/-- a loop, by the rounds that are left -/
theorem wp_loop_n {P : Program} {b : Code} {Q : Exit → Act → World → Prop} (J : Nat → Act → World → Prop) (h0 : ∀ a w, ¬ J 0 a w) (round : ∀ m a w, J (m + 1) a w → b.wp P (Exit.then (J m) Q) a w) {m : Nat} {a : Act} {w : World} (h : J m a w) :
    (Code.loop b).wp P Q a w := by
  intro fr k cs
  have key : ∀ m a w, J m a w → ∃ e a' w', Q e a' w' ∧ Arrives P (lone (fr.at a (.code b :: .inLoop b :: k)) cs w) fr k cs e a' w' := by
    intro m
    induction m with
    | zero => intro a w h; exact (h0 a w h).elim
    | succ m ih =>
      intro a w h
      obtain ⟨e, a1, w1, hq, harr⟩ := round m a w h fr (.inLoop b :: k) cs
      cases e with
      | normal =>
        obtain ⟨e2, a2, w2, hq2, harr2⟩ := ih a1 w1 hq
        exact ⟨e2, a2, w2, hq2, .of_steps (Steps.trans harr (.one step_inLoop)) harr2⟩
      | exit id => exact ⟨_, a1, w1, hq, .pass (x := .inLoop b) rfl (fun _ _ => .inl (by simp)) harr⟩
      | goto l => exact ⟨_, a1, w1, hq, .pass (x := .inLoop b) rfl (fun _ _ => .inl (by simp)) harr⟩
      | ret => exact ⟨_, a1, w1, hq, .pass (x := .inLoop b) rfl (fun _ _ => .inl (by simp)) harr⟩
      | panic ch => exact ⟨_, a1, w1, hq, .pass (x := .inLoop b) rfl (fun _ _ => .inl (by simp)) harr⟩
      | outgrown => exact ⟨_, a1, w1, hq, .pass (x := .inLoop b) rfl (fun _ _ => .inl (by simp)) harr⟩
  obtain ⟨e, a', w', hq, harr⟩ := key m a w h
  exact ⟨e, a', w', hq, .of_steps (.one step_loop) harr⟩

/-- Code runs as its data says. -/
theorem exec_sound (hT : TOk P T) (hcall : CallOk P call) (hm : P.follows .mixedOrders = true) {n : Nat} {hint : Nat → List (Nat × Nat)} {d : List Deferred} : ∀ (code : Code) {ac : AC}, compC T n hint code = some ac →
    ∀ {c : Cx} {s : S} {w : World} {t : Tmps} {a : Act} {k : KX}, Rel c s w → TRel c s.nx t a.tmps → a.tmps.size = n → a.defers = d → exec call ac t s k = true → code.wp P (Post n d c s w k) a w := by
  intro code
  induction code with
  | skip =>
    intro ac hc c s w t a k h hr hn hd hk
    simp only [compC] at hc; injection hc with hc; subst hc
    exact wp_skip ⟨c, t, s, hd, hn, Step.refl c s w, h, hr, hk⟩
  | region id ops dr =>
    intro ac hc c s w t a k h hr hn hd hk
    simp only [compC] at hc
    split at hc
    · split at hc <;> try (simp at hc; done)
      rename_i l hl
      injection hc with hc; subst hc
      refine wp_region ?_
      rw [List.range_eq_range', ← Array.length_toList]
      refine regE_sound hT hcall ?_ ops.toList 0 l (fun i => by simp) hl (Step.refl c s w) h hr hn hd hk
      intro j e hj
      cases ho : ops[j]? with
      | none => rw [ho] at hj; cases hj
      | some o =>
        rw [ho] at hj
        exact compOps_dst hl o (by rw [Array.mem_toList_iff]; exact Array.mem_of_getElem? ho) e hj
    · split at hc <;> try (simp at hc; done)
      rename_i l hl
      injection hc with hc; subst hc
      exact draw_sound hT hcall hm hl h hr hn hd hk
  | seq x y ihx ihy =>
    intro ac hc c s w t a k h hr hn hd hk
    simp only [compC] at hc
    split at hc <;> try (simp at hc; done)
    rename_i x' hx
    split at hc <;> try (simp at hc; done)
    rename_i y' hy
    injection hc with hc; subst hc
    rw [exec_seq] at hk
    refine wp_seq (wp_mono (ihx hx h hr hn hd hk) ?_)
    intro e a' w' hq
    cases e with
    | normal =>
      obtain ⟨c', t', s', h1, h2, h3, h4, h5, h6⟩ := hq
      exact wp_mono (ihy hy h4 h5 h2 h1 h6) fun e a w hq => Post.trans h3 hq
    | exit i => exact hq
    | goto l => exact hq
    | ret => exact hq
    | panic ch => exact hq
    | outgrown => exact hq
  | cond x p q ihp ihq =>
    intro ac hc c s w t a k h hr hn hd hk
    simp only [compC] at hc
    split at hc <;> try (simp at hc; done)
    rename_i x' hx
    split at hc <;> try (simp at hc; done)
    rename_i p' hp
    split at hc <;> try (simp at hc; done)
    rename_i q' hq
    injection hc with hc; subst hc
    rw [exec_cond] at hk
    obtain ⟨v, h1, hk1⟩ := optB_true (show optB (ev t x') _ = true from hk)
    obtain ⟨b, h2, hk2⟩ := optB_true hk1
    have e := asBoolA_spec h2
    subst e
    have e1 : a.eval x = .bool b := (ev_spec hr hx h1).1
    cases b with
    | true => exact wp_cond_true e1 (ihp hp h hr hn hd hk2)
    | false => exact wp_cond_false e1 (ihq hq h hr hn hd hk2)
  | block id b ih =>
    intro ac hc c s w t a k h hr hn hd hk
    simp only [compC] at hc
    split at hc <;> try (simp at hc; done)
    rename_i x hx
    injection hc with hc; subst hc
    rw [exec_block] at hk
    refine wp_block (wp_mono (ih hx h hr hn hd hk) ?_)
    intro e a' w' hq
    cases e with
    | normal => exact hq
    | exit i =>
      obtain ⟨c', t', s', h1, h2, h3, h4, h5, h6⟩ := hq
      simp only [Exit.inBlock]
      have h6 : (match Nat.beq i id with | true => k .normal t' s' | false => k (.exit i) t' s') = true := h6
      by_cases hi : i = id
      · subst hi
        rw [if_pos rfl]
        rw [(natBeq_iff i i).2 rfl] at h6
        exact ⟨c', t', s', h1, h2, h3, h4, h5, h6⟩
      · rw [if_neg hi]
        have : Nat.beq i id = false := by
          cases hb : Nat.beq i id with
          | false => rfl
          | true => exact absurd ((natBeq_iff _ _).1 hb) hi
        rw [this] at h6
        exact ⟨c', t', s', h1, h2, h3, h4, h5, h6⟩
    | goto l => exact hq
    | ret => exact hq
    | panic ch => exact hq
    | outgrown => exact hq
  | loop b ih =>
    intro ac hc c s w t a k h hr hn hd hk
    simp only [compC] at hc
    split at hc <;> try (simp at hc; done)
    rename_i x hx
    injection hc with hc; subst hc
    rw [exec_loop] at hk
    refine wp_loop_n (fun m a' w' => After n d c s w a' w' (fun t' s' => loopE (exec call x) k m t' s')) ?_ ?_ (m := 1048576) ⟨c, t, s, hd, hn, Step.refl c s w, h, hr, hk⟩
    · rintro a' w' ⟨c', t', s', _, _, _, _, _, h6⟩
      have h6 : loopE (exec call x) k 0 t' s' = true := h6
      rw [loopE_zero] at h6; cases h6
    · rintro m a' w' ⟨c', t', s', h1, h2, h3, h4, h5, h6⟩
      have h6 : loopE (exec call x) k (m + 1) t' s' = true := h6
      rw [loopE_succ] at h6
      refine wp_mono (ih hx h4 h5 h2 h1 h6) ?_
      intro e a2 w2 hq
      cases e with
      | normal => exact After.trans h3 hq
      | exit i => exact After.trans h3 hq
      | goto l => exact hq
      | ret => exact After.trans h3 hq
      | panic ch =>
        obtain ⟨c', v, t', s', h1, h2, h3', h4, h5, h6⟩ := hq
        exact ⟨c', v, t', s', h1, h2, h3', h4, h3.trans h5, h6⟩
      | outgrown => exact hq.elim
  | exit id =>
    intro ac hc c s w t a k h hr hn hd hk
    simp only [compC] at hc; injection hc with hc; subst hc
    exact wp_exit ⟨c, t, s, hd, hn, Step.refl c s w, h, hr, hk⟩
  | ret =>
    intro ac hc c s w t a k h hr hn hd hk
    simp only [compC] at hc; injection hc with hc; subst hc
    exact wp_ret ⟨c, t, s, hd, hn, Step.refl c s w, h, hr, hk⟩
  | _ => intro ac hc; simp [compC] at hc
end
end
end Go.Sy

/-! The symbolic executor, part W: functions, calls, types. -/
namespace Go.Sy
set_option linter.unusedVariables false
set_option linter.unusedSectionVars false
noncomputable section

inductive ResA where
  | tmp (t : Nat)
  | cell (t : Nat) (n : Option Nat)
structure AFunc where
  n : Nat
  res : List ResA
  body : AC

def argsK (args : List AV) : Nat → Tmps → (Tmps → Bool) → Bool :=
  List.rec (fun _ t k => k t) (fun v _ ih i t k => forceV v fun v => t.setK (some v) (Nat.succ i) fun t => forceN (Nat.add i 1) fun i => ih i t k) args
def resL (res : List ResA) (t : Tmps) (s : S) : Option (List AV) := List.rec (some []) (fun r _ ih => optP (match r with | .tmp n => t.get (Nat.succ n) | .cell n z => readOp t s (.load z (.t n))) none fun v => optP ih none fun l => some (v :: l)) res
def allW (l : List AV) : Option (List AW) := List.rec (some []) (fun v _ ih => match v with | .w x => optP ih none fun l => some (x :: l) | _ => none) l
theorem argsK_nil (i : Nat) (t : Tmps) (k : Tmps → Bool) : argsK [] i t k = k t := rfl
theorem argsK_cons (v : AV) (l : List AV) (i : Nat) (t : Tmps) (k : Tmps → Bool) : argsK (v :: l) i t k = argsK l (i + 1) (t.set (some v) (Nat.succ i)) k := by
  show forceV v (fun v => t.setK (some v) (Nat.succ i) fun t => forceN (Nat.add i 1) fun i => argsK l i t k) = _
  rw [forceV_eq, Tree.setK_eq, forceN_eq]
theorem resL_nil (t : Tmps) (s : S) : resL [] t s = some [] := rfl
theorem resL_cons (r : ResA) (l : List ResA) (t : Tmps) (s : S) : resL (r :: l) t s = optP (match r with | .tmp n => t.get (Nat.succ n) | .cell n z => readOp t s (.load z (.t n))) none fun v => optP (resL l t s) none fun l => some (v :: l) := rfl
theorem allW_cons (v : AV) (l : List AV) : allW (v :: l) = match v with | .w x => optP (allW l) none fun l => some (x :: l) | _ => none := rfl
def mkRes (l : List AV) : Option AV := match l with
  | [] => some (.tup [])
  | v :: r => (match r with | [] => some v | u :: q => optP (allW (v :: u :: q)) none fun l => some (.tup l))
def resK (res : List ResA) (t : Tmps) (s : S) (k : KC) : Bool := optB (resL res t s) fun l => optB (mkRes l) fun v => k (.val v) s
def retK (res : List ResA) (k : KC) : KX := fun ex t s => match ex with
  | .normal => resK res t s k
  | .ret => resK res t s k
  | .exit _ => false
  | .panic v => k (.panic v) s
def runF (call : CallF) (fn : AFunc) (args : List AV) (s : S) (k : KC) : Bool := match fn with
  | .mk n res body => ifB (Nat.ble (llen args) n) (argsK args 0 .leaf fun t => exec call body t s (retK res k))
abbrev CallX := List AV → S → KC → Bool
abbrev CallY := CallF → CallX
/-- no call at all -/
def noCall : CallF := fun _ _ _ _ => false
def callA (F : Tree AFunc) (X : Tree CallY) (n : Nat) : CallF :=
  Nat.rec (fun f args s k => optB (X.get (Nat.succ f)) fun g => g noCall args s k)
    (fun _ ih f args s k => match X.get (Nat.succ f) with
      | some g => g ih args s k
      | none => optB (F.get (Nat.succ f)) fun fn => runF ih fn args s k) n
theorem callA_zero (F : Tree AFunc) (X : Tree CallY) (f : Nat) (args : List AV) (s : S) (k : KC) : callA F X 0 f args s k = optB (X.get (Nat.succ f)) fun g => g noCall args s k := rfl
theorem callA_succ (F : Tree AFunc) (X : Tree CallY) (n f : Nat) (args : List AV) (s : S) (k : KC) : callA F X (n + 1) f args s k = match X.get (Nat.succ f) with
      | some g => g (callA F X n) args s k
      | none => optB (F.get (Nat.succ f)) fun fn => runF (callA F X n) fn args s k := rfl

def compRes (T : TyT) : List ResultVar → Option (List ResA)
  | [] => some []
  | .tmp t :: l => (match compRes T l with | none => none | some r => some (.tmp t :: r))
  | .cell a ty :: l => (match T ty with | none => none | some i => (match compRes T l with | none => none | some r => some (.cell a (aggSize i) :: r)))

structure FnOk (P : Program) (T : TyT) (f : Nat) (fn : AFunc) (func : Func) (code : Code) (hint : Nat → List (Nat × Nat)) : Prop where
  at_ : P.funcs[f]? = some func
  call : ∀ args w, (callFunc f args).run P w = .ok (.enter f args) w
  body : func.body = some code
  ntmps : func.ntmps = fn.n
  comp : compC T fn.n hint code = some fn.body
  res : compRes T func.results.toList = some fn.res
def FOk (P : Program) (T : TyT) (F : Tree AFunc) : Prop := ∀ f fn, F.get (Nat.succ f) = some fn → ∃ func code hint, FnOk P T f fn func code hint
def XOk1 (P : Program) (f : Nat) (g : CallX) : Prop := ∀ args s k, g args s k = true → ∀ (c : Cx) (w : World), Rel c s w → (∀ v ∈ args, v.wf c s.nx) → CallRuns P f (args.map (AV.conc c)).toArray w (CPost c s w k)
def XOk (P : Program) (X : Tree CallY) : Prop := ∀ f g, X.get (Nat.succ f) = some g → ∀ call, CallOk P call → XOk1 P f (g call)

section
variable {P : Program} {T : TyT} {call : CallF} {c : Cx} {t : Tmps} {a : Act} {s : S} {w : World}

theorem args_rel : ∀ (args : List AV) (i : Nat) (t : Tmps) (vs : Array Value), TRel c s.nx t vs → (∀ v ∈ args, v.wf c s.nx) → (∀ j v, args[j]? = some v → vs[i + j]? = some (v.conc c)) → ∀ {k : Tmps → Bool}, argsK args i t k = true →
    ∃ t', TRel c s.nx t' vs ∧ k t' = true := by
  intro args
  induction args with
  | nil => intro i t vs h _ _ k hk; exact ⟨t, h, hk⟩
  | cons v l ih =>
    intro i t vs h hw hv k hk
    rw [argsK_cons] at hk
    refine ih (i + 1) _ vs ?_ (fun u hu => hw u (List.mem_cons_of_mem _ hu)) (fun j u hu => by have := hv (j + 1) u (by simpa using hu); rw [← this]; congr 1; omega) hk
    intro n u hu
    rw [Tree.get_set _ _ _ _ (by omega) (by omega)] at hu
    split at hu
    · rename_i e
      have e : n = i := by omega
      subst e
      injection hu with hu; subst hu
      have := hv 0 v rfl
      simp only [Nat.add_zero] at this
      exact ⟨by rw [Array.getD_eq_getD_getElem?, this]; rfl, hw v (List.mem_cons_self ..)⟩
    · exact h n u hu

theorem loadVar_of {ty : TypeId} {ad : Addr} {v : Value} {n : Nat} (hv : a.tmps.getD n undef = .pointer (some ad)) (h : (execOp a.eval ⟨none, .load ty (.tmp n), 0, "", #[], none⟩).run P w = .ok (.value v) w) :
    (do loadVar ty (← asAddr (a.tmps.getD n undef)) : Sem Value).run P w = .ok v w := by
  have hv' : a.eval (.tmp n) = .pointer (some ad) := hv
  simp only [execOp, Instr.loadAt, hv', Instr.sureAddr] at h
  simp only [hv, asAddr, pure_bind]
  simp only [pure_bind, Sem.run_bind] at h
  cases hr : (loadVar ty ad).run P w with
  | ok u w' =>
    rw [hr] at h
    simp only [Result.andThen_ok, Sem.run_pure] at h
    injection h with h1 h2
    injection h1 with h1
    rw [h1, h2]
  | halt x w' => rw [hr] at h; cases h

theorem res_sound (hT : TOk P T) (h : Rel c s w) (hr : TRel c s.nx t a.tmps) : ∀ {rs : List ResultVar} {res : List ResA} {l : List AV}, compRes T rs = some res → resL res t s = some l →
    (rs.mapM (m := Sem) fun
      | .tmp t => pure (a.tmps.getD t undef)
      | .cell x ty => do loadVar ty (← asAddr (a.tmps.getD x undef))).run P w = .ok (l.map (AV.conc c)) w ∧ ∀ v ∈ l, v.wf c s.nx := by
  intro rs
  induction rs with
  | nil =>
    intro res l h1 h2
    simp only [compRes] at h1; injection h1 with h1; subst h1
    rw [resL_nil] at h2; injection h2 with h2; subst h2
    simp
  | cons x rs ih =>
    intro res l h1 h2
    cases x with
    | tmp n =>
      simp only [compRes] at h1
      split at h1 <;> try (simp at h1; done)
      rename_i r hr'
      injection h1 with h1; subst h1
      rw [resL_cons] at h2
      obtain ⟨v, hv, g1⟩ := optP_some h2
      obtain ⟨q, hq, g2⟩ := optP_some g1
      injection g2 with g2; subst g2
      have hv : t.get (Nat.succ n) = some v := hv
      obtain ⟨e1, e2⟩ := hr n v hv
      obtain ⟨e3, e4⟩ := ih hr' hq
      refine ⟨?_, fun u hu => ?_⟩
      · rw [List.mapM_cons]
        simp only [Sem.run_bind, Sem.run_pure, Result.andThen_ok, e1, List.map_cons]
        rw [e3]; rfl
      · rcases List.mem_cons.1 hu with rfl | hu
        · exact e2
        · exact e4 u hu
    | cell n ty =>
      simp only [compRes] at h1
      split at h1 <;> try (simp at h1; done)
      rename_i i hi
      split at h1 <;> try (simp at h1; done)
      rename_i r hr'
      injection h1 with h1; subst h1
      rw [resL_cons] at h2
      obtain ⟨v, hv, g1⟩ := optP_some h2
      obtain ⟨q, hq, g2⟩ := optP_some g1
      injection g2 with g2; subst g2
      have hv : readOp t s (.load (aggSize i) (.t n)) = some v := hv
      have hcomp : compR T (Op.load ty (.tmp n)) = some (.load (aggSize i) (.t n)) := by simp [compR, hi, embO]
      obtain ⟨e1, e2⟩ := read_sound (a := a) (o := ⟨none, .load ty (.tmp n), 0, "", #[], none⟩) hT hcomp hr h.view hv
      obtain ⟨u, hu, g3⟩ := optP_some (show optP (ev t (.t n)) none _ = some v from hv)
      obtain ⟨p, hp, g4⟩ := optP_some g3
      have ep := asPtrA_spec hp
      rw [ep] at hu
      have ead := (ev_spec (o := .tmp n) hr rfl hu).1
      have e5 := loadVar_of (P := P) (w := w) (a := a) ead e1
      obtain ⟨e3, e4⟩ := ih hr' hq
      refine ⟨?_, fun u hu => ?_⟩
      · rw [List.mapM_cons]
        simp only [Sem.run_bind] at e5 ⊢
        rw [e5]
        simp only [Result.andThen_ok, List.map_cons]
        rw [e3]; rfl
      · rcases List.mem_cons.1 hu with rfl | hu
        · exact e2
        · exact e4 u hu

theorem allW_spec : ∀ {l : List AV} {m : List AW}, allW l = some m → l = m.map AV.w := by
  intro l
  induction l with
  | nil => intro m h; injection h with h; subst h; rfl
  | cons v l ih =>
    intro m h
    rw [allW_cons] at h
    split at h <;> try (simp at h; done)
    obtain ⟨q, hq, g⟩ := optP_some h
    injection g with g; subst g
    rw [ih hq]; rfl
theorem mkRes_spec {l : List AV} {v : AV} (h : mkRes l = some v) (hw : ∀ u ∈ l, u.wf c s.nx) :
    (if h : (l.map (AV.conc c)).toArray.size = 1 then (l.map (AV.conc c)).toArray[0] else .tuple (l.map (AV.conc c)).toArray) = v.conc c ∧ v.wf c s.nx := by
  cases l with
  | nil => simp only [mkRes] at h; injection h with h; subst h; exact ⟨rfl, by intro x hx; cases hx⟩
  | cons x r =>
    cases r with
    | nil => simp only [mkRes] at h; injection h with h; subst h; exact ⟨rfl, hw x (List.mem_cons_self ..)⟩
    | cons y q =>
      simp only [mkRes] at h
      obtain ⟨m, hm, g⟩ := optP_some h
      injection g with g; subst g
      have e := allW_spec hm
      rw [e] at hw ⊢
      have hlen : m.length ≠ 1 := by
        have := congrArg List.length e
        simp at this; omega
      refine ⟨?_, fun u hu => hw (.w u) (List.mem_map_of_mem hu)⟩
      rw [dif_neg (by simpa using hlen)]
      simp [AV.conc]

theorem run_results (fn : Func) {l : List Value} (h : (fn.results.toList.mapM (m := Sem) fun
      | .tmp t => pure (a.tmps.getD t undef)
      | .cell x ty => do loadVar ty (← asAddr (a.tmps.getD x undef))).run P w = .ok l w) :
    (results fn a.tmps).run P w = .ok (if h : l.toArray.size = 1 then l.toArray[0] else .tuple l.toArray) w := by
  unfold results
  rw [Array.mapM_eq_mapM_toList]
  simp only [Sem.run_bind, Sem.run_map, Sem.run_pure]
  exact (congrArg (fun r => Result.andThen (Result.andThen r fun (a : List Value) w' => Result.ok a.toArray w') (fun (a : Array Value) w' => Result.ok (if h : a.size = 1 then a[0] else Value.tuple a) w')) h).trans rfl

theorem runF_sound (hT : TOk P T) (hcall : CallOk P call) (hm : P.follows .mixedOrders = true) {f : Nat} {fn : AFunc} {func : Func} {code : Code} {hint : Nat → List (Nat × Nat)} (hf : FnOk P T f fn func code hint)
    {args : List AV} {k : KC} (hk : runF call fn args s k = true) (h : Rel c s w) (hw : ∀ v ∈ args, v.wf c s.nx) : Calls P f (args.map (AV.conc c)).toArray w (CPost c s w k) := by
  obtain ⟨n, res, body⟩ := fn
  obtain ⟨hlen, hk1⟩ := ifB_true (show ifB (Nat.ble (llen args) n) _ = true from hk)
  have hlen := (natBle_iff _ _).1 hlen
  rw [llen_eq] at hlen
  have hn : func.ntmps = n := hf.ntmps
  refine calls_of_wp hf.at_ hf.body ?_
  rw [hn]
  obtain ⟨t, ht, hk2⟩ := args_rel (c := c) (s := s) args 0 .leaf ((args.map (AV.conc c)).toArray ++ Array.replicate (n - (args.map (AV.conc c)).toArray.size) undef) (by intro m v hv; cases hv) hw
    (by
      intro j v hv
      rw [Nat.zero_add]
      have hj : j < args.length := (List.getElem?_eq_some_iff.1 hv).1
      rw [Array.getElem?_append_left (by simpa using hj)]
      simp [hv]) hk1
  refine wp_mono (exec_sound hT hcall hm code hf.comp h ht (by simp; omega) rfl hk2) ?_
  have key : ∀ (a' : Act) (w' : World), After n [] c s w a' w' (fun t' s' => resK res t' s' k) → a'.defers = [] ∧ ∃ v, (results func a'.tmps).run P w' = .ok v w' ∧ CPost c s w k (.returned v) w' := by
    rintro a' w' ⟨c', t', s', h1, h2, h3, h4, h5, h6⟩
    obtain ⟨l, hl, h7⟩ := optB_true h6
    obtain ⟨v, hv, h8⟩ := optB_true h7
    obtain ⟨e1, e2⟩ := res_sound hT h4 h5 hf.res hl
    obtain ⟨e3, e4⟩ := mkRes_spec (c := c') (s := s') hv e2
    refine ⟨h1, _, run_results func e1, ?_⟩
    exact ⟨c', v, s', e3, e4, h3, h4, h8⟩
  intro e a' w' hq
  cases e with
  | normal => exact key a' w' hq
  | ret => exact key a' w' hq
  | exit i => obtain ⟨_, _, _, _, _, _, _, _, h6⟩ := hq; cases h6
  | goto l => exact hq.elim
  | panic ch =>
    obtain ⟨c', v, t', s', h1, h2, h3, _, h4, h5, _, h6⟩ := hq
    exact ⟨h3, c', v, s', h1, h2, h4, h5, h6⟩
  | outgrown => exact hq.elim

theorem callA_ok (hT : TOk P T) (hm : P.follows .mixedOrders = true) {F : Tree AFunc} {X : Tree CallY} (hF : FOk P T F) (hX : XOk P X) : ∀ n, CallOk P (callA F X n) := by
  intro n
  induction n with
  | zero =>
    intro f args s k hk c w h hw
    rw [callA_zero] at hk
    obtain ⟨g, hg, hk1⟩ := optB_true hk
    exact hX f g hg noCall (fun f args s k h => by cases h) args s k hk1 c w h hw
  | succ n ih =>
    intro f args s k hk c w h hw
    rw [callA_succ] at hk
    split at hk
    · rename_i g hg
      exact hX f g hg _ ih args s k hk c w h hw
    · obtain ⟨fn, hfn, hk1⟩ := optB_true hk
      obtain ⟨func, code, hint, hf⟩ := hF f fn hfn
      exact .inl ⟨hf.call _ w, runF_sound hT ih hm hf hk1 h hw⟩
end
end
end Go.Sy

