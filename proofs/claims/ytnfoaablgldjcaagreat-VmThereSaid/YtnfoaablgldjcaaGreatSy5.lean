/- The symbolic executor: parts Uf, Ug, U, V, W, X, Y, Z, Za. Sound by one theorem (callA_ok). No condition. -/
import Derived.Test.YtnfoaablgldjcaaGreatSy4
import Derived.Shelf.Spec.BitsCarry
set_option linter.unusedVariables false
set_option linter.unusedSimpArgs false
set_option linter.unusedSectionVars false
/-! The symbolic executor, part Uf: a drawn region's run: an operation that writes; the end. -/
namespace Go.Sy
set_option linter.unusedVariables false
set_option linter.unusedSectionVars false

section
variable {P : Program} {T : TyT} {ops : Array Oper} {D : DK} {pre suf : List DIt} {hist : List HI} {t : Tmps} {s : S} {pr : List PR} {pm : List PM} {N : Nat} {L : Nat → Prop} {c : Cx} {a : Act} {w : World}

/-- blocks that were made ahead are taken up, in order -/
theorem adoptK_spec {c0 : Cx} {s0 : S} {w0 w : World} {c : Cx} {N : Nat} (anc : Option Nat) : ∀ (pm : List PM) {s : S} {k : List PM → S → Bool}, adoptK anc pm s k = true → Step c0 c s0 s w0 w → Rel c s w →
    (∀ p ∈ pm, taken anc p.i = true → w0.heap.size ≤ c.ι p.id ∧ ObjRel c p.id p.ob (w.heap[c.ι p.id]?) ∧ (∀ id o, s.at id = some o → c.ι id ≠ c.ι p.id) ∧ p.ob.wf c N) →
    (∀ p ∈ pm, ∀ q ∈ pm, taken anc p.i = true → taken anc q.i = true → p.id ≠ q.id → c.ι p.id ≠ c.ι q.id) → (pm.Pairwise fun p q => p.id ≠ q.id) →
    ∃ s', k (pm.filter fun p => !taken anc p.i) s' = true ∧ Step c0 c s0 s' w0 w ∧ Rel c s' w ∧ s.nx ≤ s'.nx ∧ s'.φ = s.φ ∧ (∀ p ∈ pm, taken anc p.i = true → p.id < s'.nx) ∧
      ∀ id o, s'.at id = some o → s.at id = some o ∨ ∃ p ∈ pm, taken anc p.i = true ∧ p.id = id := by
  intro pm
  induction pm with
  | nil => intro s k hk hst hr _ _ _; exact ⟨s, hk, hst, hr, Nat.le_refl _, rfl, by simp, fun id o h => .inl h⟩
  | cons p pm ih =>
    intro s k hk hst hr hb hj hd
    rw [adoptK_cons] at hk
    rw [List.pairwise_cons] at hd
    cases ht : taken anc p.i with
    | false =>
      rw [ht] at hk
      obtain ⟨s', h1, h2, h3, h4, h5, h6, h7⟩ := ih (k := fun l s => k (p :: l) s) hk hst hr (fun q hq => hb q (List.mem_cons_of_mem _ hq)) (fun q hq r hr => hj q (List.mem_cons_of_mem _ hq) r (List.mem_cons_of_mem _ hr)) hd.2
      refine ⟨s', by simpa [ht] using h1, h2, h3, h4, h5, ?_, fun id o h => (h7 id o h).imp (fun h => h) fun ⟨q, hq, h⟩ => ⟨q, List.mem_cons_of_mem _ hq, h⟩⟩
      intro q hq hqt
      rcases List.mem_cons.1 hq with rfl | hq
      · rw [ht] at hqt; cases hqt
      · exact h6 q hq hqt
    | true =>
      rw [ht] at hk
      have hk : s.newAtK p.id p.ob (fun s => adoptK anc pm s k) = true := hk
      rw [S.newAtK_eq] at hk
      obtain ⟨g1, hk1⟩ := ifB_true hk
      obtain ⟨g2, hk2⟩ := ifB_true hk1
      have g1 := (natBle_iff _ _).1 g1
      obtain ⟨b1, b2, b3, b4⟩ := hb p (List.mem_cons_self ..) ht
      have hw : p.ob.wf c (p.id + 1) := InO.wf (InO.mono (fun id h => Nat.lt_succ_of_le ((natBle_iff _ _).1 h)) (inO_spec g2)) b4
      have hr' := hr.newAt g1 hw b2 b3
      have hst' := hst.newAt p.ob g1 b1
      have hb' : ∀ q ∈ pm, taken anc q.i = true → w0.heap.size ≤ c.ι q.id ∧ ObjRel c q.id q.ob (w.heap[c.ι q.id]?) ∧ (∀ id o, (s.newAt p.id p.ob).at id = some o → c.ι id ≠ c.ι q.id) ∧ q.ob.wf c N := by
        intro q hq hqt
        obtain ⟨c1, c2, c3, c4⟩ := hb q (List.mem_cons_of_mem _ hq) hqt
        refine ⟨c1, c2, ?_, c4⟩
        intro id o h
        rw [S.at_newAt] at h
        split at h
        · rename_i e; subst e
          exact hj p (List.mem_cons_self ..) q (List.mem_cons_of_mem _ hq) ht hqt (hd.1 q hq)
        · exact c3 id o h
      obtain ⟨s', h1, h2, h3, h4, h5, h6, h7⟩ := ih (k := k) hk2 hst' hr' hb' (fun q hq r hr => hj q (List.mem_cons_of_mem _ hq) r (List.mem_cons_of_mem _ hr)) hd.2
      have hn1 : s.nx ≤ s'.nx := Nat.le_trans (by show s.nx ≤ p.id + 1; omega) h4
      have hn2 : p.id < s'.nx := Nat.lt_of_lt_of_le (by show p.id < p.id + 1; omega) h4
      refine ⟨s', by simpa [ht] using h1, h2, h3, hn1, h5, ?_, ?_⟩
      · intro q hq hqt
        rcases List.mem_cons.1 hq with rfl | hq
        · exact hn2
        · exact h6 q hq hqt
      · intro id o h
        rcases h7 id o h with h | ⟨q, hq, h⟩
        · rw [S.at_newAt] at h
          split at h
          · rename_i e; exact .inr ⟨p, List.mem_cons_self .., ht, e.symm⟩
          · exact .inl h
        · exact .inr ⟨q, List.mem_cons_of_mem _ hq, h⟩

theorem recheck_spec {anc : Nat} {s : S} : ∀ (pr : List PR) {k : List PR → Bool}, recheck anc s pr k = true → ∃ pr', k pr' = true ∧ (∀ e ∈ pr', e ∈ pr ∧ readOp e.t (rdOf e.l s) e.o = some e.v ∧ ∀ p ∈ e.l, Nat.testBit anc p.i = false) ∧ ∀ e ∈ pr, Nat.testBit anc e.i = true ∨ e ∈ pr' := by
  intro pr
  induction pr with
  | nil => intro k h; exact ⟨[], h, by simp, by simp⟩
  | cons x pr ih =>
    intro k h
    rw [recheck_cons] at h
    cases ht : Nat.testBit anc x.i with
    | true =>
      rw [ht] at h
      obtain ⟨pr', h1, h2, h3⟩ := ih (k := k) h
      refine ⟨pr', h1, fun e he => ⟨List.mem_cons_of_mem _ (h2 e he).1, (h2 e he).2⟩, fun e he => ?_⟩
      rcases List.mem_cons.1 he with rfl | he
      · exact .inl ht
      · exact h3 e he
    | false =>
      rw [ht] at h
      obtain ⟨v, hv, g1⟩ := optB_true (show optB (readOp x.t (rdOf x.l s) x.o) _ = true from h)
      obtain ⟨g2, g3⟩ := ifB_true g1
      obtain ⟨g2, g4⟩ := and2_iff.1 g2
      have g4 := (lall_iff _ _).1 g4
      have e := vEq_spec _ _ g2
      subst e
      obtain ⟨pr', h1, h2, h3⟩ := ih (k := fun l => k (x :: l)) g3
      refine ⟨x :: pr', h1, fun e he => ?_, fun e he => ?_⟩
      · rcases List.mem_cons.1 he with rfl | he
        · refine ⟨List.mem_cons_self .., hv, fun p hp => ?_⟩
          have := g4 p hp
          cases hb : Nat.testBit anc p.i with
          | true => rw [hb] at this; cases this
          | false => rfl
        · exact ⟨List.mem_cons_of_mem _ (h2 e he).1, (h2 e he).2⟩
      · rcases List.mem_cons.1 he with rfl | he
        · exact .inr (List.mem_cons_self ..)
        · exact (h3 e he).imp (fun h => h) (List.mem_cons_of_mem _)

theorem Step.recx {c0 c1 c2 : Cx} {s0 s1 : S} {w0 w1 : World} (h : Step c0 c1 s0 s1 w0 w1) (hr : Rel c1 s1 w1) (he : Cx.Ext s1.nx c1 c2) : Step c0 c2 s0 s1 w0 w1 := by
  refine ⟨h.ext.trans he h.nx, h.nx, h.os, h.tape, h.output, h.size, h.frame, ?_⟩
  intro id o ho
  rw [he.ι id (hr.lt id o ho)]
  exact h.anew id o ho
end
end Go.Sy

/-! The symbolic executor, part Ug: a drawn region's run: what holds when an operation that writes is done. -/
namespace Go.Sy
set_option linter.unusedVariables false
set_option linter.unusedSectionVars false

section
variable {P : Program} {T : TyT} {ops : Array Oper} {D : DK} {pre suf : List DIt} {hist : List HI} {t : Tmps} {s : S} {pr : List PR} {pm : List PM} {N : Nat} {L : Nat → Prop} {c : Cx} {a : Act} {w : World}

theorem Inv.wrote (hP : PlanOk T ops D.n D.plan) {y : DIt} (I : Inv D pre (y :: suf) hist t s pr pm N L c a w) (hb : isB y.op.op = true) (hanc : ∀ k, Nat.testBit y.anc k = true → L k) (hdst : ∀ d, y.op.dst = some d → d < D.n)
    {v : AV} {c2 : Cx} {s1 : S} {w1 : World} {pr' : List PR} {pm' : List PM} {N' : Nat} (hrun : drawL D.call D.base D.k suf (putA y.op.dst v t) s1 pr' pm' = true) (hst : Step D.c0 c2 D.s0 s1 D.w0 w1) (hrel : Rel c2 s1 w1)
    (hnx : s.nx ≤ s1.nx) (hN : N ≤ N') (hN1 : s1.nx ≤ N') (hon : On (Alw s pm L) c c2) (hv : v.wf c2 s1.nx) (hprok : PrOk s1 pm' pr') (hprs : ∀ e ∈ pr, e ∈ pr' ∨ Nat.testBit y.anc e.i = true)
    (hpms : ∀ p ∈ pm', p ∈ pm) (hpmt : ∀ p ∈ pm, p ∈ pm' ∨ (p.id < s1.nx ∧ L p.i)) (hpmx : ∀ p ∈ pm', s1.nx ≤ p.id) (hpmn : pm'.Pairwise fun p q => p.id ≠ q.id) (hsz : w.heap.size ≤ w1.heap.size)
    (hheap : ∀ p ∈ pm', L p.i → w1.heap[c.ι p.id]? = w.heap[c.ι p.id]? ∧ ∀ id o, s1.at id = some o → c2.ι id ≠ c.ι p.id) {b : Bool} (hg : GuardV y.op.guard t b) (hgv : b = false → v = .undef) :
    Inv D (pre ++ [y]) suf (hist ++ [⟨y, t, v⟩]) (putA y.op.dst v t) s1 pr' pm' N' (fun j => L j ∨ j = y.i) c2 (a.put y.op.dst (v.conc c2)) w1 := by
  have hyp : y ∈ D.plan := by rw [I.plan]; simp
  have hpre : ∀ z ∈ hist, okPair z.it y = true := fun z hz => pair_split hP.pair I.plan (by rw [← I.its]; exact List.mem_map_of_mem hz) (List.mem_cons_self ..)
  have hLz : ∀ z ∈ hist, L z.it.i ∨ z.it.i = y.i → L z.it.i := fun z hz h => h.resolve_right (okPair_ne (hpre z hz))
  have hLp : ∀ p ∈ pm', L p.i ∨ p.i = y.i → L p.i := by
    intro p hp h
    obtain ⟨x, hx, e, _⟩ := I.pmx p (hpms p hp)
    exact h.resolve_right fun e' => okPair_ne (hpre x hx) (e.trans e')
  have hal : ∀ p ∈ pm', L p.i → Alw s pm L p.id := fun p hp h => .inr ⟨p, hpms p hp, rfl, h⟩
  constructor
  · rw [I.plan]; simp
  · simp [I.its]
  · exact hrun
  · exact hst
  · exact hrel
  · exact hN1
  · intro z hz h
    rcases h with h | h
    · exact List.mem_append_left _ (I.inPre z hz h)
    · rw [plan_inj hP.pair hz hyp h]; simp
  · intro z hz h
    rcases List.mem_append.1 hz with hz | hz
    · exact .inl (I.bars z hz h)
    · simp at hz; subst hz; exact .inr rfl
  · intro z hz h k hk
    rcases h with h | h
    · exact .inl (I.closed z hz h k hk)
    · rw [plan_inj hP.pair hz hyp h] at hk
      exact .inl (hanc k hk)
  · exact I.t0wf
  · rw [tmAt_snoc, ← I.tEq]
  · intro h1 x h2 e
    rcases snoc_split e with ⟨rfl, rfl, _⟩ | ⟨h2', _, e'⟩
    · exact I.tEq
    · exact I.tAt h1 x h2' e'
  · intro z hz m hd h
    rcases List.mem_append.1 hz with hz | hz
    · have hl := hLz z hz h
      rw [put_ne (fun e => (okPair_dst (hpre z hz) hd e).elim), I.tm1 z hz m hd hl, hon.v (I.alw hz hl)]
    · simp at hz; subst hz
      have hd : y.op.dst = some m := hd
      show (a.put y.op.dst (v.conc c2)).tmps.getD m undef = v.conc c2
      rw [hd, put_eq (by rw [I.size]; exact hdst m hd)]
  · intro m u hu h
    have hw : u.wf c s.nx := AV.wf_ext I.step.ext I.step.nx (I.t0wf m u hu)
    rw [put_ne (fun e => h ⟨y, t, v⟩ (by simp) e (.inr rfl)), I.tm2 m u hu fun z hz hd hl => h z (List.mem_append_left _ hz) hd (.inl hl)]
    rw [hon.v (InV.mono (fun id h => .inl h) hw.names)]
  · intro z hz h
    rcases List.mem_append.1 hz with hz | hz
    · have hl := hLz z hz h
      exact AV.wf_mono (hon.v_wf (I.alw hz hl) (I.vwf z hz hl)) hN
    · simp at hz; subst hz; exact AV.wf_mono hv hN1
  · intro z hz
    rcases List.mem_append.1 hz with hz | hz
    · refine InV.mono (fun id h => ?_) (I.vin z hz)
      rcases h with h | ⟨p, hp, e, h⟩
      · exact .inl (Nat.lt_of_lt_of_le h hnx)
      · rcases hpmt p hp with hp' | ⟨hp', _⟩
        · exact .inr ⟨p, hp', e, h⟩
        · exact .inl (by omega)
    · simp at hz; subst hz; exact InV.mono (fun id h => .inl h) hv.names
  · intro z hz
    rcases List.mem_append.1 hz with hz | hz
    · obtain ⟨b, h1, h2, h3⟩ := I.ev z hz
      refine ⟨b, h1, h2, fun h => ?_⟩
      have h3 := h3 h
      unfold EvI at h3 ⊢
      split at h3 <;> rename_i o ho
      · exact h3
      · rcases h3 with h3 | h3
        · exact .inl (.inl h3)
        · obtain ⟨l, h3, hla⟩ := h3
          rcases hprs _ h3 with h4 | h4
          · exact .inr ⟨l, h4, hla⟩
          · exact .inl (.inl (hanc _ h4))
      · rcases h3 with h3 | ⟨ob, g1, g2, g3⟩
        · exact .inl (.inl h3)
        · rcases hpmt _ g2 with h4 | ⟨_, h4⟩
          · exact .inr ⟨ob, g1, h4, g3⟩
          · exact .inl (.inl h4)
      · trivial
    · simp at hz; subst hz
      refine ⟨b, hg, hgv, fun _ => ?_⟩
      unfold EvI
      split <;> rename_i o ho
      · have ho : y.op.op = _ := ho; rw [ho] at hb; cases hb
      · have ho : y.op.op = _ := ho; rw [ho] at hb; cases hb
      · have ho : y.op.op = _ := ho; rw [ho] at hb; cases hb
      · trivial
  · exact hprok
  · exact fun p hp => ⟨hpmx p hp, Nat.lt_of_lt_of_le (I.pmid p (hpms p hp)).2 hN⟩
  · exact fun p hp q hq e => I.pmd p (hpms p hp) q (hpms q hq) e
  · exact hpmn
  · intro p hp
    obtain ⟨x, hx, h⟩ := I.pmx p (hpms p hp)
    exact ⟨x, List.mem_append_left _ hx, h⟩
  · exact fun p hp q hq e => I.pmu p (hpms p hp) q (hpms q hq) e
  · intro p hp
    refine InO.mono (fun id h => ?_) (I.pmin p (hpms p hp))
    rcases h with h | ⟨q, hq, e, z, hz, h⟩
    · exact .inl (Nat.lt_of_lt_of_le h hnx)
    · rcases hpmt q hq with hq' | ⟨hq', _⟩
      · exact .inr ⟨q, hq', e, z, List.mem_append_left _ hz, h⟩
      · exact .inl (by omega)
  · intro p hp h
    have hl := hLp p hp h
    obtain ⟨g1, g2, g3, g4, g5⟩ := I.pmb p (hpms p hp) hl
    obtain ⟨k1, k2⟩ := hheap p hp hl
    have hid := hal p hp hl
    have e := (hon.at_ p.id hid).1
    rw [e]
    have hob : InO (Alw s pm L) p.ob := InO.mono (fun id hh => by
      rcases hh with hh | ⟨q, hq, e1, z, hz, e2, hb⟩
      · exact .inl hh
      · exact .inr ⟨q, hq, e1, I.closed z (by rw [I.plan]; exact List.mem_append_left _ hz) (by rw [e2]; exact hl) _ hb⟩) (I.pmin p (hpms p hp))
    refine ⟨g1, Nat.lt_of_lt_of_le g2 hsz, ?_, k2, AObj.wf_mono (hon.o_wf hob g5) hN⟩
    rw [k1]; exact hon.obj hid hob g3
  · intro p hp q hq h1 h2 hne
    have l1 := hLp p hp h1
    have l2 := hLp q hq h2
    rw [(hon.at_ p.id (hal p hp l1)).1, (hon.at_ q.id (hal q hq l2)).1]
    exact I.pmj p (hpms p hp) q (hpms q hq) l1 l2 hne
  · rw [put_defers_eq]; exact I.defs
  · rw [put_size_eq]; exact I.size

open Classical in
/-- The next operation that writes comes to its turn. -/
theorem Inv.barrier (hT : TOk P T) (hcall : CallOk P D.call) (hP : PlanOk T ops D.n D.plan) (hdst : ∀ (j d : Nat), (ops[j]?).bind (·.dst) = some d → d < D.n) {y : DIt} (I : Inv D pre (y :: suf) hist t s pr pm N L c a w) (hb : isB y.op.op = true)
    (hanc : ∀ k, Nat.testBit y.anc k = true → L k) {K : Act → World → Prop} {Q : Exit → Act → World → Prop}
    (hpan : ∀ c' v s' w', v.wf c' s'.nx → Step D.c0 c' D.s0 s' D.w0 w' → Rel c' s' w' → D.k (.panic v) .leaf s' = true → Q (.panic [{ v := v.conc c', recovered := false }]) a w')
    (hK : ∀ hist' t' s' pr' pm' N' c' a' w', Inv D (pre ++ [y]) suf hist' t' s' pr' pm' N' (fun j => L j ∨ j = y.i) c' a' w' → K a' w') : wpOp P ops Q y.i K a w := by
  have hyp : y ∈ D.plan := by rw [I.plan]; simp
  have hly := I.out hP
  obtain ⟨o, ho, hc⟩ := hP.op _ hyp
  obtain ⟨hcop, hdo, hdlt, _⟩ := compOper_some hc
  have star : ∀ m ∈ y.op.uses, ∀ v, t.get (Nat.succ m) = some v → a.tmps.getD m undef = v.conc c ∧ v.wf c N ∧ InV (Alw s pm L) v := by
    intro m hm v hv
    rw [I.tEq] at hv
    exact I.slot hP (h2 := []) (by simp) hyp hly hanc (fun z hz => pair_split hP.pair I.plan (by rw [← I.its]; exact List.mem_map_of_mem hz) (List.mem_cons_self ..)) (by simp) hm hv
  have hd : ∀ d, y.op.dst = some d → d < D.n := by
    intro d hd
    rw [hdo] at hd
    rw [hd] at hdlt
    exact (natBle_iff _ _).1 hdlt
  have hk := I.run
  rw [drawL_cons] at hk
  obtain ⟨i, ⟨dst, op, g⟩, anc, off⟩ := y
  rw [drawI_eq] at hk
  obtain ⟨b, hg, hk1⟩ := guardE_spec hk
  have hw := wanted_of (c := c) hc hg (fun j d h => by rw [I.size]; exact hdst j d h) (fun m hm v hv => (star m hm v hv).1)
  have hdo : dst = o.dst := hdo
  unfold wpOp
  have ho' : ops[i]? = some o := ho
  simp only [ho']
  cases b with
  | false =>
    simp only [hw, Bool.false_eq_true, if_false]
    have hk2 : putK dst .undef t (fun t => drawL D.call D.base D.k suf t s pr pm) = true := hk1
    rw [putK_eq] at hk2
    have I' := I.wrote hP hb hanc hd hk2 I.step I.rel (Nat.le_refl _) (Nat.le_refl _) I.nxN (On.refl c) trivial I.prok (fun e he => .inl he) (fun p hp => hp) (fun p hp => .inl hp) (fun p hp => (I.pmid p hp).1) I.pmn (Nat.le_refl _)
      (fun p hp hl => ⟨rfl, (I.pmb p hp hl).2.2.2.1⟩) hg (fun _ => rfl)
    have := hK _ _ _ _ _ _ _ _ _ I'
    rw [← hdo]; exact this
  | true =>
    simp only [hw, if_true]
    refine .inl ?_
    cases op with
    | p o' => cases hb
    | r o' => cases hb
    | m o' => cases hb
    | b bo =>
      have hk2 : drawB D.call bo dst anc t s pr pm D.k (drawL D.call D.base D.k suf) = true := hk1
      unfold drawB at hk2
      have htk : ∀ p : PM, taken (some anc) p.i = true → L p.i := fun p h => hanc _ h
      obtain ⟨s', h1, h2, h3, h4, h5, h6, h7⟩ := adoptK_spec (N := N) (some anc) pm hk2 I.step I.rel
        (fun p hp ht => have q := I.pmb p hp (htk p ht); ⟨q.1, q.2.2.1, q.2.2.2.1, q.2.2.2.2⟩) (fun p hp q hq h1 h2 hne => I.pmj p hp q hq (htk p h1) (htk q h2) hne) I.pmn
      obtain ⟨g1, hk3⟩ := ifB_true h1
      have g1 := (lall_iff _ _).1 g1
      have hk3 : stepB D.call bo t s' (fun v s => recheck anc s pr fun pr => ifB (lall (fun p => Nat.ble s.nx p.id) (pm.filter fun p => !taken (some anc) p.i)) (putK dst v t fun t => drawL D.call D.base D.k suf t s pr (pm.filter fun p => !taken (some anc) p.i)))
        (fun v s => D.k (.panic v) .leaf s) = true := hk3
      rw [stepB_congr (t' := restr t (usesB bo)) (restr_agree _ _)] at hk3
      have trel : TRel c s'.nx (restr t (usesB bo)) a.tmps := by
        intro m v hv
        rw [restr_get] at hv
        split at hv
        · rename_i hm
          have k1 := star m (uses_sub (o := ⟨dst, .b bo, g⟩) hm) v hv
          have k2 := g1 m hm
          simp only [slotIn, hv] at k2
          exact ⟨k1.1, InV.wf (InV.mono (fun id h => (natBle_iff _ _).1 h) (inV_spec k2)) k1.2.1⟩
        · cases hv
      unfold Oper.wp
      refine stepB_sound hT hcall (compOp_b hcop) trel h3 hk3 ⟨?_, ?_⟩
      · intro c1 v s1 w1 hvw hstep hrel1 hkn
        obtain ⟨pr', r1, r2, r3⟩ := recheck_spec pr hkn
        obtain ⟨r4, r5⟩ := ifB_true r1
        have r4 := (lall_iff _ _).1 r4
        rw [putK_eq] at r5
        let pm' := pm.filter fun p => !taken (some anc) p.i
        have hpm' : ∀ p ∈ pm', p ∈ pm ∧ taken (some anc) p.i = false := fun p hp => by simpa [pm'] using hp
        have hpmx : ∀ p ∈ pm', s1.nx ≤ p.id := fun p hp => (natBle_iff _ _).1 (r4 p hp)
        let c2 : Cx := ⟨fun id => if ∃ p ∈ pm', p.id = id ∧ L p.i then c.ι id else c1.ι id, fun id => if ∃ p ∈ pm', p.id = id ∧ L p.i then c.κ id else c1.κ id, c1.σ⟩
        have hlow : ∀ id, id < s1.nx → ¬ ∃ p ∈ pm', p.id = id ∧ L p.i := by
          rintro id h ⟨p, hp, rfl, _⟩
          have := hpmx p hp
          omega
        have he : Cx.Ext s1.nx c1 c2 := ⟨rfl, fun id h => if_neg (hlow id h), fun id h => if_neg (hlow id h)⟩
        have hon : On (Alw s pm L) c c2 := by
          have low : ∀ id, id < s'.nx → c2.ι id = c.ι id ∧ c2.κ id = c.κ id := fun id h => by
            have h' : id < s1.nx := Nat.lt_of_lt_of_le h hstep.nx
            exact ⟨(he.ι id h').trans (hstep.ext.ι id h), (he.κ id h').trans (hstep.ext.κ id h)⟩
          refine ⟨hstep.ext.σ, fun id h => ?_⟩
          rcases h with h | ⟨p, hp, e, hl⟩
          · exact low id (Nat.lt_of_lt_of_le h h4)
          · cases ht : taken (some anc) p.i with
            | true => exact low id (by rw [← e]; exact h6 p hp ht)
            | false =>
              have : ∃ p ∈ pm', p.id = id ∧ L p.i := ⟨p, by simpa [pm'] using ⟨hp, ht⟩, e, hl⟩
              exact ⟨if_pos this, if_pos this⟩
        have hst1 : Step D.c0 c1 D.s0 s1 D.w0 w1 := h2.trans hstep
        have hsz := hstep.size
        have hv1 : v.conc c2 = v.conc c1 := AV.conc_ext he hvw
        have hv2 : v.wf c2 s1.nx := AV.wf_ext he (Nat.le_refl _) hvw
        have hblk : ∀ p ∈ pm', L p.i → ∀ id x, s'.at id = some x → c.ι id ≠ c.ι p.id := by
          intro p hp hl id x hx
          obtain ⟨hp1, hp2⟩ := hpm' p hp
          rcases h7 id x hx with hx | ⟨q, hq, hqt, e⟩
          · exact (I.pmb p hp1 hl).2.2.2.1 id x hx
          · rw [← e]
            refine I.pmj q hq p hp1 (htk q hqt) hl ?_
            have := h6 q hq hqt
            have := hpmx p hp
            have := hstep.nx
            omega
        have I' := I.wrote (c2 := c2) (s1 := s1) (w1 := w1) (pr' := pr') (pm' := pm') (N' := max N s1.nx) (v := v) hP hb hanc hd r5 (hst1.recx hrel1 he) (hrel1.ext he) (Nat.le_trans h4 hstep.nx) (Nat.le_max_left _ _) (Nat.le_max_right _ _) hon hv2 (fun e he => ⟨(r2 e he).2.1, fun p hp => by
            have q1 := (I.prok e (r2 e he).1).2 p hp
            have q2 := (r2 e he).2.2 p hp
            simpa [pm', taken] using ⟨q1, q2⟩⟩)
          (fun e he => (r3 e he).symm) (fun p hp => (hpm' p hp).1) (fun p hp => by
            cases ht : taken (some anc) p.i with
            | true => exact .inr ⟨Nat.lt_of_lt_of_le (h6 p hp ht) hstep.nx, htk p ht⟩
            | false => exact .inl (by simpa [pm'] using ⟨hp, ht⟩)) hpmx (I.pmn.filter _) hsz
          (fun p hp hl => by
            have q := I.pmb p (hpm' p hp).1 hl
            refine ⟨hstep.frame _ q.2.1 (hblk p hp hl), ?_⟩
            intro id x hx
            rw [he.ι id (hrel1.lt id x hx)]
            rcases hstep.anew id x hx with h | ⟨id0, x0, hx0, e⟩
            · have := q.2.1; omega
            · rw [← e]; exact hblk p hp hl id0 x0 hx0) hg (fun h => by cases h)
        have := hK _ _ _ _ _ _ _ _ _ I'
        rw [← hdo, ← hv1]
        exact this
      · intro c1 v s1 w1 hvw hstep hrel1 hkp
        exact hpan c1 v s1 w1 hvw (h2.trans hstep) hrel1 hkp
end
end Go.Sy

/-! The symbolic executor, part U: what code comes to; a drawn region's run is sound. -/
namespace Go.Sy
set_option linter.unusedVariables false
set_option linter.unusedSectionVars false
noncomputable section

def After (n : Nat) (d : List Deferred) (c : Cx) (s : S) (w : World) (a' : Act) (w' : World) (k : Tmps → S → Bool) : Prop :=
  ∃ c' t' s', a'.defers = d ∧ a'.tmps.size = n ∧ Step c c' s s' w w' ∧ Rel c' s' w' ∧ TRel c' s'.nx t' a'.tmps ∧ k t' s' = true
def Post (n : Nat) (d : List Deferred) (c : Cx) (s : S) (w : World) (k : KX) : Exit → Act → World → Prop
  | .outgrown, _, _ => False
  | .goto _, _, _ => False
  | .normal, a', w' => After n d c s w a' w' (k .normal)
  | .exit i, a', w' => After n d c s w a' w' (k (.exit i))
  | .ret, a', w' => After n d c s w a' w' (k .ret)
  | .panic chain, a', w' => ∃ c' v t' s', chain = [{ v := v.conc c', recovered := false }] ∧ v.wf c' s'.nx ∧ a'.defers = d ∧ a'.tmps.size = n ∧ Step c c' s s' w w' ∧ Rel c' s' w' ∧ TRel c' s'.nx t' a'.tmps ∧ k (.panic v) t' s' = true
theorem After.trans {n : Nat} {d : List Deferred} {c c1 : Cx} {s s1 : S} {w w1 : World} (h : Step c c1 s s1 w w1) {a' : Act} {w' : World} {k : Tmps → S → Bool} (h' : After n d c1 s1 w1 a' w' k) : After n d c s w a' w' k := by
  obtain ⟨c', t', s', h1, h2, h3, h4, h5, h6⟩ := h'
  exact ⟨c', t', s', h1, h2, h.trans h3, h4, h5, h6⟩
theorem Post.trans {n : Nat} {d : List Deferred} {c c1 : Cx} {s s1 : S} {w w1 : World} (h : Step c c1 s s1 w w1) {k : KX} {e : Exit} {a' : Act} {w' : World} (h' : Post n d c1 s1 w1 k e a' w') : Post n d c s w k e a' w' := by
  cases e with
  | outgrown => exact h'.elim
  | goto l => exact h'.elim
  | normal => exact After.trans h h'
  | exit i => exact After.trans h h'
  | ret => exact After.trans h h'
  | panic ch =>
    obtain ⟨c', v, t', s', h1, h2, h3, h4, h5, h6⟩ := h'
    exact ⟨c', v, t', s', h1, h2, h3, h4, h.trans h5, h6⟩

theorem snocRec {α : Type} {p : List α → Prop} (l : List α) (nil : p []) (snoc : ∀ l x, p l → p (l ++ [x])) : p l := by
  have : ∀ l : List α, p l.reverse := by
    intro l
    induction l with
    | nil => exact nil
    | cons x l ih => rw [List.reverse_cons]; exact snoc _ _ ih
  have h := this l.reverse
  rwa [List.reverse_reverse] at h
/-- how many are not done yet -/
def unl (plan : List DIt) (listed : Array Bool) : Nat := plan.countP fun y => !(listed.getD y.i false)
theorem getD_set {listed : Array Bool} {i : Nat} (hi : i < listed.size) (j : Nat) : ((listed.setIfInBounds i true).getD j false = true) = (listed.getD j false = true ∨ j = i) := by
  apply propext
  by_cases h : j = i
  · subst h; simp [Array.getD_eq_getD_getElem?, hi]
  · have : i ≠ j := fun e => h e.symm
    simp [Array.getD_eq_getD_getElem?, Array.getElem?_setIfInBounds_ne this, h]
theorem unl_set {listed : Array Bool} : ∀ {plan : List DIt}, (plan.Pairwise fun x y => okPair x y = true) → ∀ {x : DIt}, x ∈ plan → x.i < listed.size → listed.getD x.i false = false → unl plan (listed.setIfInBounds x.i true) + 1 = unl plan listed := by
  intro plan
  induction plan with
  | nil => intro _ x hx; cases hx
  | cons z l ih =>
    intro hp x hx hi hf
    rw [List.pairwise_cons] at hp
    have hval : ∀ y : DIt, (!((listed.setIfInBounds x.i true).getD y.i false)) = true ↔ listed.getD y.i false = false ∧ y.i ≠ x.i := by
      intro y
      have := getD_set hi y.i
      cases h1 : (listed.setIfInBounds x.i true).getD y.i false <;> cases h2 : listed.getD y.i false <;> simp_all
    have cong : ∀ m : List DIt, (∀ y ∈ m, y.i ≠ x.i) → unl m (listed.setIfInBounds x.i true) = unl m listed := by
      intro m hm
      unfold unl
      apply List.countP_congr
      intro y hy
      rw [hval y]
      simp [hm y hy]
    rcases List.mem_cons.1 hx with e | hx
    · subst e
      have h1 := cong l fun y hy e => okPair_ne (hp.1 y hy) e.symm
      unfold unl at h1 ⊢
      rw [List.countP_cons, List.countP_cons, h1]
      have h2 : (!((listed.setIfInBounds x.i true).getD x.i false)) = false := by
        cases h : (!((listed.setIfInBounds x.i true).getD x.i false)) with
        | false => rfl
        | true => exact absurd rfl ((hval x).1 h).2
      rw [h2, hf]; simp
    · have h1 := ih hp.2 hx hi hf
      have hne : z.i ≠ x.i := okPair_ne (hp.1 x hx)
      unfold unl at h1 ⊢
      rw [List.countP_cons, List.countP_cons]
      have h2 : (!((listed.setIfInBounds x.i true).getD z.i false)) = (!(listed.getD z.i false)) := by
        cases h : (!(listed.getD z.i false)) with
        | true => exact (hval z).2 ⟨by simpa using h, hne⟩
        | false =>
          cases h' : (!((listed.setIfInBounds x.i true).getD z.i false)) with
          | false => rfl
          | true => have := ((hval z).1 h').1; rw [this] at h; cases h
      rw [h2]; omega

section
variable {P : Program} {T : TyT} {ops : Array Oper} {D : DK} {pre suf : List DIt} {hist : List HI} {t : Tmps} {s : S} {pr : List PR} {pm : List PM} {N : Nat} {c : Cx} {a : Act} {w : World}

theorem Inv.finish {L : Nat → Prop} (I : Inv D pre [] hist t s pr pm N L c a w) (hall : ∀ y ∈ D.plan, L y.i) : After D.n D.d D.c0 D.s0 D.w0 a w (D.k .normal) := by
  have hk := I.run
  rw [drawL_nil] at hk
  have hL : ∀ p ∈ pm, L p.i := by
    intro p hp
    obtain ⟨x, hx, e, _⟩ := I.pmx p hp
    rw [← e]; exact hall _ (I.mem hx)
  obtain ⟨s', h1, h2, h3, h4, h5, h6, h7⟩ := adoptK_spec (N := N) none pm hk I.step I.rel
    (fun p hp _ => have q := I.pmb p hp (hL p hp); ⟨q.1, q.2.2.1, q.2.2.2.1, q.2.2.2.2⟩) (fun p hp q hq _ _ hne => I.pmj p hp q hq (hL p hp) (hL q hq) hne) I.pmn
  refine ⟨c, t, s', I.defs, I.size, h2, h3, ?_, h1⟩
  intro m v hv
  have hv : t.get (Nat.succ m) = some v := hv
  rw [I.tEq] at hv
  rcases tmAt_get hist D.t0 hv with ⟨z, hz, hd, rfl⟩ | ⟨h0, hno⟩
  · have hl := hall _ (I.mem hz)
    refine ⟨I.tm1 z hz m hd hl, InV.wf (InV.mono (fun id h => ?_) (I.alw hz hl)) (I.vwf z hz hl)⟩
    rcases h with h | ⟨p, hp, e, _⟩
    · exact Nat.lt_of_lt_of_le h h4
    · rw [← e]; exact h6 p hp rfl
  · exact ⟨I.tm2 m v h0 fun x hx hd => absurd hd (hno x hx), AV.wf_ext h2.ext h2.nx (I.t0wf m v h0)⟩

theorem Inv.anyOrder (hT : TOk P T) (hcall : CallOk P D.call) (hP : PlanOk T ops D.n D.plan) (hdst : ∀ (j d : Nat), (ops[j]?).bind (·.dst) = some d → d < D.n) {Q : Exit → Act → World → Prop}
    (hQ : ∀ a w, After D.n D.d D.c0 D.s0 D.w0 a w (D.k .normal) → Q .normal a w)
    (hpan : ∀ (a : Act) c' v s' w', a.defers = D.d → a.tmps.size = D.n → v.wf c' s'.nx → Step D.c0 c' D.s0 s' D.w0 w' → Rel c' s' w' → D.k (.panic v) .leaf s' = true → Q (.panic [{ v := v.conc c', recovered := false }]) a w') :
    ∀ (fuel : Nat) (listed : Array Bool) {pre suf : List DIt} {hist : List HI} {t : Tmps} {s : S} {pr : List PR} {pm : List PM} {N : Nat} {c : Cx} {a : Act} {w : World}, listed.size = ops.size → unl D.plan listed = fuel →
      Inv D pre suf hist t s pr pm N (fun j => listed.getD j false = true) c a w → wpAny P .any ops Q fuel listed a w := by
  intro fuel
  induction fuel with
  | zero =>
    intro listed pre suf hist t s pr pm N c a w hsz hcnt I0
    obtain ⟨pre, suf, hist, t, pr, pm, N, I, hs⟩ := I0.advance hP
    have hall : ∀ y ∈ D.plan, listed.getD y.i false = true := by
      intro y hy
      have := (List.countP_eq_zero.1 hcnt) y hy
      simpa using this
    have hnil : Region.ready .any ops listed = [] := by
      cases hr : Region.ready .any ops listed with
      | nil => rfl
      | cons j l =>
        have hj : j ∈ Region.ready .any ops listed := by rw [hr]; exact List.mem_cons_self ..
        obtain ⟨h0, o, ho, _⟩ := mem_ready.1 hj
        have hlt : j < ops.size := (Array.getElem?_eq_some_iff.1 ho).1
        obtain ⟨y, hy, e⟩ := hP.cover j hlt
        have := hall y hy
        rw [e] at this
        have hjs : j < listed.size := by omega
        rw [Array.getD_eq_getD_getElem?, Array.getElem?_eq_getElem hjs] at this h0
        simp at this h0
        rw [this] at h0; cases h0
    refine ⟨hnil, hQ a w ?_⟩
    rcases hs with rfl | ⟨y, r, rfl, _⟩
    · exact I.finish hall
    · exact absurd (hall y (by rw [I.plan]; simp)) (I.out hP)
  | succ fuel ih =>
    intro listed pre suf hist t s pr pm N c a w hsz hcnt I0
    obtain ⟨pre, suf, hist, t, pr, pm, N, I, hs⟩ := I0.advance hP
    refine ⟨fun hnil => ?_, fun i hi => ?_⟩
    · have hall : ∀ l1 l2, D.plan = l1 ++ l2 → ∀ y ∈ l1, listed.getD y.i false = true := by
        intro l1
        induction l1 using snocRec with
        | nil => simp
        | snoc l1 x ihl =>
          intro l2 e y hy
          have e' : D.plan = l1 ++ x :: l2 := by rw [e]; simp
          rcases List.mem_append.1 hy with hy | hy
          · exact ihl (x :: l2) e' y hy
          · simp at hy; subst hy
            have hyp : y ∈ D.plan := by rw [e']; simp
            obtain ⟨o, ho, _⟩ := hP.op y hyp
            cases hv : listed.getD y.i false with
            | true => rfl
            | false =>
              have hlt : y.i < listed.size := by rw [hsz]; exact (Array.getElem?_eq_some_iff.1 ho).1
              have : y.i ∈ Region.ready .any ops listed := by
                refine mem_ready.2 ⟨?_, o, ho, fun ed hed hbd => ?_⟩
                · rw [Array.getD_eq_getD_getElem?, Array.getElem?_eq_getElem hlt] at hv ⊢
                  exact hv
                · obtain ⟨x, hx, e1⟩ := hP.first l1 y l2 e' o ho ed hed hbd
                  rw [← e1]
                  exact ihl (y :: l2) e' x hx
              rw [hnil] at this; cases this
      have hall := fun y hy => hall D.plan [] (by simp) y hy
      rcases hs with rfl | ⟨y, r, rfl, _⟩
      · exact hQ a w (I.finish hall)
      · exact absurd (hall y (by rw [I.plan]; simp)) (I.out hP)
    · obtain ⟨h0, o, ho, hedge⟩ := mem_ready.1 hi
      have hlt : i < ops.size := (Array.getElem?_eq_some_iff.1 ho).1
      have hls : i < listed.size := by omega
      obtain ⟨y, hy, e⟩ := hP.cover i hlt
      have hf : listed.getD y.i false = false := by
        rw [e]
        rw [Array.getD_eq_getD_getElem?, Array.getElem?_eq_getElem hls] at h0 ⊢
        exact h0
      have hnl : ¬ (listed.getD y.i false = true) := by rw [hf]; simp
      have hanc : ∀ k, Nat.testBit y.anc k = true → listed.getD k false = true := by
        intro k hk
        obtain ⟨ed, hed, hbd, h⟩ := hP.anc y hy o (by rw [e]; exact ho) k hk
        have h1 := hedge ed hed hbd
        rcases h with h | ⟨z, hz, hz1, hz2⟩
        · rw [← h]; exact h1
        · exact I.closed z hz (by rw [hz1]; exact h1) k hz2
      have hL : (fun j => listed.getD j false = true ∨ j = y.i) = fun j => (listed.setIfInBounds y.i true).getD j false = true := by
        funext j
        rw [getD_set (by rw [e]; exact hls)]
      have hcnt' : unl D.plan (listed.setIfInBounds y.i true) = fuel := by
        have := unl_set hP.pair hy (by rw [e]; exact hls) hf
        omega
      have hsz' : (listed.setIfInBounds y.i true).size = ops.size := by simpa using hsz
      rw [← e]
      rw [I.plan] at hy
      rcases List.mem_append.1 hy with hy | hy
      · rw [← I.its] at hy
        obtain ⟨x, hx, e1⟩ := List.mem_map.1 hy
        subst e1
        refine I.fire hT hP hdst hx hnl hanc fun c' a' w' N' I' => ?_
        rw [hL] at I'
        exact ih _ hsz' hcnt' I'
      · rcases hs with rfl | ⟨b, r, rfl, hb⟩
        · cases hy
        · rcases List.mem_cons.1 hy with rfl | hy
          · refine I.barrier hT hcall hP hdst hb hanc (fun c' v s' w' h1 h2 h3 h4 => hpan a c' v s' w' I.defs I.size h1 h2 h3 h4) fun hist' t' s' pr' pm' N' c' a' w' I' => ?_
            rw [hL] at I'
            exact ih _ hsz' hcnt' I'
          · have hpw := hP.pair
            rw [I.plan] at hpw
            have h1 := (List.pairwise_cons.1 (List.pairwise_append.1 hpw).2.1).1 y hy
            rcases okPair_or h1 with h | ⟨_, _, h⟩
            · exact absurd (hanc _ h) (I.out hP)
            · rw [hb] at h; cases h

theorem draw_sound {call : CallF} (hT : TOk P T) (hcall : CallOk P call) (hm : P.follows .mixedOrders = true) {id n : Nat} {plan : List (Nat × Nat)} {l : List DIt}
    (hc : compD T ops n plan = some l) {d : List Deferred} {k : KX} (h : Rel c s w) (hr : TRel c s.nx t a.tmps) (hn : a.tmps.size = n) (hd : a.defers = d)
    (hk : drawE call l t s k = true) : (Code.region id ops true).wp P (Post n d c s w k) a w := by
  have hP := compD_spec hc
  refine wp_region_any hm ?_
  have hrun : drawL call s.nx k l t s [] [] = true := by
    obtain ⟨hh, nx, φ⟩ := s
    exact hk
  have hst := Step.drewBy c s w (w.drawn + 1)
  let D : DK := ⟨call, l, s.nx, k, c, s, World.drewBy w (w.drawn + 1), t, d, n⟩
  have hdst : ∀ (j e : Nat), (ops[j]?).bind (·.dst) = some e → e < n := by
    intro j e he
    cases ho : ops[j]? with
    | none => rw [ho] at he; cases he
    | some o =>
      rw [ho] at he
      obtain ⟨y, hy, ey⟩ := hP.cover j (Array.getElem?_eq_some_iff.1 ho).1
      obtain ⟨o', ho', hco⟩ := hP.op y hy
      rw [ey, ho] at ho'; injection ho' with ho'; subst ho'
      obtain ⟨_, _, h3, _⟩ := compOper_some hco
      have he : o.dst = some e := he
      rw [he] at h3
      exact (natBle_iff _ _).1 h3
  refine Inv.anyOrder (D := D) (pre := []) (suf := l) (hist := []) (t := t) (s := s) (pr := []) (pm := []) (N := s.nx) (c := c) hT hcall hP hdst ?_ ?_ ops.size (Array.replicate ops.size false) (by simp) ?_ ?_
  · intro a' w' h'
    exact After.trans hst h'
  · intro a' c' v s' w' h1 h0 h2 h3 h4 h5
    refine ⟨c', v, .leaf, s', rfl, h2, h1, h0, hst.trans h3, h4, (fun m v hv => (by cases hv)), h5⟩
  · unfold unl
    rw [show D.plan = l from rfl, ← hP.size]
    rw [List.countP_eq_length]
    intro y _
    by_cases hj : y.i < l.length
    · simp [Array.getD_eq_getD_getElem?, hj]
    · simp [Array.getD_eq_getD_getElem?, hj]
  · have hno : ∀ j, ¬ ((Array.replicate ops.size false).getD j false = true) := by
      intro j
      rw [Array.getD_eq_getD_getElem?]
      by_cases hj : j < ops.size
      · simp [hj]
      · simp [hj]
    constructor
    · rfl
    · rfl
    · exact hrun
    · exact Step.refl _ _ _
    · exact h.drewBy _
    · exact Nat.le_refl _
    · exact fun y _ hl => absurd hl (hno _)
    · exact fun y hy => by cases hy
    · exact fun y _ hl => absurd hl (hno _)
    · exact fun m v hv => (hr m v hv).2
    · rfl
    · intro h1 x h2 e; simp at e
    · exact fun x hx => by cases hx
    · exact fun m v hv _ => (hr m v hv).1
    · exact fun x hx => by cases hx
    · exact fun x hx => by cases hx
    · exact fun x hx => by cases hx
    · exact fun x hx => by cases hx
    · exact fun x hx => by cases hx
    · exact fun x hx => by cases hx
    · exact List.Pairwise.nil
    · exact fun x hx => by cases hx
    · exact fun x hx => by cases hx
    · exact fun x hx => by cases hx
    · exact fun x hx => by cases hx
    · exact fun x hx => by cases hx
    · exact hd
    · exact hn
end
end
end Go.Sy

/-! The symbolic executor, part V: code. -/
namespace Go.Sy
set_option linter.unusedVariables false
set_option linter.unusedSectionVars false
noncomputable section

def regE (call : CallF) (k : KX) (ops : List AOper) : Tmps → S → Bool :=
  List.rec (fun t s => k .normal t s) (fun o _ ih t s => match o with
    | .mk dst op g => guardE g t fun b => match b with
      | false => putK dst .undef t fun t => ih t s
      | true => stepOp call op t s (fun v s => putK dst v t fun t => ih t s) (fun v s => k (.panic v) t s)) ops
theorem regE_nil (call : CallF) (k : KX) (t : Tmps) (s : S) : regE call k [] t s = k .normal t s := rfl
theorem regE_cons (call : CallF) (k : KX) (o : AOper) (l : List AOper) (t : Tmps) (s : S) : regE call k (o :: l) t s = match o with
    | .mk dst op g => guardE g t fun b => match b with
      | false => putK dst .undef t fun t => regE call k l t s
      | true => stepOp call op t s (fun v s => putK dst v t fun t => regE call k l t s) (fun v s => k (.panic v) t s) := rfl

inductive AC where
  | skip
  | reg (l : List AOper)
  | draw (l : List DIt)
  | seq (a b : AC)
  | cond (x : AX) (a b : AC)
  | block (id : Nat) (b : AC)
  | loop (b : AC)
  | exit (id : Nat)
  | ret

abbrev KB := Tmps → S → KX → Bool
def thenK (f : Tmps → S → Bool) (k : KX) : KX := fun ex t s => match ex with
  | .normal => f t s
  | .exit i => k (.exit i) t s
  | .ret => k .ret t s
  | .panic v => k (.panic v) t s
def blockK (id : Nat) (k : KX) : KX := fun ex t s => match ex with
  | .normal => k .normal t s
  | .exit i => (match Nat.beq i id with | true => k .normal t s | false => k (.exit i) t s)
  | .ret => k .ret t s
  | .panic v => k (.panic v) t s
def condK (x : AX) (f g : KB) : KB := fun t s k => optB (ev t x) fun v => optB (asBoolA v) fun b => match b with | true => f t s k | false => g t s k
def loopE (f : KB) (k : KX) (n : Nat) : Tmps → S → Bool := Nat.rec (fun _ _ => false) (fun _ ih t s => f t s (thenK ih k)) n
def exec (call : CallF) (c : AC) : KB :=
  AC.rec (fun t s k => k .normal t s) (fun l t s k => regE call k l t s) (fun l t s k => drawE call l t s k) (fun _ _ f g t s k => f t s (thenK (fun t s => g t s k) k))
    (fun x _ _ f g => condK x f g) (fun id _ f t s k => f t s (blockK id k)) (fun _ f t s k => loopE f k 1048576 t s) (fun id t s k => k (.exit id) t s) (fun t s k => k .ret t s) c
theorem loopE_zero (f : KB) (k : KX) (t : Tmps) (s : S) : loopE f k 0 t s = false := rfl
theorem loopE_succ (f : KB) (k : KX) (n : Nat) (t : Tmps) (s : S) : loopE f k (n + 1) t s = f t s (thenK (loopE f k n) k) := rfl
section
variable (call : CallF) (t : Tmps) (s : S) (k : KX)
theorem exec_skip : exec call .skip t s k = k .normal t s := rfl
theorem exec_reg (l : List AOper) : exec call (.reg l) t s k = regE call k l t s := rfl
theorem exec_draw (l : List DIt) : exec call (.draw l) t s k = drawE call l t s k := rfl
theorem exec_seq (a b : AC) : exec call (.seq a b) t s k = exec call a t s (thenK (fun t s => exec call b t s k) k) := rfl
theorem exec_cond (x : AX) (a b : AC) : exec call (.cond x a b) t s k = condK x (exec call a) (exec call b) t s k := rfl
theorem exec_block (id : Nat) (b : AC) : exec call (.block id b) t s k = exec call b t s (blockK id k) := rfl
theorem exec_loop (b : AC) : exec call (.loop b) t s k = loopE (exec call b) k 1048576 t s := rfl
theorem exec_exit (id : Nat) : exec call (.exit id) t s k = k (.exit id) t s := rfl
theorem exec_ret : exec call .ret t s k = k .ret t s := rfl
end

def compOps (T : TyT) (ops : Array Oper) (n : Nat) : List Oper → Option (List AOper)
  | [] => some []
  | o :: l => match compOper T ops n o with | none => none | some x => (match compOps T ops n l with | none => none | some r => some (x :: r))
def compC (T : TyT) (n : Nat) (hint : Nat → List (Nat × Nat)) : Code → Option AC
  | .skip => some .skip
  | .region id ops d => (match d with
    | false => (match compOps T ops n ops.toList with | none => none | some l => some (.reg l))
    | true => (match compD T ops n (hint id) with | none => none | some l => some (.draw l)))
  | .seq a b => (match compC T n hint a with | none => none | some x => (match compC T n hint b with | none => none | some y => some (.seq x y)))
  | .cond c a b => (match embO c with | none => none | some x => (match compC T n hint a with | none => none | some y => (match compC T n hint b with | none => none | some z => some (.cond x y z))))
  | .block id b => (match compC T n hint b with | none => none | some x => some (.block id x))
  | .loop b => (match compC T n hint b with | none => none | some x => some (.loop x))
  | .exit id => some (.exit id)
  | .ret => some .ret
  | _ => none

section
variable {P : Program} {T : TyT} {call : CallF} {c : Cx} {t : Tmps} {a : Act} {s : S} {w : World}

theorem putA_rel {n : Nat} {dst : Option Nat} (hd : (match dst with | none => true | some d => Nat.ble (Nat.succ d) n) = true) (hn : a.tmps.size = n) {v : AV} (hr : TRel c s.nx t a.tmps) (hw : v.wf c s.nx) :
    TRel c s.nx (putA dst v t) (a.put dst (v.conc c)).tmps ∧ (a.put dst (v.conc c)).tmps.size = n ∧ (a.put dst (v.conc c)).defers = a.defers := by
  cases dst with
  | none => exact ⟨hr, hn, rfl⟩
  | some d =>
    have hd' : d < n := (natBle_iff _ _).1 hd
    exact ⟨TRel.put hr (by rw [hn]; exact hd') rfl hw, by simp [Act.put, hn], rfl⟩

/-- is an operation wanted: what its guard's slot says -/
theorem guard_spec {ops : Array Oper} {n : Nat} {o : Oper} {ao : AOper} (h : compOper T ops n o = some ao) (hr : TRel c s.nx t a.tmps) (hlt : ∀ j want d, o.guard = some (j, want) → (ops[j]?).bind (·.dst) = some d → d < a.tmps.size)
    {k : Bool → Bool} (hk : guardE ao.guard t k = true) : ∃ b, Region.wanted o (yielded ops a.tmps) = b ∧ k b = true := by
  obtain ⟨_, _, _, hg⟩ := compOper_some h
  rcases hg with ⟨h1, h2⟩ | ⟨j, want, d, h1, h2, h3⟩
  · rw [h2] at hk
    exact ⟨true, by simp [Region.wanted, h1], hk⟩
  · rw [h3] at hk
    obtain ⟨v, hv, hk1⟩ := optB_true (show optB (t.get (Nat.succ d)) _ = true from hk)
    obtain ⟨b0, hb, hk2⟩ := optB_true hk1
    have hd := (hr d _ hv).1
    have hl := hlt j want d h1 h2
    refine ⟨b0, ?_, hk2⟩
    rcases guardA_spec hb with ⟨b, e, g3⟩ | ⟨e, g3⟩
    rotate_left
    · subst e
      have hd' : a.tmps.getD d undef = .tuple #[] := hd
      have e2 : a.tmps[d]? = some (.tuple #[]) := by
        rw [Array.getD_eq_getD_getElem?] at hd'
        cases hx : a.tmps[d]? with
        | none => exact absurd (Array.getElem?_eq_none_iff.1 hx) (Nat.not_le.2 hl)
        | some y => rw [hx] at hd'; exact congrArg some hd'
      have e1 : yielded ops a.tmps j = none := by
        unfold yielded
        rw [h2]
        simp [e2]
      rw [g3]
      simp only [Region.wanted, h1, e1]
      cases want <;> rfl
    subst e
    have hd' : a.tmps.getD d undef = .bool b := hd
    rw [g3]
    have e2 : a.tmps[d]? = some (.bool b) := by
      rw [Array.getD_eq_getD_getElem?] at hd'
      cases hx : a.tmps[d]? with
      | none => exact absurd (Array.getElem?_eq_none_iff.1 hx) (Nat.not_le.2 hl)
      | some y => rw [hx] at hd'; exact congrArg some hd'
    have e1 : yielded ops a.tmps j = some b := by
      unfold yielded
      rw [h2]
      simp [e2]
    simp only [Region.wanted, h1, e1]
    cases b <;> cases want <;> rfl

theorem regE_sound (hT : TOk P T) (hcall : CallOk P call) {ops : Array Oper} {n : Nat} (hdst : ∀ (j d : Nat), (ops[j]?).bind (·.dst) = some d → d < n) {d : List Deferred} {c0 : Cx} {s0 : S} {w0 : World} {k : KX} :
    ∀ (l : List Oper) (j : Nat) (al : List AOper), (∀ i, l[i]? = ops[j + i]?) → compOps T ops n l = some al → ∀ {c : Cx} {s : S} {w : World} {t : Tmps} {a : Act}, Step c0 c s0 s w0 w → Rel c s w → TRel c s.nx t a.tmps → a.tmps.size = n → a.defers = d →
      regE call k al t s = true → wpOps P ops (Post n d c0 s0 w0 k) (List.range' j l.length) a w := by
  intro l
  induction l with
  | nil =>
    intro j al hl hc c s w t a hst h hr hn hd hk
    simp only [compOps] at hc; injection hc with hc; subst hc
    rw [regE_nil] at hk
    exact ⟨c, t, s, hd, hn, hst, h, hr, hk⟩
  | cons o l ih =>
    intro j al hl hc c s w t a hst h hr hn hd hk
    simp only [compOps] at hc
    split at hc <;> try (simp at hc; done)
    rename_i ao hao
    split at hc <;> try (simp at hc; done)
    rename_i r hr'
    injection hc with hc; subst hc
    rw [regE_cons] at hk
    have ho : ops[j]? = some o := by have := hl 0; simpa using this.symm
    have hl' : ∀ i, l[i]? = ops[j + 1 + i]? := fun i => by have := hl (i + 1); simp at this; rw [this]; congr 1; omega
    obtain ⟨h1, h2, h3, h4⟩ := compOper_some hao
    obtain ⟨dst, op, g⟩ := ao
    have h2 : dst = o.dst := h2
    subst h2
    obtain ⟨b, hb, hk1⟩ := guard_spec hao hr (fun j want d hg hj => by rw [hn]; exact hdst j d hj) hk
    simp only [List.length_cons, List.range'_succ]
    simp only [wpOps, ho]
    cases b with
    | false =>
      simp only [hb, Bool.false_eq_true, if_false]
      have hk1 : putK o.dst .undef t (fun t => regE call k r t s) = true := hk1
      rw [putK_eq] at hk1
      obtain ⟨q1, q2, q3⟩ := putA_rel (c := c) (s := s) (v := .undef) h3 hn hr trivial
      exact ih (j + 1) r hl' hr' hst h q1 q2 (q3.trans hd) hk1
    | true =>
      simp only [hb, if_true]
      refine .inl ?_
      have hk1 : stepOp call op t s (fun v s => putK o.dst v t fun t => regE call k r t s) (fun v s => k (.panic v) t s) = true := hk1
      refine step_sound hT hcall h1 hr h hk1 ⟨?_, ?_⟩
      · intro c' v s' w' hw hs' h' hk2
        rw [putK_eq] at hk2
        obtain ⟨q1, q2, q3⟩ := putA_rel (c := c') (s := s') (v := v) h3 hn (hr.ext hs'.ext hs'.nx) hw
        exact ih (j + 1) r hl' hr' (hst.trans hs') h' q1 q2 (q3.trans hd) hk2
      · intro c' v s' w' hw hs' h' hk2
        exact ⟨c', v, t, s', rfl, hw, hd, hn, hst.trans hs', h', hr.ext hs'.ext hs'.nx, hk2⟩

theorem compOps_dst {ops : Array Oper} {n : Nat} : ∀ {l : List Oper} {al : List AOper}, compOps T ops n l = some al → ∀ o ∈ l, ∀ d, o.dst = some d → d < n := by
  intro l
  induction l with
  | nil => intro al h o ho; cases ho
  | cons x l ih =>
    intro al h o ho d hd
    simp only [compOps] at h
    split at h <;> try (simp at h; done)
    rename_i ao hao
    split at h <;> try (simp at h; done)
    rename_i r hr'
    rcases List.mem_cons.1 ho with rfl | ho
    · obtain ⟨_, _, h3, _⟩ := compOper_some hao
      rw [hd] at h3
      exact (natBle_iff _ _).1 h3
    · exact ih hr' o ho d hd

/-- a loop, by the rounds that are left -/
theorem wp_loop_n {P : Program} {b : Code} {Q : Exit → Act → World → Prop} (J : Nat → Act → World → Prop) (h0 : ∀ a w, ¬ J 0 a w) (round : ∀ m a w, J (m + 1) a w → b.wp P (Exit.then (J m) Q) a w) {m : Nat} {a : Act} {w : World} (h : J m a w) :
    (Code.loop b).wp P Q a w := by
  intro fr k cs
  have key : ∀ m a w, J m a w → ∃ e a' w', Q e a' w' ∧ Arrives P (lone (fr.at a (.code b :: .inLoop b :: k)) cs w) fr k cs e a' w' := by
    intro m
    induction m with
    | zero => intro a w h; exact (h0 a w h).elim
    | succ m ih =>
      intro a w h
      obtain ⟨e, a1, w1, hq, harr⟩ := round m a w h fr (.inLoop b :: k) cs
      cases e with
      | normal =>
        obtain ⟨e2, a2, w2, hq2, harr2⟩ := ih a1 w1 hq
        exact ⟨e2, a2, w2, hq2, .of_steps (Steps.trans harr (.one step_inLoop)) harr2⟩
      | exit id => exact ⟨_, a1, w1, hq, .pass (x := .inLoop b) rfl (fun _ _ => .inl (by simp)) harr⟩
      | goto l => exact ⟨_, a1, w1, hq, .pass (x := .inLoop b) rfl (fun _ _ => .inl (by simp)) harr⟩
      | ret => exact ⟨_, a1, w1, hq, .pass (x := .inLoop b) rfl (fun _ _ => .inl (by simp)) harr⟩
      | panic ch => exact ⟨_, a1, w1, hq, .pass (x := .inLoop b) rfl (fun _ _ => .inl (by simp)) harr⟩
      | outgrown => exact ⟨_, a1, w1, hq, .pass (x := .inLoop b) rfl (fun _ _ => .inl (by simp)) harr⟩
  obtain ⟨e, a', w', hq, harr⟩ := key m a w h
  exact ⟨e, a', w', hq, .of_steps (.one step_loop) harr⟩

/-- Code runs as its data says. -/
theorem exec_sound (hT : TOk P T) (hcall : CallOk P call) (hm : P.follows .mixedOrders = true) {n : Nat} {hint : Nat → List (Nat × Nat)} {d : List Deferred} : ∀ (code : Code) {ac : AC}, compC T n hint code = some ac →
    ∀ {c : Cx} {s : S} {w : World} {t : Tmps} {a : Act} {k : KX}, Rel c s w → TRel c s.nx t a.tmps → a.tmps.size = n → a.defers = d → exec call ac t s k = true → code.wp P (Post n d c s w k) a w := by
  intro code
  induction code with
  | skip =>
    intro ac hc c s w t a k h hr hn hd hk
    simp only [compC] at hc; injection hc with hc; subst hc
    exact wp_skip ⟨c, t, s, hd, hn, Step.refl c s w, h, hr, hk⟩
  | region id ops dr =>
    intro ac hc c s w t a k h hr hn hd hk
    simp only [compC] at hc
    split at hc
    · split at hc <;> try (simp at hc; done)
      rename_i l hl
      injection hc with hc; subst hc
      refine wp_region ?_
      rw [List.range_eq_range', ← Array.length_toList]
      refine regE_sound hT hcall ?_ ops.toList 0 l (fun i => by simp) hl (Step.refl c s w) h hr hn hd hk
      intro j e hj
      cases ho : ops[j]? with
      | none => rw [ho] at hj; cases hj
      | some o =>
        rw [ho] at hj
        exact compOps_dst hl o (by rw [Array.mem_toList_iff]; exact Array.mem_of_getElem? ho) e hj
    · split at hc <;> try (simp at hc; done)
      rename_i l hl
      injection hc with hc; subst hc
      exact draw_sound hT hcall hm hl h hr hn hd hk
  | seq x y ihx ihy =>
    intro ac hc c s w t a k h hr hn hd hk
    simp only [compC] at hc
    split at hc <;> try (simp at hc; done)
    rename_i x' hx
    split at hc <;> try (simp at hc; done)
    rename_i y' hy
    injection hc with hc; subst hc
    rw [exec_seq] at hk
    refine wp_seq (wp_mono (ihx hx h hr hn hd hk) ?_)
    intro e a' w' hq
    cases e with
    | normal =>
      obtain ⟨c', t', s', h1, h2, h3, h4, h5, h6⟩ := hq
      exact wp_mono (ihy hy h4 h5 h2 h1 h6) fun e a w hq => Post.trans h3 hq
    | exit i => exact hq
    | goto l => exact hq
    | ret => exact hq
    | panic ch => exact hq
    | outgrown => exact hq
  | cond x p q ihp ihq =>
    intro ac hc c s w t a k h hr hn hd hk
    simp only [compC] at hc
    split at hc <;> try (simp at hc; done)
    rename_i x' hx
    split at hc <;> try (simp at hc; done)
    rename_i p' hp
    split at hc <;> try (simp at hc; done)
    rename_i q' hq
    injection hc with hc; subst hc
    rw [exec_cond] at hk
    obtain ⟨v, h1, hk1⟩ := optB_true (show optB (ev t x') _ = true from hk)
    obtain ⟨b, h2, hk2⟩ := optB_true hk1
    have e := asBoolA_spec h2
    subst e
    have e1 : a.eval x = .bool b := (ev_spec hr hx h1).1
    cases b with
    | true => exact wp_cond_true e1 (ihp hp h hr hn hd hk2)
    | false => exact wp_cond_false e1 (ihq hq h hr hn hd hk2)
  | block id b ih =>
    intro ac hc c s w t a k h hr hn hd hk
    simp only [compC] at hc
    split at hc <;> try (simp at hc; done)
    rename_i x hx
    injection hc with hc; subst hc
    rw [exec_block] at hk
    refine wp_block (wp_mono (ih hx h hr hn hd hk) ?_)
    intro e a' w' hq
    cases e with
    | normal => exact hq
    | exit i =>
      obtain ⟨c', t', s', h1, h2, h3, h4, h5, h6⟩ := hq
      simp only [Exit.inBlock]
      have h6 : (match Nat.beq i id with | true => k .normal t' s' | false => k (.exit i) t' s') = true := h6
      by_cases hi : i = id
      · subst hi
        rw [if_pos rfl]
        rw [(natBeq_iff i i).2 rfl] at h6
        exact ⟨c', t', s', h1, h2, h3, h4, h5, h6⟩
      · rw [if_neg hi]
        have : Nat.beq i id = false := by
          cases hb : Nat.beq i id with
          | false => rfl
          | true => exact absurd ((natBeq_iff _ _).1 hb) hi
        rw [this] at h6
        exact ⟨c', t', s', h1, h2, h3, h4, h5, h6⟩
    | goto l => exact hq
    | ret => exact hq
    | panic ch => exact hq
    | outgrown => exact hq
  | loop b ih =>
    intro ac hc c s w t a k h hr hn hd hk
    simp only [compC] at hc
    split at hc <;> try (simp at hc; done)
    rename_i x hx
    injection hc with hc; subst hc
    rw [exec_loop] at hk
    refine wp_loop_n (fun m a' w' => After n d c s w a' w' (fun t' s' => loopE (exec call x) k m t' s')) ?_ ?_ (m := 1048576) ⟨c, t, s, hd, hn, Step.refl c s w, h, hr, hk⟩
    · rintro a' w' ⟨c', t', s', _, _, _, _, _, h6⟩
      have h6 : loopE (exec call x) k 0 t' s' = true := h6
      rw [loopE_zero] at h6; cases h6
    · rintro m a' w' ⟨c', t', s', h1, h2, h3, h4, h5, h6⟩
      have h6 : loopE (exec call x) k (m + 1) t' s' = true := h6
      rw [loopE_succ] at h6
      refine wp_mono (ih hx h4 h5 h2 h1 h6) ?_
      intro e a2 w2 hq
      cases e with
      | normal => exact After.trans h3 hq
      | exit i => exact After.trans h3 hq
      | goto l => exact hq
      | ret => exact After.trans h3 hq
      | panic ch =>
        obtain ⟨c', v, t', s', h1, h2, h3', h4, h5, h6⟩ := hq
        exact ⟨c', v, t', s', h1, h2, h3', h4, h3.trans h5, h6⟩
      | outgrown => exact hq.elim
  | exit id =>
    intro ac hc c s w t a k h hr hn hd hk
    simp only [compC] at hc; injection hc with hc; subst hc
    exact wp_exit ⟨c, t, s, hd, hn, Step.refl c s w, h, hr, hk⟩
  | ret =>
    intro ac hc c s w t a k h hr hn hd hk
    simp only [compC] at hc; injection hc with hc; subst hc
    exact wp_ret ⟨c, t, s, hd, hn, Step.refl c s w, h, hr, hk⟩
  | _ => intro ac hc; simp [compC] at hc
end
end
end Go.Sy

/-! The symbolic executor, part W: functions, calls, types. -/
namespace Go.Sy
set_option linter.unusedVariables false
set_option linter.unusedSectionVars false
noncomputable section

inductive ResA where
  | tmp (t : Nat)
  | cell (t : Nat) (n : Option Nat)
structure AFunc where
  n : Nat
  res : List ResA
  body : AC

def argsK (args : List AV) : Nat → Tmps → (Tmps → Bool) → Bool :=
  List.rec (fun _ t k => k t) (fun v _ ih i t k => forceV v fun v => t.setK (some v) (Nat.succ i) fun t => forceN (Nat.add i 1) fun i => ih i t k) args
def resL (res : List ResA) (t : Tmps) (s : S) : Option (List AV) := List.rec (some []) (fun r _ ih => optP (match r with | .tmp n => t.get (Nat.succ n) | .cell n z => readOp t s (.load z (.t n))) none fun v => optP ih none fun l => some (v :: l)) res
def allW (l : List AV) : Option (List AW) := List.rec (some []) (fun v _ ih => match v with | .w x => optP ih none fun l => some (x :: l) | _ => none) l
theorem argsK_nil (i : Nat) (t : Tmps) (k : Tmps → Bool) : argsK [] i t k = k t := rfl
theorem argsK_cons (v : AV) (l : List AV) (i : Nat) (t : Tmps) (k : Tmps → Bool) : argsK (v :: l) i t k = argsK l (i + 1) (t.set (some v) (Nat.succ i)) k := by
  show forceV v (fun v => t.setK (some v) (Nat.succ i) fun t => forceN (Nat.add i 1) fun i => argsK l i t k) = _
  rw [forceV_eq, Tree.setK_eq, forceN_eq]
theorem resL_nil (t : Tmps) (s : S) : resL [] t s = some [] := rfl
theorem resL_cons (r : ResA) (l : List ResA) (t : Tmps) (s : S) : resL (r :: l) t s = optP (match r with | .tmp n => t.get (Nat.succ n) | .cell n z => readOp t s (.load z (.t n))) none fun v => optP (resL l t s) none fun l => some (v :: l) := rfl
theorem allW_cons (v : AV) (l : List AV) : allW (v :: l) = match v with | .w x => optP (allW l) none fun l => some (x :: l) | _ => none := rfl
def mkRes (l : List AV) : Option AV := match l with
  | [] => some (.tup [])
  | v :: r => (match r with | [] => some v | u :: q => optP (allW (v :: u :: q)) none fun l => some (.tup l))
def resK (res : List ResA) (t : Tmps) (s : S) (k : KC) : Bool := optB (resL res t s) fun l => optB (mkRes l) fun v => k (.val v) s
def retK (res : List ResA) (k : KC) : KX := fun ex t s => match ex with
  | .normal => resK res t s k
  | .ret => resK res t s k
  | .exit _ => false
  | .panic v => k (.panic v) s
def runF (call : CallF) (fn : AFunc) (args : List AV) (s : S) (k : KC) : Bool := match fn with
  | .mk n res body => ifB (Nat.ble (llen args) n) (argsK args 0 .leaf fun t => exec call body t s (retK res k))
abbrev CallX := List AV → S → KC → Bool
abbrev CallY := CallF → CallX
/-- no call at all -/
def noCall : CallF := fun _ _ _ _ => false
def callA (F : Tree AFunc) (X : Tree CallY) (n : Nat) : CallF :=
  Nat.rec (fun f args s k => optB (X.get (Nat.succ f)) fun g => g noCall args s k)
    (fun _ ih f args s k => match X.get (Nat.succ f) with
      | some g => g ih args s k
      | none => optB (F.get (Nat.succ f)) fun fn => runF ih fn args s k) n
theorem callA_zero (F : Tree AFunc) (X : Tree CallY) (f : Nat) (args : List AV) (s : S) (k : KC) : callA F X 0 f args s k = optB (X.get (Nat.succ f)) fun g => g noCall args s k := rfl
theorem callA_succ (F : Tree AFunc) (X : Tree CallY) (n f : Nat) (args : List AV) (s : S) (k : KC) : callA F X (n + 1) f args s k = match X.get (Nat.succ f) with
      | some g => g (callA F X n) args s k
      | none => optB (F.get (Nat.succ f)) fun fn => runF (callA F X n) fn args s k := rfl

def compRes (T : TyT) : List ResultVar → Option (List ResA)
  | [] => some []
  | .tmp t :: l => (match compRes T l with | none => none | some r => some (.tmp t :: r))
  | .cell a ty :: l => (match T ty with | none => none | some i => (match compRes T l with | none => none | some r => some (.cell a (aggSize i) :: r)))

structure FnOk (P : Program) (T : TyT) (f : Nat) (fn : AFunc) (func : Func) (code : Code) (hint : Nat → List (Nat × Nat)) : Prop where
  at_ : P.funcs[f]? = some func
  call : ∀ args w, (callFunc f args).run P w = .ok (.enter f args) w
  body : func.body = some code
  ntmps : func.ntmps = fn.n
  comp : compC T fn.n hint code = some fn.body
  res : compRes T func.results.toList = some fn.res
def FOk (P : Program) (T : TyT) (F : Tree AFunc) : Prop := ∀ f fn, F.get (Nat.succ f) = some fn → ∃ func code hint, FnOk P T f fn func code hint
def XOk1 (P : Program) (f : Nat) (g : CallX) : Prop := ∀ args s k, g args s k = true → ∀ (c : Cx) (w : World), Rel c s w → (∀ v ∈ args, v.wf c s.nx) → CallRuns P f (args.map (AV.conc c)).toArray w (CPost c s w k)
def XOk (P : Program) (X : Tree CallY) : Prop := ∀ f g, X.get (Nat.succ f) = some g → ∀ call, CallOk P call → XOk1 P f (g call)

section
variable {P : Program} {T : TyT} {call : CallF} {c : Cx} {t : Tmps} {a : Act} {s : S} {w : World}

theorem args_rel : ∀ (args : List AV) (i : Nat) (t : Tmps) (vs : Array Value), TRel c s.nx t vs → (∀ v ∈ args, v.wf c s.nx) → (∀ j v, args[j]? = some v → vs[i + j]? = some (v.conc c)) → ∀ {k : Tmps → Bool}, argsK args i t k = true →
    ∃ t', TRel c s.nx t' vs ∧ k t' = true := by
  intro args
  induction args with
  | nil => intro i t vs h _ _ k hk; exact ⟨t, h, hk⟩
  | cons v l ih =>
    intro i t vs h hw hv k hk
    rw [argsK_cons] at hk
    refine ih (i + 1) _ vs ?_ (fun u hu => hw u (List.mem_cons_of_mem _ hu)) (fun j u hu => by have := hv (j + 1) u (by simpa using hu); rw [← this]; congr 1; omega) hk
    intro n u hu
    rw [Tree.get_set _ _ _ _ (by omega) (by omega)] at hu
    split at hu
    · rename_i e
      have e : n = i := by omega
      subst e
      injection hu with hu; subst hu
      have := hv 0 v rfl
      simp only [Nat.add_zero] at this
      exact ⟨by rw [Array.getD_eq_getD_getElem?, this]; rfl, hw v (List.mem_cons_self ..)⟩
    · exact h n u hu

theorem loadVar_of {ty : TypeId} {ad : Addr} {v : Value} {n : Nat} (hv : a.tmps.getD n undef = .pointer (some ad)) (h : (execOp a.eval ⟨none, .load ty (.tmp n), 0, "", #[], none⟩).run P w = .ok (.value v) w) :
    (do loadVar ty (← asAddr (a.tmps.getD n undef)) : Sem Value).run P w = .ok v w := by
  have hv' : a.eval (.tmp n) = .pointer (some ad) := hv
  simp only [execOp, Instr.loadAt, hv', Instr.sureAddr] at h
  simp only [hv, asAddr, pure_bind]
  simp only [pure_bind, Sem.run_bind] at h
  cases hr : (loadVar ty ad).run P w with
  | ok u w' =>
    rw [hr] at h
    simp only [Result.andThen_ok, Sem.run_pure] at h
    injection h with h1 h2
    injection h1 with h1
    rw [h1, h2]
  | halt x w' => rw [hr] at h; cases h

theorem res_sound (hT : TOk P T) (h : Rel c s w) (hr : TRel c s.nx t a.tmps) : ∀ {rs : List ResultVar} {res : List ResA} {l : List AV}, compRes T rs = some res → resL res t s = some l →
    (rs.mapM (m := Sem) fun
      | .tmp t => pure (a.tmps.getD t undef)
      | .cell x ty => do loadVar ty (← asAddr (a.tmps.getD x undef))).run P w = .ok (l.map (AV.conc c)) w ∧ ∀ v ∈ l, v.wf c s.nx := by
  intro rs
  induction rs with
  | nil =>
    intro res l h1 h2
    simp only [compRes] at h1; injection h1 with h1; subst h1
    rw [resL_nil] at h2; injection h2 with h2; subst h2
    simp
  | cons x rs ih =>
    intro res l h1 h2
    cases x with
    | tmp n =>
      simp only [compRes] at h1
      split at h1 <;> try (simp at h1; done)
      rename_i r hr'
      injection h1 with h1; subst h1
      rw [resL_cons] at h2
      obtain ⟨v, hv, g1⟩ := optP_some h2
      obtain ⟨q, hq, g2⟩ := optP_some g1
      injection g2 with g2; subst g2
      have hv : t.get (Nat.succ n) = some v := hv
      obtain ⟨e1, e2⟩ := hr n v hv
      obtain ⟨e3, e4⟩ := ih hr' hq
      refine ⟨?_, fun u hu => ?_⟩
      · rw [List.mapM_cons]
        simp only [Sem.run_bind, Sem.run_pure, Result.andThen_ok, e1, List.map_cons]
        rw [e3]; rfl
      · rcases List.mem_cons.1 hu with rfl | hu
        · exact e2
        · exact e4 u hu
    | cell n ty =>
      simp only [compRes] at h1
      split at h1 <;> try (simp at h1; done)
      rename_i i hi
      split at h1 <;> try (simp at h1; done)
      rename_i r hr'
      injection h1 with h1; subst h1
      rw [resL_cons] at h2
      obtain ⟨v, hv, g1⟩ := optP_some h2
      obtain ⟨q, hq, g2⟩ := optP_some g1
      injection g2 with g2; subst g2
      have hv : readOp t s (.load (aggSize i) (.t n)) = some v := hv
      have hcomp : compR T (Op.load ty (.tmp n)) = some (.load (aggSize i) (.t n)) := by simp [compR, hi, embO]
      obtain ⟨e1, e2⟩ := read_sound (a := a) (o := ⟨none, .load ty (.tmp n), 0, "", #[], none⟩) hT hcomp hr h.view hv
      obtain ⟨u, hu, g3⟩ := optP_some (show optP (ev t (.t n)) none _ = some v from hv)
      obtain ⟨p, hp, g4⟩ := optP_some g3
      have ep := asPtrA_spec hp
      rw [ep] at hu
      have ead := (ev_spec (o := .tmp n) hr rfl hu).1
      have e5 := loadVar_of (P := P) (w := w) (a := a) ead e1
      obtain ⟨e3, e4⟩ := ih hr' hq
      refine ⟨?_, fun u hu => ?_⟩
      · rw [List.mapM_cons]
        simp only [Sem.run_bind] at e5 ⊢
        rw [e5]
        simp only [Result.andThen_ok, List.map_cons]
        rw [e3]; rfl
      · rcases List.mem_cons.1 hu with rfl | hu
        · exact e2
        · exact e4 u hu

theorem allW_spec : ∀ {l : List AV} {m : List AW}, allW l = some m → l = m.map AV.w := by
  intro l
  induction l with
  | nil => intro m h; injection h with h; subst h; rfl
  | cons v l ih =>
    intro m h
    rw [allW_cons] at h
    split at h <;> try (simp at h; done)
    obtain ⟨q, hq, g⟩ := optP_some h
    injection g with g; subst g
    rw [ih hq]; rfl
theorem mkRes_spec {l : List AV} {v : AV} (h : mkRes l = some v) (hw : ∀ u ∈ l, u.wf c s.nx) :
    (if h : (l.map (AV.conc c)).toArray.size = 1 then (l.map (AV.conc c)).toArray[0] else .tuple (l.map (AV.conc c)).toArray) = v.conc c ∧ v.wf c s.nx := by
  cases l with
  | nil => simp only [mkRes] at h; injection h with h; subst h; exact ⟨rfl, by intro x hx; cases hx⟩
  | cons x r =>
    cases r with
    | nil => simp only [mkRes] at h; injection h with h; subst h; exact ⟨rfl, hw x (List.mem_cons_self ..)⟩
    | cons y q =>
      simp only [mkRes] at h
      obtain ⟨m, hm, g⟩ := optP_some h
      injection g with g; subst g
      have e := allW_spec hm
      rw [e] at hw ⊢
      have hlen : m.length ≠ 1 := by
        have := congrArg List.length e
        simp at this; omega
      refine ⟨?_, fun u hu => hw (.w u) (List.mem_map_of_mem hu)⟩
      rw [dif_neg (by simpa using hlen)]
      simp [AV.conc]

theorem run_results (fn : Func) {l : List Value} (h : (fn.results.toList.mapM (m := Sem) fun
      | .tmp t => pure (a.tmps.getD t undef)
      | .cell x ty => do loadVar ty (← asAddr (a.tmps.getD x undef))).run P w = .ok l w) :
    (results fn a.tmps).run P w = .ok (if h : l.toArray.size = 1 then l.toArray[0] else .tuple l.toArray) w := by
  unfold results
  rw [Array.mapM_eq_mapM_toList]
  simp only [Sem.run_bind, Sem.run_map, Sem.run_pure]
  exact (congrArg (fun r => Result.andThen (Result.andThen r fun (a : List Value) w' => Result.ok a.toArray w') (fun (a : Array Value) w' => Result.ok (if h : a.size = 1 then a[0] else Value.tuple a) w')) h).trans rfl

theorem runF_sound (hT : TOk P T) (hcall : CallOk P call) (hm : P.follows .mixedOrders = true) {f : Nat} {fn : AFunc} {func : Func} {code : Code} {hint : Nat → List (Nat × Nat)} (hf : FnOk P T f fn func code hint)
    {args : List AV} {k : KC} (hk : runF call fn args s k = true) (h : Rel c s w) (hw : ∀ v ∈ args, v.wf c s.nx) : Calls P f (args.map (AV.conc c)).toArray w (CPost c s w k) := by
  obtain ⟨n, res, body⟩ := fn
  obtain ⟨hlen, hk1⟩ := ifB_true (show ifB (Nat.ble (llen args) n) _ = true from hk)
  have hlen := (natBle_iff _ _).1 hlen
  rw [llen_eq] at hlen
  have hn : func.ntmps = n := hf.ntmps
  refine calls_of_wp hf.at_ hf.body ?_
  rw [hn]
  obtain ⟨t, ht, hk2⟩ := args_rel (c := c) (s := s) args 0 .leaf ((args.map (AV.conc c)).toArray ++ Array.replicate (n - (args.map (AV.conc c)).toArray.size) undef) (by intro m v hv; cases hv) hw
    (by
      intro j v hv
      rw [Nat.zero_add]
      have hj : j < args.length := (List.getElem?_eq_some_iff.1 hv).1
      rw [Array.getElem?_append_left (by simpa using hj)]
      simp [hv]) hk1
  refine wp_mono (exec_sound hT hcall hm code hf.comp h ht (by simp; omega) rfl hk2) ?_
  have key : ∀ (a' : Act) (w' : World), After n [] c s w a' w' (fun t' s' => resK res t' s' k) → a'.defers = [] ∧ ∃ v, (results func a'.tmps).run P w' = .ok v w' ∧ CPost c s w k (.returned v) w' := by
    rintro a' w' ⟨c', t', s', h1, h2, h3, h4, h5, h6⟩
    obtain ⟨l, hl, h7⟩ := optB_true h6
    obtain ⟨v, hv, h8⟩ := optB_true h7
    obtain ⟨e1, e2⟩ := res_sound hT h4 h5 hf.res hl
    obtain ⟨e3, e4⟩ := mkRes_spec (c := c') (s := s') hv e2
    refine ⟨h1, _, run_results func e1, ?_⟩
    exact ⟨c', v, s', e3, e4, h3, h4, h8⟩
  intro e a' w' hq
  cases e with
  | normal => exact key a' w' hq
  | ret => exact key a' w' hq
  | exit i => obtain ⟨_, _, _, _, _, _, _, _, h6⟩ := hq; cases h6
  | goto l => exact hq.elim
  | panic ch =>
    obtain ⟨c', v, t', s', h1, h2, h3, _, h4, h5, _, h6⟩ := hq
    exact ⟨h3, c', v, s', h1, h2, h4, h5, h6⟩
  | outgrown => exact hq.elim

theorem callA_ok (hT : TOk P T) (hm : P.follows .mixedOrders = true) {F : Tree AFunc} {X : Tree CallY} (hF : FOk P T F) (hX : XOk P X) : ∀ n, CallOk P (callA F X n) := by
  intro n
  induction n with
  | zero =>
    intro f args s k hk c w h hw
    rw [callA_zero] at hk
    obtain ⟨g, hg, hk1⟩ := optB_true hk
    exact hX f g hg noCall (fun f args s k h => by cases h) args s k hk1 c w h hw
  | succ n ih =>
    intro f args s k hk c w h hw
    rw [callA_succ] at hk
    split at hk
    · rename_i g hg
      exact hX f g hg _ ih args s k hk c w h hw
    · obtain ⟨fn, hfn, hk1⟩ := optB_true hk
      obtain ⟨func, code, hint, hf⟩ := hF f fn hfn
      exact .inl ⟨hf.call _ w, runF_sound hT ih hm hf hk1 h hw⟩
end
end
end Go.Sy

/-! The symbolic executor, part X: calls that the model answers itself; calls that are summed up. -/
namespace Go.Sy
set_option linter.unusedVariables false
set_option linter.unusedSectionVars false
noncomputable section

/-- is a number of a range for sure? -/
def inR (φ : Phi) (t : Tm) (lo hi : Int) : Bool := match range φ t with
  | none => false
  | some (a, b) => and2 (intLe lo a) (intLe b hi)
theorem inR_spec {σ : Env} {φ : Phi} (hs : Sat σ φ) {t : Tm} {lo hi : Int} (h : inR φ t lo hi = true) : lo ≤ t.eval σ ∧ t.eval σ ≤ hi := by
  unfold inR at h
  split at h
  · cases h
  · rename_i a b hr
    obtain ⟨h1, h2⟩ := and2_iff.1 h
    have h1 := (intLe_iff _ _).1 h1
    have h2 := (intLe_iff _ _).1 h2
    have := range_sound hs t a b hr
    omega
def plusT (a b : Tm) : Tm := match lift2 (fun m n => Int.add m n) a b with | some t => t | none => mkAr 0 a b
theorem plusT_spec (σ : Env) (a b : Tm) : (plusT a b).eval σ = a.eval σ + b.eval σ := by
  unfold plusT
  split
  · rename_i h; rw [lift2_spec h]; rfl
  · rw [mkAr_spec]; rfl
def subT (a b : Tm) : Tm := match lift2 (fun m n => Int.sub m n) a b with | some t => t | none => mkAr 1 a b
theorem subT_spec (σ : Env) (a b : Tm) : (subT a b).eval σ = a.eval σ - b.eval σ := by
  unfold subT
  split
  · rename_i h; rw [lift2_spec h]; rfl
  · rw [mkAr_spec]; rfl
def all3 (φ : Phi) (x y c : Tm) : Bool := and2 (inR φ x (.ofNat 0) (.ofNat 18446744073709551615)) (and2 (inR φ y (.ofNat 0) (.ofNat 18446744073709551615)) (inR φ c (.ofNat 0) (.ofNat 1)))
def u64s (p q r : IntKind × Tm) : Bool := and2 (kindEq p.1 .u64) (and2 (kindEq q.1 .u64) (kindEq r.1 .u64))
def pairR (a b : Tm) : Ret := .val (.tup [.s (.int .u64 a), .s (.int .u64 b)])
def highT (φ : Phi) (t : Tm) : Option Tm := sDiv φ .u64 t (.lit (.ofNat 18446744073709551616))
def xAdd : CallX := fun args s k => match args with
  | [a, b, c] => optB (asIntA a) fun p => optB (asIntA b) fun q => optB (asIntA c) fun r => ifB (u64s p q r) (match s with
    | .mk h nx φ => ifB (all3 φ p.2 q.2 r.2) (optB (highT φ (plusT (plusT p.2 q.2) r.2)) fun c => k (pairR (sWrap φ .u64 (plusT (plusT p.2 q.2) r.2)) (sq φ c)) ⟨h, nx, φ⟩))
  | _ => false
def xSub : CallX := fun args s k => match args with
  | [a, b, c] => optB (asIntA a) fun p => optB (asIntA b) fun q => optB (asIntA c) fun r => ifB (u64s p q r) (match s with
    | .mk h nx φ => ifB (all3 φ p.2 q.2 r.2) (brc φ (.le (plusT q.2 r.2) p.2) fun e φ => match e with
        | true => k (pairR (sWrap φ .u64 (subT p.2 (plusT q.2 r.2))) (.lit (.ofNat 0))) ⟨h, nx, φ⟩
        | false => k (pairR (sWrap φ .u64 (subT p.2 (plusT q.2 r.2))) (.lit (.ofNat 1))) ⟨h, nx, φ⟩))
  | _ => false

section
variable {P : Program} {T : TyT} {c : Cx} {s : S} {w : World}
theorem three_spec {args : List AV} {s : S} {f : IntKind × Tm → IntKind × Tm → IntKind × Tm → Bool}
    (h : (match args with | [a, b, c] => optB (asIntA a) fun p => optB (asIntA b) fun q => optB (asIntA c) fun r => f p q r | _ => false) = true) :
    ∃ p q r, args = [.w (.s (.int p.1 p.2)), .w (.s (.int q.1 q.2)), .w (.s (.int r.1 r.2))] ∧ f p q r = true := by
  split at h <;> try (simp at h; done)
  obtain ⟨p, hp, h⟩ := optB_true h
  obtain ⟨q, hq, h⟩ := optB_true h
  obtain ⟨r, hr, h⟩ := optB_true h
  exact ⟨p, q, r, by rw [asIntA_spec hp, asIntA_spec hq, asIntA_spec hr], h⟩
theorem u64s_spec {p q r : IntKind × Tm} (h : u64s p q r = true) : p.1 = .u64 ∧ q.1 = .u64 ∧ r.1 = .u64 := by
  obtain ⟨h1, h2⟩ := and2_iff.1 h
  obtain ⟨h2, h3⟩ := and2_iff.1 h2
  exact ⟨kindEq_eq h1, kindEq_eq h2, kindEq_eq h3⟩
theorem wrap_u64 (n : Int) : IntKind.u64.wrap n = n % 18446744073709551616 := by
  have h1 := wrap_range .u64 n
  simp only [kneg, kmax] at h1
  simp [IntKind.wrap, IntKind.bits, IntKind.signed]
theorem xAdd_ok {f : Nat} (hcall : ∀ args w, (callFunc f args).run P w = ((add64Entry args).run P w).andThen fun v w' => .ok (.value v) w') : XOk1 P f xAdd := by
  intro args s k hk c w h hw
  obtain ⟨hh, nx, φ⟩ := s
  obtain ⟨p, q, r, rfl, hk1⟩ := three_spec (s := ⟨hh, nx, φ⟩) hk
  obtain ⟨h1, hk2⟩ := ifB_true hk1
  obtain ⟨e1, e2, e3⟩ := u64s_spec h1
  obtain ⟨h2, hk3⟩ := ifB_true hk2
  obtain ⟨h3, h4⟩ := and2_iff.1 h2
  obtain ⟨h4, h5⟩ := and2_iff.1 h4
  have hs := h.sat
  obtain ⟨a1, a2⟩ := inR_spec hs h3
  obtain ⟨b1, b2⟩ := inR_spec hs h4
  obtain ⟨c1, c2⟩ := inR_spec hs h5
  obtain ⟨hi, h6, hk4⟩ := optB_true hk3
  obtain ⟨_, h7⟩ := sDiv_spec hs h6
  simp only [Int.ofNat_eq_natCast] at a1 a2 b1 b2 c1 c2
  refine .inr ⟨.tuple #[.int .u64 ((p.2.eval c.σ + q.2.eval c.σ + r.2.eval c.σ) % 18446744073709551616), .int .u64 ((p.2.eval c.σ + q.2.eval c.σ + r.2.eval c.σ) / 18446744073709551616)], w, ?_, ?_⟩
  · rw [hcall]
    simp only [e1, e2, e3]
    have : ([AV.w (.s (.int .u64 p.2)), AV.w (.s (.int .u64 q.2)), AV.w (.s (.int .u64 r.2))].map (AV.conc c)).toArray = #[.int .u64 (p.2.eval c.σ), .int .u64 (q.2.eval c.σ), .int .u64 (r.2.eval c.σ)] := rfl
    rw [this, run_add64 _ _ _ (by simpa using a1) (by simpa using b1) (by simpa using c1) (by simpa using c2)]
    rfl
  · refine ⟨c, _, ⟨hh, nx, φ⟩, ?_, ?_, Step.refl _ _ _, h, hk4⟩
    · have x1 : (sWrap φ .u64 (plusT (plusT p.2 q.2) r.2)).eval c.σ = (p.2.eval c.σ + q.2.eval c.σ + r.2.eval c.σ) % 18446744073709551616 := by
        rw [sWrap_spec hs, plusT_spec, plusT_spec, wrap_u64]
      have x2 : (sq φ hi).eval c.σ = (p.2.eval c.σ + q.2.eval c.σ + r.2.eval c.σ) / 18446744073709551616 := by
        rw [sq_spec hs, h7, plusT_spec, plusT_spec]
        have e : (Tm.lit (.ofNat 18446744073709551616)).eval c.σ = 18446744073709551616 := rfl
        have h0 : 0 ≤ p.2.eval c.σ + q.2.eval c.σ + r.2.eval c.σ := by
          have a1' : (0 : Int) ≤ p.2.eval c.σ := by simpa using a1
          have b1' : (0 : Int) ≤ q.2.eval c.σ := by simpa using b1
          have c1' : (0 : Int) ≤ r.2.eval c.σ := by simpa using c1
          omega
        rw [e, Int.tdiv_eq_ediv_of_nonneg h0]
        have a2' : p.2.eval c.σ ≤ 18446744073709551615 := by simpa using a2
        have b2' : q.2.eval c.σ ≤ 18446744073709551615 := by simpa using b2
        have c2' : r.2.eval c.σ ≤ 1 := by simpa using c2
        rw [wrap_u64]
        omega
      simp only [AV.conc, AW.conc, AS.conc, List.map_cons, List.map_nil, x1, x2]
    · intro x hx
      rcases List.mem_cons.1 hx with rfl | hx
      · trivial
      · rcases List.mem_cons.1 hx with rfl | hx
        · trivial
        · cases hx

theorem run_sub64' {P : Program} (x y b : Int) (hx : 0 ≤ x) (hy : 0 ≤ y) (hy2 : y ≤ 18446744073709551615) (hb0 : 0 ≤ b) (hb : b ≤ 1) (w : World) :
    (Go.Proofs.sub64Entry #[.int .u64 x, .int .u64 y, .int .u64 b]).run P w = .ok (.tuple #[.int .u64 ((x - (y + b)) % 18446744073709551616), .int .u64 (if y + b ≤ x then 0 else 1)]) w := by
  obtain ⟨X, rfl⟩ := Int.eq_ofNat_of_zero_le hx
  obtain ⟨Y, rfl⟩ := Int.eq_ofNat_of_zero_le hy
  obtain ⟨B, rfl⟩ := Int.eq_ofNat_of_zero_le hb0
  rw [Go.Proofs.run_sub64 X Y B (by omega)]
  congr 4
  · congr 1; omega
  · congr 1
    split <;> split <;> first | rfl | omega
theorem xSub_ok {f : Nat} (hcall : ∀ args w, (callFunc f args).run P w = ((Go.Proofs.sub64Entry args).run P w).andThen fun v w' => .ok (.value v) w') : XOk1 P f xSub := by
  intro args s k hk c w h hw
  obtain ⟨hh, nx, φ⟩ := s
  obtain ⟨p, q, r, rfl, hk1⟩ := three_spec (s := ⟨hh, nx, φ⟩) hk
  obtain ⟨h1, hk2⟩ := ifB_true hk1
  obtain ⟨e1, e2, e3⟩ := u64s_spec h1
  obtain ⟨h2, hk3⟩ := ifB_true hk2
  obtain ⟨h3, h4⟩ := and2_iff.1 h2
  obtain ⟨h4, h5⟩ := and2_iff.1 h4
  have hs := h.sat
  obtain ⟨a1, a2⟩ := inR_spec hs h3
  obtain ⟨b1, b2⟩ := inR_spec hs h4
  obtain ⟨c1, c2⟩ := inR_spec hs h5
  obtain ⟨φ', hs', hk4⟩ := brc_spec hs hk3
  refine .inr ⟨.tuple #[.int .u64 ((p.2.eval c.σ - (q.2.eval c.σ + r.2.eval c.σ)) % 18446744073709551616), .int .u64 (if q.2.eval c.σ + r.2.eval c.σ ≤ p.2.eval c.σ then 0 else 1)], w, ?_, ?_⟩
  · rw [hcall]
    simp only [e1, e2, e3]
    have : ([AV.w (.s (.int .u64 p.2)), AV.w (.s (.int .u64 q.2)), AV.w (.s (.int .u64 r.2))].map (AV.conc c)).toArray = #[.int .u64 (p.2.eval c.σ), .int .u64 (q.2.eval c.σ), .int .u64 (r.2.eval c.σ)] := rfl
    rw [this, run_sub64' _ _ _ (by simpa using a1) (by simpa using b1) (by simpa using b2) (by simpa using c1) (by simpa using c2)]
    rfl
  · have x1 : (sWrap φ' .u64 (subT p.2 (plusT q.2 r.2))).eval c.σ = (p.2.eval c.σ - (q.2.eval c.σ + r.2.eval c.σ)) % 18446744073709551616 := by
      rw [sWrap_spec hs', subT_spec, plusT_spec, wrap_u64]
    have x2 : (Cond.le (plusT q.2 r.2) p.2).eval c.σ = decide (q.2.eval c.σ + r.2.eval c.σ ≤ p.2.eval c.σ) := by
      simp only [Cond.eval, plusT_spec]
    rw [x2] at hk4
    have wf : ∀ a b : Tm, (AV.tup [.s (.int .u64 a), .s (.int .u64 b)]).wf c nx := by
      intro a b x hx
      rcases List.mem_cons.1 hx with rfl | hx
      · trivial
      · rcases List.mem_cons.1 hx with rfl | hx
        · trivial
        · cases hx
    by_cases hle : q.2.eval c.σ + r.2.eval c.σ ≤ p.2.eval c.σ
    · rw [decide_eq_true hle] at hk4
      rw [if_pos hle]
      exact ⟨c, .tup [.s (.int .u64 (sWrap φ' .u64 (subT p.2 (plusT q.2 r.2)))), .s (.int .u64 (.lit (.ofNat 0)))], ⟨hh, nx, φ'⟩, by simp only [AV.conc, AW.conc, AS.conc, List.map_cons, List.map_nil, x1]; rfl, wf _ _, Step.facts c ⟨hh, nx, φ⟩ w φ', h.facts hs', hk4⟩
    · rw [decide_eq_false hle] at hk4
      rw [if_neg hle]
      exact ⟨c, .tup [.s (.int .u64 (sWrap φ' .u64 (subT p.2 (plusT q.2 r.2)))), .s (.int .u64 (.lit (.ofNat 1)))], ⟨hh, nx, φ'⟩, by simp only [AV.conc, AW.conc, AS.conc, List.map_cons, List.map_nil, x1]; rfl, wf _ _, Step.facts c ⟨hh, nx, φ⟩ w φ', h.facts hs', hk4⟩
end
end
end Go.Sy

/-! The symbolic executor, part Y: a function that defers a closure that recovers. -/
namespace Go.Sy
set_option linter.unusedVariables false
set_option linter.unusedSectionVars false
noncomputable section

structure ADef where
  n : Nat
  res : List ResA
  pre : AC
  d0 : Nat
  f : Nat
  caps : List AX
  body : AC
  cn : Nat
  rd : Nat
  crest : List AOper
  cbody : AC

/-- the closure, with what it recovers -/
def closK (call : CallF) (x : ADef) (ps : List (Nat × Nat)) (rv : AV) (s : S) (k : S → Bool) : Bool := match x with
  | .mk _ _ _ _ _ _ _ cn rd crest cbody => ifB (Nat.ble (llen ps) cn) (argsK (lmap capV ps) 0 .leaf fun t => putK (some rd) rv t fun t => regE call (fun ex t s => match ex with
    | .normal => exec call cbody t s (fun ex t s => match ex with
      | .normal => k s
      | .ret => k s
      | .exit _ => false
      | .panic _ => false)
    | .exit _ => false
    | .ret => false
    | .panic _ => false) crest t s)
def leaveK (call : CallF) (x : ADef) (ps : List (Nat × Nat)) (res : List ResA) (k : KC) : KX := fun ex t s => match ex with
  | .normal => closK call x ps (.w (.s .niliface)) s fun s => resK res t s k
  | .ret => closK call x ps (.w (.s .niliface)) s fun s => resK res t s k
  | .exit _ => false
  | .panic v => closK call x ps v s fun s => resK res t s k
def runD (call : CallF) (x : ADef) (args : List AV) (s : S) (k : KC) : Bool := match x with
  | .mk n res pre d0 f caps body cn rd crest cbody => ifB (Nat.ble (llen args) n) (argsK args 0 .leaf fun t => exec call pre t s fun ex t s => match ex with
    | .normal => optB (evL t caps) fun l => optB (capsA l) fun ps => putK (some d0) (.w (.s (.fn f ps))) t fun t => exec call body t s (leaveK call (.mk n res pre d0 f caps body cn rd crest cbody) ps res k)
    | .exit _ => false
    | .ret => false
    | .panic _ => false)

structure DefOk (P : Program) (T : TyT) (f0 : Nat) (x : ADef) (func cf : Func) (A B C : Code) (id cid : Nat) (o1 o2 r : Oper) (c2 cr : Call) (cops : Array Oper) (rest : List Oper) (hint chint : Nat → List (Nat × Nat)) : Prop where
  at_ : P.funcs[f0]? = some func
  call : ∀ args w, (callFunc f0 args).run P w = .ok (.enter f0 args) w
  body : func.body = some (.seq A (.seq (.region id #[o1, o2] false) B))
  ntmps : func.ntmps = x.n
  compA : compC T x.n hint A = some x.pre
  compB : compC T x.n hint B = some x.body
  mk1 : compP T o1.op = some (.mkfunc x.f x.caps)
  dst1 : o1.dst = some x.d0
  lt1 : Nat.ble (Nat.succ x.d0) x.n = true
  g1 : o1.guard = none
  op2 : o2.op = .defer c2
  cal2 : c2.callee = .value (.tmp x.d0)
  arg2 : c2.args = #[]
  dst2 : o2.dst = none
  g2 : o2.guard = none
  res : compRes T func.results.toList = some x.res
  cat : P.funcs[x.f]? = some cf
  ccall : ∀ args w, (callFunc x.f args).run P w = .ok (.enter x.f args) w
  cbody : cf.body = some (.seq (.region cid cops false) C)
  cntmps : cf.ntmps = x.cn
  copl : cops.toList = r :: rest
  opr : r.op = .call cr
  calr : cr.callee = .builtin .recover
  argr : cr.args = #[]
  dstr : r.dst = some x.rd
  ltr : Nat.ble (Nat.succ x.rd) x.cn = true
  gr : r.guard = none
  compR : compOps T cops x.cn rest = some x.crest
  compC' : compC T x.cn chint C = some x.cbody
  cres : cf.results = #[]

section
variable {P : Program} {T : TyT} {call : CallF} {c : Cx} {t : Tmps} {a : Act} {s : S} {w : World}

theorem wpS_mono {code : Code} {Q Q' : Exit → Act → List Frame → World → Prop} {cs : List Frame} (h : code.wpS P Q a cs w) (hq : ∀ e a cs w, Q e a cs w → Q' e a cs w) : code.wpS P Q' a cs w :=
  fun b k hb hr => let ⟨e, a', cs', w', q, r⟩ := h b k hb hr; ⟨e, a', cs', w', hq _ _ _ _ q, r⟩

theorem regS_sound (hT : TOk P T) (hcall : CallOk P call) {ops : Array Oper} {n : Nat} (hdst : ∀ (j d : Nat), (ops[j]?).bind (·.dst) = some d → d < n) {d : List Deferred} {c0 : Cx} {s0 : S} {w0 : World} {k : KX} {cs : List Frame} {Q : Exit → Act → List Frame → World → Prop} (hQ : ∀ e a' w', Post n d c0 s0 w0 k e a' w' → Q e a' cs w') :
    ∀ (l : List Oper) (j : Nat) (al : List AOper), (∀ i, l[i]? = ops[j + i]?) → compOps T ops n l = some al → ∀ {c : Cx} {s : S} {w : World} {t : Tmps} {a : Act}, Step c0 c s0 s w0 w → Rel c s w → TRel c s.nx t a.tmps → a.tmps.size = n → a.defers = d →
      regE call k al t s = true → wpOpsS P ops Q (List.range' j l.length) a cs w := by
  intro l
  induction l with
  | nil =>
    intro j al hl hc c s w t a hst h hr hn hd hk
    simp only [compOps] at hc; injection hc with hc; subst hc
    rw [regE_nil] at hk
    exact hQ .normal a w ⟨c, t, s, hd, hn, hst, h, hr, hk⟩
  | cons o l ih =>
    intro j al hl hc c s w t a hst h hr hn hd hk
    simp only [compOps] at hc
    split at hc <;> try (simp at hc; done)
    rename_i ao hao
    split at hc <;> try (simp at hc; done)
    rename_i r hr'
    injection hc with hc; subst hc
    rw [regE_cons] at hk
    have ho : ops[j]? = some o := by have := hl 0; simpa using this.symm
    have hl' : ∀ i, l[i]? = ops[j + 1 + i]? := fun i => by have := hl (i + 1); simp at this; rw [this]; congr 1; omega
    obtain ⟨h1, h2, h3, h4⟩ := compOper_some hao
    obtain ⟨dst, op, g⟩ := ao
    have h2 : dst = o.dst := h2
    subst h2
    obtain ⟨b, hb, hk1⟩ := guard_spec hao hr (fun j want d hg hj => by rw [hn]; exact hdst j d hj) hk
    simp only [List.length_cons, List.range'_succ]
    simp only [wpOpsS, ho]
    cases b with
    | false =>
      simp only [hb, Bool.false_eq_true, if_false]
      have hk1 : putK o.dst .undef t (fun t => regE call k r t s) = true := hk1
      rw [putK_eq] at hk1
      obtain ⟨q1, q2, q3⟩ := putA_rel (c := c) (s := s) (v := .undef) h3 hn hr trivial
      exact ih (j + 1) r hl' hr' hst h q1 q2 (q3.trans hd) hk1
    | true =>
      simp only [hb, if_true]
      have hk1 : stepOp call op t s (fun v s => putK o.dst v t fun t => regE call k r t s) (fun v s => k (.panic v) t s) = true := hk1
      have hup := step_sound hT hcall h1 hr h hk1 (next := fun a' w' => wpOpsS P ops Q (List.range' (j + 1) l.length) a' cs w')
        (Q := fun e a' w' => Q e a' cs w') ⟨?_, ?_⟩
      · split
        · rename_i w' he
          rw [he] at hup; exact hup.elim
        · exact hup
      · intro c' v s' w' hw hs' h' hk2
        rw [putK_eq] at hk2
        obtain ⟨q1, q2, q3⟩ := putA_rel (c := c') (s := s') (v := v) h3 hn (hr.ext hs'.ext hs'.nx) hw
        exact ih (j + 1) r hl' hr' (hst.trans hs') h' q1 q2 (q3.trans hd) hk2
      · intro c' v s' w' hw hs' h' hk2
        exact hQ (.panic _) a w' ⟨c', v, t, s', rfl, hw, hd, hn, hst.trans hs', h', hr.ext hs'.ext hs'.nx, hk2⟩

/-- what the closure finds: no panic; or one -/
def Finds (c : Cx) (u : FrameMode) (rv : AV) : Prop := (u = .returning ∧ rv = .w (.s .niliface)) ∨ u = .panicking [{ v := rv.conc c, recovered := false }]

theorem clos_sound (hT : TOk P T) (hcall : CallOk P call) (hm : P.follows .mixedOrders = true) {f0 : Nat} {x : ADef} {func cf : Func} {A B C : Code} {id cid : Nat} {o1 o2 r : Oper} {c2 cr : Call} {cops : Array Oper} {rest : List Oper} {hint chint : Nat → List (Nat × Nat)}
    (hx : DefOk P T f0 x func cf A B C id cid o1 o2 r c2 cr cops rest hint chint) {u : FrameMode} {rv : AV} (hu : Finds c u rv) (hrv : rv.wf c s.nx) {ps : List (Nat × Nat)} (hps : ∀ p ∈ ps, p.1 < s.nx) (h : Rel c s w) {k : S → Bool} (hk : closK call x ps rv s k = true) :
    CallsD P x.f (ps.map (capPtr c)).toArray u w (fun e u' w' => match e with
      | .returned _ => settle u' = .returning ∧ ∃ c' s', Step c c' s s' w w' ∧ Rel c' s' w' ∧ k s' = true
      | .panicked _ => False
      | .outgrown => False) := by
  obtain ⟨n, res, pre, d0, f, caps, body, cn, rd, crest, cbody⟩ := x
  obtain ⟨hlen, hk1⟩ := ifB_true (show ifB (Nat.ble (llen ps) cn) _ = true from hk)
  have hlen := (natBle_iff _ _).1 hlen
  rw [llen_eq] at hlen
  have hcn : cf.ntmps = cn := hx.cntmps
  refine callsD_of_wpS hx.cat hx.cbody fun c₀ cs hmode => ?_
  rw [hcn]
  obtain ⟨e3, e4⟩ := caps_spec (c := c) (nx := s.nx) (caps := ps) hps
  obtain ⟨t, ht, hk2⟩ := args_rel (c := c) (s := s) (lmap capV ps) 0 .leaf ((ps.map (capPtr c)).toArray ++ Array.replicate (cn - (ps.map (capPtr c)).toArray.size) undef) (by intro m v hv; cases hv) e4
    (by
      intro j v hv
      rw [Nat.zero_add]
      have hj : j < (lmap capV ps).length := (List.getElem?_eq_some_iff.1 hv).1
      have hj' : j < (ps.map (capPtr c)).length := by rw [← e3]; simpa using hj
      rw [Array.getElem?_append_left (by simpa using hj')]
      rw [← e3]
      simp [hv]) hk1
  rw [putK_eq] at hk2
  have hsz : ((ps.map (capPtr c)).toArray ++ Array.replicate (cn - (ps.map (capPtr c)).toArray.size) undef).size = cn := by simp; omega
  generalize hvs : (ps.map (capPtr c)).toArray ++ Array.replicate (cn - (ps.map (capPtr c)).toArray.size) undef = vs at *
  have hcsz : cops.size = (r :: rest).length := by rw [← hx.copl]; simp
  have hr0 : cops[0]? = some r := by
    have := congrArg (·[0]?) hx.copl
    simpa using this
  have hrl : ∀ i, rest[i]? = cops[1 + i]? := by
    intro i
    have := congrArg (·[i + 1]?) hx.copl
    simp at this
    rw [← this]; congr 1; omega
  have hdst : ∀ (j e : Nat), (cops[j]?).bind (·.dst) = some e → e < cn := by
    intro j e he
    cases j with
    | zero =>
      rw [hr0] at he
      have he : r.dst = some e := he
      rw [hx.dstr] at he; injection he with he; subst he
      exact (natBle_iff _ _).1 hx.ltr
    | succ j =>
      rw [show j + 1 = 1 + j by omega, ← hrl j] at he
      cases hj : rest[j]? with
      | none => rw [hj] at he; cases he
      | some o =>
        rw [hj] at he
        exact compOps_dst hx.compR o (List.mem_of_getElem? hj) e he
  have hex : ∀ (a : Act) (w : World), (execOp a.eval r).run P w = .ok .recover w := by
    intro a w
    obtain ⟨dst, op, ty, pos, af, g⟩ := r
    have hop : op = _ := hx.opr
    subst hop
    simp [execOp, resolve, hx.calr, hx.argr, invoke, builtin]
  -- the frames behind the recovery
  have key : ∃ cs', (match recoverD (c₀ :: cs) with | some (v, cs2) => (v, cs2) | none => (Value.nilIface, c₀ :: cs)) = (rv.conc c, cs') ∧ ∃ u', cs' = { c₀ with mode := u' } :: cs ∧ settle u' = .returning := by
    rcases hu with ⟨rfl, rfl⟩ | rfl
    · refine ⟨c₀ :: cs, ?_, .returning, ?_, rfl⟩
      · simp [recoverD, hmode, AV.conc, AW.conc, AS.conc]
      · rw [← hmode]
    · exact ⟨{ c₀ with mode := .panicking [{ v := rv.conc c, recovered := true }] } :: cs, by simp [recoverD, hmode], _, rfl, by simp [settle]⟩
  obtain ⟨cs', hrec, u', hcs', hset⟩ := key
  have hrel0 : TRel c s.nx (putA (some rd) rv t) (({ tmps := vs, defers := [] } : Act).put (some rd) (rv.conc c)).tmps ∧ (({ tmps := vs, defers := [] } : Act).put (some rd) (rv.conc c)).tmps.size = cn ∧ (({ tmps := vs, defers := [] } : Act).put (some rd) (rv.conc c)).defers = [] :=
    putA_rel (dst := some rd) (a := { tmps := vs, defers := [] }) hx.ltr hsz ht hrv
  refine wpS_seq (wpS_region ?_)
  rw [List.range_eq_range', hcsz]
  simp only [List.length_cons, List.range'_succ]
  simp only [wpOpsS, hr0]
  have hwant : Region.wanted r (yielded cops vs) = true := by simp [Region.wanted, hx.gr]
  simp only [hwant, if_true, hex, hx.dstr]
  have hres : ∀ (tm : Array Value) (w : World), (results cf tm).run P w = .ok (.tuple #[]) w := by
    intro tm w
    simp [results, hx.cres]
  have fin := regS_sound (cs := cs') hT hcall hdst (Q := Exit.thenS (C.wpS P (bodyPostS P cf c₀ cs (fun e u' w' => match e with
      | .returned _ => settle u' = .returning ∧ ∃ c' s', Step c c' s s' w w' ∧ Rel c' s' w' ∧ k s' = true
      | .panicked _ => False
      | .outgrown => False))) (bodyPostS P cf c₀ cs (fun e u' w' => match e with
      | .returned _ => settle u' = .returning ∧ ∃ c' s', Step c c' s s' w w' ∧ Rel c' s' w' ∧ k s' = true
      | .panicked _ => False
      | .outgrown => False))) ?_ rest 1 crest hrl hx.compR (Step.refl c s w) h hrel0.1 hrel0.2.1 hrel0.2.2 hk2
  · cases hR : recoverD (c₀ :: cs) with
    | none =>
      rw [hR] at hrec
      injection hrec with e1 e2
      simp only []
      rw [e1, e2]; exact fin
    | some p =>
      obtain ⟨v, cs2⟩ := p
      rw [hR] at hrec
      injection hrec with e1 e2
      simp only []
      rw [e1, e2]; exact fin
  · intro e a' w' hq
    cases e with
    | normal =>
      obtain ⟨c1, t1, s1, h1, h2, h3, h4, h5, h6⟩ := hq
      refine wpS_of_wp (wp_mono (exec_sound hT hcall hm C hx.compC' h4 h5 h2 h1 h6) ?_)
      intro e a2 w2 hq
      cases e with
      | normal =>
        obtain ⟨c2, t2, s2, g1, g2, g3, g4, g5, g6⟩ := hq
        exact ⟨g1, u', hcs', _, hres _ _, hset, c2, s2, h3.trans g3, g4, g6⟩
      | ret =>
        obtain ⟨c2, t2, s2, g1, g2, g3, g4, g5, g6⟩ := hq
        exact ⟨g1, u', hcs', _, hres _ _, hset, c2, s2, h3.trans g3, g4, g6⟩
      | exit i => obtain ⟨c2, t2, s2, g1, g2, g3, g4, g5, g6⟩ := hq; cases g6
      | goto l => exact hq.elim
      | panic ch => obtain ⟨c2, v2, t2, s2, g1, g2, g3, g4, g5, g6, g7, g8⟩ := hq; cases g8
      | outgrown => exact hq.elim
    | ret => obtain ⟨c2, t2, s2, g1, g2, g3, g4, g5, g6⟩ := hq; cases g6
    | exit i => obtain ⟨c2, t2, s2, g1, g2, g3, g4, g5, g6⟩ := hq; cases g6
    | goto l => exact hq.elim
    | panic ch => obtain ⟨c2, v2, t2, s2, g1, g2, g3, g4, g5, g6, g7, g8⟩ := hq; cases g8
    | outgrown => exact hq.elim

theorem runD_sound (hT : TOk P T) (hcall : CallOk P call) (hm : P.follows .mixedOrders = true) {f0 : Nat} {x : ADef} {func cf : Func} {A B C : Code} {id cid : Nat} {o1 o2 r : Oper} {c2 cr : Call} {cops : Array Oper} {rest : List Oper} {hint chint : Nat → List (Nat × Nat)}
    (hx : DefOk P T f0 x func cf A B C id cid o1 o2 r c2 cr cops rest hint chint) {args : List AV} {k : KC} (hk : runD call x args s k = true) (h : Rel c s w) (hw : ∀ v ∈ args, v.wf c s.nx) :
    Calls P f0 (args.map (AV.conc c)).toArray w (CPost c s w k) := by
  obtain ⟨n, res, pre, d0, f, caps, body, cn, rd, crest, cbody⟩ := x
  obtain ⟨hlen, hk1⟩ := ifB_true (show ifB (Nat.ble (llen args) n) _ = true from hk)
  have hlen := (natBle_iff _ _).1 hlen
  rw [llen_eq] at hlen
  have hn : func.ntmps = n := hx.ntmps
  refine calls_of_wp_defers hx.at_ hx.body ?_
  rw [hn]
  obtain ⟨t, ht, hk2⟩ := args_rel (c := c) (s := s) args 0 .leaf ((args.map (AV.conc c)).toArray ++ Array.replicate (n - (args.map (AV.conc c)).toArray.size) undef) (by intro m v hv; cases hv) hw
    (by
      intro j v hv
      rw [Nat.zero_add]
      have hj : j < args.length := (List.getElem?_eq_some_iff.1 hv).1
      rw [Array.getElem?_append_left (by simpa using hj)]
      simp [hv]) hk1
  refine wp_seq (wp_mono (exec_sound hT hcall hm A hx.compA h ht (by simp; omega) rfl hk2) ?_)
  intro e a1 w1 hq
  cases e with
  | normal =>
    obtain ⟨c1, t1, s1, h1, h2, h3, h4, h5, h6⟩ := hq
    obtain ⟨l, hl, h7⟩ := optB_true h6
    obtain ⟨ps, hps, h8⟩ := optB_true h7
    rw [putK_eq] at h8
    have hmk : pureOp s1.φ t1 (.mkfunc f caps) = some (.w (.s (.fn f ps))) := by
      simp only [pureOp, opMkfn, hl, optP, hps]
    obtain ⟨e1, e2⟩ := pure_sound (o := o1) hT hx.mk1 h5 h4.sat hmk
    obtain ⟨q1, q2, q3⟩ := putA_rel (c := c1) (s := s1) (v := .w (.s (.fn f ps))) (dst := some d0) hx.lt1 h2 h5 e2
    generalize ha2 : a1.put (some d0) ((AV.w (.s (.fn f ps))).conc c1) = a2 at *
    have hv2 : a2.eval (.tmp d0) = .func (.func f) #[] (ps.map (capPtr c1)).toArray := by
      have hd : d0 < a1.tmps.size := by rw [h2]; exact (natBle_iff _ _).1 hx.lt1
      rw [← ha2]
      exact put_eq hd
    have hex2 : (execOp a2.eval o2).run P w1 = .ok (.defer { target := .fn (.func f) (ps.map (capPtr c1)).toArray, args := #[] }) w1 := by
      have hop := hx.op2
      obtain ⟨dst, op, ty, pos, af, g⟩ := o2
      have hop : op = _ := hop
      subst hop
      have hcal := hx.cal2
      have hcal : c2.callee = .value (.tmp d0) := hcal
      simp [execOp, resolve, hcal, hx.arg2, hv2, Deferred.ofValue]
    let a3 : Act := { a2 with defers := { target := .fn (.func f) (ps.map (capPtr c1)).toArray, args := #[] } :: a2.defers }
    have hd3 : a3.defers = [{ target := .fn (.func f) (ps.map (capPtr c1)).toArray, args := #[] }] := by
      show _ :: a2.defers = _
      rw [q3, h1]
    refine wp_seq (wp_region ?_)
    have hran : List.range (#[o1, o2] : Array Oper).size = [0, 1] := rfl
    have hr0 : (#[o1, o2] : Array Oper)[0]? = some o1 := rfl
    have hr1 : (#[o1, o2] : Array Oper)[1]? = some o2 := rfl
    rw [hran]
    simp only [wpOps, hr0, hr1]
    have w1' : ∀ tm, Region.wanted o1 (yielded #[o1, o2] tm) = true := fun tm => by simp [Region.wanted, hx.g1]
    have w2' : ∀ tm, Region.wanted o2 (yielded #[o1, o2] tm) = true := fun tm => by simp [Region.wanted, hx.g2]
    simp only [w1', w2', if_true]
    refine .inl ?_
    unfold Oper.wp
    rw [show Sem.run P (execOp a1.eval o1) w1 = _ from e1 w1, Oper.upon_value, hx.dst1]
    have ha2' : a1.put (some d0) ((AV.w (.s (.fn f ps))).conc c1) = a2 := ha2
    rw [ha2']
    refine .inl ?_
    rw [hex2, Oper.upon_defer, hx.dst2]
    show B.wp P _ a3 w1
    refine wp_mono (exec_sound hT hcall hm B hx.compB h4 (a := a3) q1 q2 hd3 h8) ?_
    -- the ways out of the body
    have leave : ∀ {u : FrameMode} {rv : AV} {a' : Act} {w' : World} {c' : Cx} {t' : Tmps} {s' : S}, Finds c' u rv → rv.wf c' s'.nx → a'.defers = [{ target := .fn (.func f) (ps.map (capPtr c1)).toArray, args := #[] }] → u ≠ .run → Step c1 c' s1 s' w1 w' → Rel c' s' w' → TRel c' s'.nx t' a'.tmps →
        closK call ⟨n, res, pre, d0, f, caps, body, cn, rd, crest, cbody⟩ ps rv s' (fun s => resK res t' s k) = true → Leaves P func a'.tmps (CPost c s w k) a'.defers u w' := by
      intro u rv a' w' c' t' s' hu hrv hdf hne hst hrel htr hk'
      rw [hdf]
      have hcap : ps.map (capPtr c') = ps.map (capPtr c1) := List.map_congr_left fun p hp => by
        have : p.1 < s1.nx := e2 p hp
        simp [capPtr, hst.ext.ι p.1 this]
      refine leaves_cons hne (f := f) (args := (ps.map (capPtr c1)).toArray) ?_ ?_
      · simp only [invoke]
        rw [show (#[] : Array Value) ++ (ps.map (capPtr c1)).toArray = (ps.map (capPtr c1)).toArray by simp]
        exact hx.ccall _ _
      · have hcl := clos_sound hT hcall hm hx hu hrv (ps := ps) (fun p hp => Nat.lt_of_lt_of_le (e2 p hp) hst.nx) hrel hk'
        rw [hcap] at hcl
        refine CallsD.mono hcl ?_
        intro e u' w'' he
        cases e with
        | panicked ch => exact he.elim
        | outgrown => exact he.elim
        | returned v0 =>
          obtain ⟨hset, c3, s3, g1, g2, g3⟩ := he
          simp only [hset]
          obtain ⟨l, hl, g4⟩ := optB_true g3
          obtain ⟨v, hv, g5⟩ := optB_true g4
          obtain ⟨r1, r2⟩ := res_sound hT g2 (htr.ext g1.ext g1.nx) hx.res hl
          obtain ⟨r3, r4⟩ := mkRes_spec (c := c3) (s := s3) hv r2
          exact ⟨_, run_results func r1, c3, v, s3, r3, r4, (h3.trans hst).trans g1, g2, g5⟩
    intro e a' w' hq
    cases e with
    | normal =>
      obtain ⟨c', t', s', g1, g2, g3, g4, g5, g6⟩ := hq
      exact leave (rv := .w (.s .niliface)) (.inl ⟨rfl, rfl⟩) trivial g1 (by simp) g3 g4 g5 g6
    | ret =>
      obtain ⟨c', t', s', g1, g2, g3, g4, g5, g6⟩ := hq
      exact leave (rv := .w (.s .niliface)) (.inl ⟨rfl, rfl⟩) trivial g1 (by simp) g3 g4 g5 g6
    | exit i => obtain ⟨c', t', s', g1, g2, g3, g4, g5, g6⟩ := hq; cases g6
    | goto l => exact hq.elim
    | panic ch =>
      obtain ⟨c', v, t', s', g0, g1, g2, g3, g4, g5, g6, g7⟩ := hq
      subst g0
      exact leave (rv := v) (.inr rfl) g1 g2 (by simp) g4 g5 g6 g7
    | outgrown => exact hq.elim
  | ret => obtain ⟨c', t', s', g1, g2, g3, g4, g5, g6⟩ := hq; cases g6
  | exit i => obtain ⟨c', t', s', g1, g2, g3, g4, g5, g6⟩ := hq; cases g6
  | goto l => exact hq.elim
  | panic ch => obtain ⟨c2, v2, t2, s2, g1, g2, g3, g4, g5, g6, g7, g8⟩ := hq; cases g8
  | outgrown => exact hq.elim
end
end
end Go.Sy

/-! The symbolic executor, part Z: functions whose answers get a name. -/
namespace Go.Sy
set_option linter.unusedVariables false
set_option linter.unusedSectionVars false
noncomputable section

def xVia (fn : AFunc) (conv : AV → Phi → Option (AV × Phi)) : CallY := fun call args s k => runF call fn args s fun r s => match r with
  | .val v => (match s with | .mk h nx φ => optB (conv v φ) fun p => k (.val p.1) ⟨h, nx, p.2⟩)
  | .panic v => k (.panic v) s
def ConvOk (conv : AV → Phi → Option (AV × Phi)) : Prop := ∀ v φ p, conv v φ = some p → ∀ c : Cx, Sat c.σ φ → p.1.conc c = v.conc c ∧ (∀ nx, v.wf c nx → p.1.wf c nx) ∧ Sat c.σ p.2

theorem xVia_ok {P : Program} {T : TyT} (hT : TOk P T) (hm : P.follows .mixedOrders = true) {f : Nat} {fn : AFunc} {func : Func} {code : Code} {hint : Nat → List (Nat × Nat)} (hf : FnOk P T f fn func code hint) {conv : AV → Phi → Option (AV × Phi)} (hc : ConvOk conv)
    (call : CallF) (hcall : CallOk P call) : XOk1 P f (xVia fn conv call) := by
  intro args s k hk c w h hw
  refine .inl ⟨hf.call _ w, Calls.mono (runF_sound hT hcall hm hf hk h hw) fun e w' he => ?_⟩
  cases e with
  | returned u =>
    obtain ⟨c', v, s', e1, e2, e3, e4, e5⟩ := he
    obtain ⟨hh, nx, φ⟩ := s'
    obtain ⟨p, hp, e6⟩ := optB_true (show optB (conv v φ) _ = true from e5)
    obtain ⟨g1, g2, g3⟩ := hc v φ p hp c' e4.sat
    exact ⟨c', p.1, ⟨hh, nx, p.2⟩, by rw [e1, g1], g2 nx e2, ⟨e3.ext, e3.nx, e3.os, e3.tape, e3.output, e3.size, e3.frame, e3.anew⟩, e4.facts g3, e6⟩
  | panicked ch =>
    obtain ⟨c', v, s', e1, e2, e3, e4, e5⟩ := he
    exact ⟨c', v, s', e1, e2, e3, e4, e5⟩
  | outgrown => exact he.elim

/-- a number cut to the size m: is it the input number i? -/
def cutOf (t : Tm) : Option (Nat × Nat) := match t with
  | .mod (.add (.mod (.var i) (.lit (.ofNat a))) (.lit (.ofNat b))) (.lit (.ofNat c)) => (match Nat.beq a b, Nat.beq b c with | true, true => some (i, a) | _, _ => none)
  | _ => none
theorem cutOf_spec {t : Tm} {i m : Nat} (h : cutOf t = some (i, m)) (σ : Env) : t.eval σ = (((σ.v i).tmod m) + m).tmod m := by
  unfold cutOf at h
  split at h <;> try (simp at h; done)
  rename_i j a b c
  split at h <;> try (simp at h; done)
  rename_i h1 h2
  have h1 := (natBeq_iff _ _).1 h1
  have h2 := (natBeq_iff _ _).1 h2
  subst h1; subst h2
  injection h with h; injection h with h3 h4
  subst h3; subst h4
  rfl
def convN (v : AV) (φ : Phi) : Option (AV × Phi) := match v with
  | .w (.s (.int .i64 t)) => optP (cutOf t) none fun p => ckB (and2 (Nat.beq p.1 1) (Nat.ble 1 p.2)) none (forceN (Nat.add 1000 p.2) fun i => some (vInt .i64 (.var i), setRng φ i (.ofNat 0) (.ofNat (Nat.sub p.2 1))))
  | _ => none
theorem cut_range (x : Int) (m : Nat) (hm : 1 ≤ m) : 0 ≤ (x.tmod m + m).tmod m ∧ (x.tmod m + m).tmod m ≤ (m : Int) - 1 := by
  have hpos : (0 : Int) < m := by omega
  have h1 : -(m : Int) < x.tmod m := by
    have h3 := Int.natAbs_tmod x m
    have h4 : x.natAbs % (m : Int).natAbs < (m : Int).natAbs := Nat.mod_lt _ (by omega)
    omega
  have h2 : 0 ≤ x.tmod m + m := by omega
  exact ⟨Int.tmod_nonneg _ h2, by have := Int.tmod_lt_of_pos (x.tmod m + m) hpos; omega⟩
theorem convN_ok : ConvOk convN := by
  intro v φ p h c hs
  unfold convN at h
  split at h <;> try (simp at h; done)
  rename_i t
  obtain ⟨⟨i, m⟩, h1, g1⟩ := optP_some h
  obtain ⟨g2, g3⟩ := ckB_some g1
  rw [forceN_eq] at g3
  injection g3 with g3; subst g3
  obtain ⟨g4, g5⟩ := and2_iff.1 g2
  have k4 : i = 1 := (natBeq_iff _ _).1 g4
  have k5 : 1 ≤ m := (natBle_iff _ _).1 g5
  subst k4
  have e := cutOf_spec h1 c.σ
  have en := c.σ.n_eq m
  have hr := cut_range (c.σ.v 1) m k5
  refine ⟨?_, fun _ _ => trivial, setRng_sat hs ?_⟩
  · show Value.int .i64 (c.σ.v (1000 + m)) = Value.int .i64 (t.eval c.σ)
    rw [en, e]
  · show (0 : Int) ≤ c.σ.v (1000 + m) ∧ c.σ.v (1000 + m) ≤ ((m - 1 : Nat) : Int)
    rw [en]; omega

/-- the one fork that is left -/
def oneOf : List Bool → Nat → Option Nat
  | [], _ => none
  | true :: l, i => (match lall bnot l with | true => some i | false => none)
  | false :: l, i => oneOf l (i + 1)
theorem oneOf_spec : ∀ {l : List Bool} {j i : Nat}, oneOf l j = some i → ∀ f, l[f]? = some true → j + f = i := by
  intro l
  induction l with
  | nil => intro j i h; cases h
  | cons b l ih =>
    intro j i h f hf
    cases b with
    | true =>
      simp only [oneOf] at h
      split at h <;> try (simp at h; done)
      rename_i hl
      injection h with h; subst h
      cases f with
      | zero => rfl
      | succ f =>
        have := (lall_iff _ _).1 hl true (List.mem_of_getElem? (by simpa using hf))
        cases this
    | false =>
      simp only [oneOf] at h
      cases f with
      | zero => simp at hf
      | succ f => have := ih h f (by simpa using hf); omega
def convFork (v : AV) (φ : Phi) : Option (AV × Phi) := match v with
  | .w (.s (.int .i64 t)) => optP (cutOf t) none fun p => ckB (and2 (Nat.beq p.1 0) (Nat.beq p.2 16)) none (match φ with
    | .mk m r a => optP (oneOf m 0) none fun i => some (vInt .i64 (.lit (.ofNat i)), ⟨m, r, a⟩))
  | _ => none
theorem convFork_ok : ConvOk convFork := by
  intro v φ p h c hs
  unfold convFork at h
  split at h <;> try (simp at h; done)
  rename_i t
  obtain ⟨⟨i, m⟩, h1, g1⟩ := optP_some h
  obtain ⟨g2, g3⟩ := ckB_some g1
  obtain ⟨mk, r, a⟩ := φ
  obtain ⟨j, hj, g6⟩ := optP_some (show optP (oneOf mk 0) none _ = some p from g3)
  injection g6 with g6; subst g6
  obtain ⟨g4, g5⟩ := and2_iff.1 g2
  have k4 : i = 0 := (natBeq_iff _ _).1 g4
  have k5 : m = 16 := (natBeq_iff _ _).1 g5
  subst k4; subst k5
  have e := cutOf_spec h1 c.σ
  have ef := c.σ.f_eq
  have hone := oneOf_spec hj c.σ.f hs.mask
  refine ⟨?_, fun _ _ => trivial, hs⟩
  show Value.int .i64 (j : Int) = Value.int .i64 (t.eval c.σ)
  rw [e]
  have : (j : Int) = (c.σ.f : Int) := by omega
  rw [this, ef]; rfl
end
end Go.Sy

/-! The symbolic executor, part Za: tables of types, functions and summaries. -/
namespace Go.Sy
set_option linter.unusedVariables false
set_option linter.unusedSectionVars false
noncomputable section

theorem AS.wf_of_none {c : Cx} {nx : Nat} {x : AS} (h : InS (fun _ => False) x) : x.wf c nx := by
  cases x with
  | ptr a b => exact h.elim
  | slice a b n cp => exact h.elim
  | map a => exact h.elim
  | fn f caps => exact fun p hp => (h p hp).elim
  | _ => trivial
theorem AW.wf_of_none {c : Cx} {nx : Nat} {x : AW} (h : InW (fun _ => False) x) : x.wf c nx := by
  cases x with
  | s x => exact AS.wf_of_none h
  | agg l => exact fun x hx => AS.wf_of_none (h x hx)
theorem tyOk_mk {P : Program} {t : TypeId} {i : TyA} {inf : TypeInfo} {z : Value} (h1 : P.underlying t = some i.desc) (h2 : P.info? t = some inf) (h3 : inf.size = i.size) (h4 : inf.bytes = i.bytes) (h5 : inf.zero = some z) (h6 : ∀ c, i.zero.conc c = z)
    (h7 : inW (fun _ => false) i.zero = true) (h8 : (cellsW i.zero).length = i.size) (h9 : (match i.plain with | true => !(P.stoodInHeld t) && !(P.eqGuardType P.depth t) | false => true) = true) : TyOk P t i := by
  refine ⟨h1, ⟨inf, h2, h3, h4, z, h5, h6⟩, fun c nx => AW.wf_of_none (InW.mono (fun _ h => by cases h) (inW_spec h7)), h8, fun hp => ?_⟩
  rw [hp] at h9
  simp only [Bool.and_eq_true, Bool.not_eq_true'] at h9
  exact h9

/-- all that a tree holds -/
def Tree.AllP {α : Type} : (Nat → α → Prop) → Tree α → Prop
  | _, .leaf => True
  | p, .node l v r => (∀ x, v = some x → p 1 x) ∧ Tree.AllP (fun m => p (2 * m)) l ∧ Tree.AllP (fun m => p (2 * m + 1)) r
theorem Tree.AllP.get {α : Type} : ∀ {t : Tree α} {p : Nat → α → Prop}, t.AllP p → ∀ {n : Nat} {x : α}, 1 ≤ n → t.get n = some x → p n x := by
  intro t
  induction t with
  | leaf => intro p h n x hn hx; cases hx
  | node l v r ihl ihr =>
    intro p h n x hn hx
    obtain ⟨h1, h2, h3⟩ := h
    rw [Tree.get_node] at hx
    by_cases hle : n ≤ 1
    · have e : n = 1 := by omega
      subst e
      simp at hx
      exact h1 x hx
    · rw [if_neg hle] at hx
      split at hx
      · have := ihl h2 (show 1 ≤ n / 2 by omega) hx
        have e : 2 * (n / 2) = n := by omega
        rw [e] at this; exact this
      · have := ihr h3 (show 1 ≤ n / 2 by omega) hx
        have e : 2 * (n / 2) + 1 = n := by omega
        rw [e] at this; exact this
theorem allN {α : Type} {p : α → Prop} : ∀ x, (none : Option α) = some x → p x := by intro x h; cases h
theorem allS {α : Type} {p : α → Prop} {y : α} (h : p y) : ∀ x, some y = some x → p x := by intro x e; injection e with e; subst e; exact h
def tyOf (t : Tree TyA) : TyT := fun n => t.get (Nat.succ n)
theorem tOk_of {P : Program} {t : Tree TyA} (h : t.AllP fun m i => TyOk P (m - 1) i) : TOk P (tyOf t) := fun n i hi => by
  have := h.get (by omega) (show t.get (Nat.succ n) = some i from hi)
  simpa using this
theorem fOk_of {P : Program} {T : TyT} {t : Tree AFunc} (h : t.AllP fun m fn => ∃ func code hint, FnOk P T (m - 1) fn func code hint) : FOk P T t := fun n i hi => by
  have := h.get (by omega) hi
  simpa using this
theorem xOk_of {P : Program} {t : Tree CallY} (h : t.AllP fun m g => ∀ call, CallOk P call → XOk1 P (m - 1) (g call)) : XOk P t := fun n i hi => by
  have := h.get (by omega) hi
  simpa using this
def bodyOf (f : Func) : Code := f.body.getD .skip
def hintL (l : List (Nat × List (Nat × Nat))) : Nat → List (Nat × Nat) := match l with
  | [] => fun _ => []
  | x :: l => fun i => match Nat.beq x.1 i with | true => x.2 | false => hintL l i
end
end Go.Sy

