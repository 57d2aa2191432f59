/- The symbolic executor: parts J, K, L, M, N. Sound by one theorem (callA_ok). No condition. -/
import Derived.Test.YtnfoaablgldjcaaGreatSy1
import Derived.ChangeKeysEq
import Derived.DeepKeys3
import Derived.MapKept
set_option linter.unusedVariables false
set_option linter.unusedSimpArgs false
set_option linter.unusedSectionVars false
/-! The symbolic executor, part J: keys of maps, and equality of rows of integers. -/
namespace Go.Sy
set_option linter.unusedVariables false
set_option linter.unusedSectionVars false
noncomputable section

def IntsV (k : IntKind) (vs : List Value) : Prop := ∀ v ∈ vs, ∃ n, v = .int k n
def v1 (x : KT1) (vs : List Value) : Value := match x with | .int _ => vs.headD undef | .arr _ _ _ => .agg vs.toArray
def Sh1 (x : KT1) (vs : List Value) : Prop := vs.length = kt1Size x ∧ IntsV (kt1Kind x) vs
structure K1Ok (P : Program) (t : TypeId) (x : KT1) : Prop where
  und : match x with | .int k => P.underlying t = some (.int k) | .arr n e k => P.underlying t = some (.array n e) ∧ P.underlying e = some (.int k) ∧ ∃ i, P.info? e = some i ∧ i.size = 1
  info : ∃ i, P.info? t = some i ∧ i.size = kt1Size x

theorem range_each (n : Nat) : List.range' 0 n = List.range n := List.range_eq_range'.symm

section
variable {P : Program} {t : TypeId} {x : KT1} (h : K1Ok P t x) (w : World)
include h
theorem check1 {vs : List Value} (hs : Sh1 x vs) (em : Bool) (n : Nat) : (Instr.checkKey em (n + 2) t (v1 x vs)).run P w = .ok () w := by
  obtain ⟨hl, hi⟩ := hs
  cases x with
  | int k =>
    match vs, hl with
    | [v], _ =>
      obtain ⟨m, rfl⟩ := hi v (by simp)
      have hu : P.underlying t = some (.int k) := h.und
      simp [v1, Instr.checkKey, run_underlying hu]
  | arr m e k =>
    obtain ⟨hu, hue, i, hie, hz⟩ := h.und
    simp only [v1]
    rw [Instr.checkKey]
    simp only [Sem.run_bind, run_underlying hu, Result.andThen_ok]
    simp only [Std.Legacy.Range.forIn_eq_forIn_range', Std.Legacy.Range.size, Nat.sub_zero, Nat.add_one_sub_one, Nat.div_one]
    have hi : IntsV k vs := hi
    have hc : P.cellsOf e = 1 := by simp [Program.cellsOf, hie, hz]
    have each : ∀ j ∈ List.range' 0 m, ∃ q, vs.toArray[j]? = some (.int k q) := by
      intro j hj
      simp only [List.mem_range'_1] at hj
      have hlen : vs.length = m := hl
      have hj2 : j < vs.length := by omega
      obtain ⟨q, hq⟩ := hi vs[j] (List.getElem_mem hj2)
      exact ⟨q, by simp [List.getElem?_eq_getElem hj2, hq]⟩
    clear hl
    generalize List.range' 0 m = is at each
    induction is with
    | nil => simp
    | cons j is ih =>
      obtain ⟨q, hq⟩ := each j (by simp)
      have hp : (part e vs.toArray j).run P w = .ok (.int k q) w := by
        simp [part, isAgg, run_underlying hue, hq]
      have hck : (Instr.checkKey em (n + 1) e (.int k q)).run P w = .ok () w := by simp [Instr.checkKey, run_underlying hue]
      simp only [List.forIn_cons, Sem.run_bind, run_sizeOf w hie, hc, Nat.mul_one, Result.andThen_ok, hp, hck, Sem.run_pure]
      exact ih (fun y hy => each y (by simp [hy]))

theorem part1 {cs : List Value} {off : Nat} (hs : Sh1 x ((cs.drop off).take (kt1Size x))) : (part t cs.toArray off).run P w = .ok (v1 x ((cs.drop off).take (kt1Size x))) w := by
  obtain ⟨hl, hi⟩ := hs
  cases x with
  | int k =>
    have hu : P.underlying t = some (.int k) := h.und
    simp only [kt1Size] at hl hi ⊢
    cases hd : cs.drop off with
    | nil => rw [hd] at hl; simp at hl
    | cons v r =>
      have e : cs[off]? = some v := by
        have := congrArg (fun l => l[0]?) hd
        simpa [List.getElem?_drop] using this
      simp [part, isAgg, run_underlying hu, e, v1]
  | arr m e k =>
    obtain ⟨hu, hue, _⟩ := h.und
    obtain ⟨i, hi1, hi2⟩ := h.info
    have hc : P.cellsOf t = kt1Size (.arr m e k) := by simp [Program.cellsOf, hi1, hi2]
    simp [part, isAgg, run_underlying hu, run_sizeOf w hi1, hc, v1, List.extract_eq_take_drop]

theorem eq1 {vs us : List Value} (hv : Sh1 x vs) (hu' : Sh1 x us) (d : Nat) : ∃ r, (Op.equalIn (d + 2) t (v1 x vs) (v1 x us)).run P w = .ok r w ∧ (r = true ↔ vs = us) := by
  obtain ⟨hl, hi⟩ := hv
  obtain ⟨hl', hi'⟩ := hu'
  cases x with
  | int k =>
    match vs, us, hl, hl' with
    | [v], [u], _, _ =>
      obtain ⟨a, rfl⟩ := hi v (by simp)
      obtain ⟨b, rfl⟩ := hi' u (by simp)
      have hu : P.underlying t = some (.int k) := h.und
      refine ⟨a == b, ?_, by simp⟩
      exact run_equalIn_int w (d + 1) t k k a b hu
  | arr m e k =>
    obtain ⟨hu, hue, i, hie, hz⟩ := h.und
    simp only [v1, kt1Size] at hl hl' ⊢
    have hc : P.cellsOf e = 1 := by simp [Program.cellsOf, hie, hz]
    have hi : IntsV k vs := hi
    have hi' : IntsV k us := hi'
    have key : ∀ is : List Nat, (∀ j ∈ is, j < m) → ∃ r, (Op.eqItems (d + 1) e (P.cellsOf e) vs.toArray us.toArray is).run P w = .ok r w ∧ (r = true ↔ ∀ j ∈ is, vs[j]? = us[j]?) := by
      intro is
      induction is with
      | nil => intro _; exact ⟨true, by simp [Op.eqItems], by simp⟩
      | cons j is ih =>
        intro hm
        obtain ⟨r, hr, hiff⟩ := ih (fun y hy => hm y (by simp [hy]))
        have hj := hm j (by simp)
        have j1 : j < vs.length := by omega
        have j2 : j < us.length := by omega
        obtain ⟨p, hp⟩ := hi vs[j] (List.getElem_mem j1)
        obtain ⟨q, hq⟩ := hi' us[j] (List.getElem_mem j2)
        have p1 : (part e vs.toArray j).run P w = .ok (.int k p) w := by simp [part, isAgg, run_underlying hue, List.getElem?_eq_getElem j1, hp]
        have p2 : (part e us.toArray j).run P w = .ok (.int k q) w := by simp [part, isAgg, run_underlying hue, List.getElem?_eq_getElem j2, hq]
        have p3 := run_equalIn_int w d e k k p q hue
        simp only [Op.eqItems, hc, Nat.mul_one, Sem.run_bind, p1, p2, p3, Result.andThen_ok]
        rw [hc] at hr
        by_cases hpq : p = q
        · subst hpq
          refine ⟨r, by simpa using hr, ?_⟩
          rw [hiff]
          simp [List.getElem?_eq_getElem j1, List.getElem?_eq_getElem j2, hp, hq]
        · refine ⟨false, by simp [hpq], ?_⟩
          simp only [Bool.false_eq_true, false_iff]
          intro hh
          have := hh j (by simp)
          rw [List.getElem?_eq_getElem j1, List.getElem?_eq_getElem j2, hp, hq] at this
          simp at this
          exact hpq this
    obtain ⟨r, hr, hiff⟩ := key (List.range m) (fun j hj => List.mem_range.1 hj)
    refine ⟨r, ?_, ?_⟩
    · rw [show d + 2 = (d + 1) + 1 from rfl, run_equalIn_array w (d + 1) vs.toArray us.toArray hu hie]; exact hr
    · rw [hiff]
      constructor
      · intro hh
        apply List.ext_getElem?
        intro j
        by_cases hj : j < m
        · exact hh j (List.mem_range.2 hj)
        · rw [List.getElem?_eq_none (by omega), List.getElem?_eq_none (by omega)]
      · rintro rfl j _; rfl
end

/-! structs of these -/
def FsOk (P : Program) : List Field → List (Nat × TypeId × KT1) → Prop
  | [], [] => True
  | f :: fl, g :: gl => f.offset = g.1 ∧ f.type = g.2.1 ∧ f.name ≠ "_" ∧ K1Ok P g.2.1 g.2.2 ∧ FsOk P fl gl
  | _, _ => False
def ShS : List (Nat × TypeId × KT1) → List Value → Nat → Prop
  | [], cs, cur => cs.drop cur = []
  | g :: gl, cs, cur => g.1 = cur ∧ Sh1 g.2.2 ((cs.drop cur).take (kt1Size g.2.2)) ∧ ShS gl cs (cur + kt1Size g.2.2)
def KOk (P : Program) (t : TypeId) : KT → Prop
  | .one x => K1Ok P t x
  | .str fs => ∃ fields, P.underlying t = some (.struct fields) ∧ FsOk P fields.toList fs ∧ P.stoodInHeld t = false
def ShK (kt : KT) (v : Value) : Prop := match kt with
  | .one x => ∃ vs, v = v1 x vs ∧ Sh1 x vs
  | .str fs => ∃ vs : List Value, v = .agg vs.toArray ∧ ShS fs vs 0

section
variable {P : Program} {t : TypeId} (w : World)
theorem checkS (em : Bool) (n : Nat) : ∀ {fl : List Field} {gl : List (Nat × TypeId × KT1)} {cs : List Value} {cur : Nat}, FsOk P fl gl → ShS gl cs cur →
    (forIn fl PUnit.unit (fun f (_ : PUnit) => do
      if f.name ≠ "_" then do
        Instr.checkKey em (n + 2) f.type (← part f.type cs.toArray f.offset)
        pure (ForInStep.yield PUnit.unit)
      else pure (ForInStep.yield PUnit.unit)) : Sem PUnit).run P w = .ok () w := by
  intro fl
  induction fl with
  | nil => intro gl cs cur h1 h2; simp
  | cons f fl ih =>
    intro gl cs cur h1 h2
    cases gl with
    | nil => exact h1.elim
    | cons g gl =>
      obtain ⟨a1, a2, a3, a4, a5⟩ := h1
      obtain ⟨b1, b2, b3⟩ := h2
      rw [← b1] at b2
      have hp := part1 a4 w b2
      have hck := check1 a4 w b2 em n
      rw [← a2, ← a1] at hp
      rw [← a2] at hck
      rw [← a1] at hck
      have := ih a5 b3
      simp only [List.forIn_cons, ne_eq, a3, not_false_eq_true, if_true, Sem.run_bind, hp, Result.andThen_ok, hck, Sem.run_pure]
      exact this

theorem checkK {kt : KT} (h : KOk P t kt) {v : Value} (hs : ShK kt v) (em : Bool) (n : Nat) : (Instr.checkKey em (n + 3) t v).run P w = .ok () w := by
  cases kt with
  | one x => obtain ⟨vs, rfl, hv⟩ := hs; exact check1 h w hv em (n + 1)
  | str fs =>
    obtain ⟨vs, rfl, hv⟩ := hs
    obtain ⟨fields, hu, hf, hst⟩ := h
    rw [Instr.checkKey]
    simp only [Sem.run_bind, run_underlying hu, Result.andThen_ok]
    rw [← Array.forIn_toList]
    have := checkS w em n hf hv
    simp at this
    simp [this]

theorem eqS (d : Nat) : ∀ {fl : List Field} {gl : List (Nat × TypeId × KT1)} {cs ds : List Value} {cur : Nat}, FsOk P fl gl → ShS gl cs cur → ShS gl ds cur →
    ∃ r, (Op.eqFields (d + 2) cs.toArray ds.toArray fl).run P w = .ok r w ∧ (r = true ↔ cs.drop cur = ds.drop cur) := by
  intro fl
  induction fl with
  | nil =>
    intro gl cs ds cur h1 h2 h3
    cases gl with
    | nil => simp only [ShS] at h2 h3; exact ⟨true, by simp [Op.eqFields], by simp [h2, h3]⟩
    | cons g gl => exact h1.elim
  | cons f fl ih =>
    intro gl cs ds cur h1 h2 h3
    cases gl with
    | nil => exact h1.elim
    | cons g gl =>
      obtain ⟨a1, a2, a3, a4, a5⟩ := h1
      obtain ⟨b1, b2, b3⟩ := h2
      obtain ⟨c1, c2, c3⟩ := h3
      obtain ⟨r, hr, hiff⟩ := ih a5 b3 c3
      have e : f.offset = cur := a1.trans b1
      have p1 := part1 a4 w b2
      have p2 := part1 a4 w c2
      obtain ⟨q, hq, hqi⟩ := eq1 a4 w b2 c2 d
      have split : ∀ l : List Value, l.drop cur = (l.drop cur).take (kt1Size g.2.2) ++ l.drop (cur + kt1Size g.2.2) := by
        intro l
        rw [← List.drop_drop, List.take_append_drop]
      rw [← a2] at p1 p2 hq
      simp only [Op.eqFields, ne_eq, a3, not_false_eq_true, if_true, Sem.run_bind, e, p1, p2, hq, Result.andThen_ok]
      have hlen : ((cs.drop cur).take (kt1Size g.2.2)).length = ((ds.drop cur).take (kt1Size g.2.2)).length := by rw [b2.1, c2.1]
      cases q with
      | true =>
        refine ⟨r, by simpa using hr, ?_⟩
        rw [hiff, split cs, split ds, hqi.1 rfl]
        simp
      | false =>
        refine ⟨false, by simp, ?_⟩
        rw [split cs, split ds]
        simp only [Bool.false_eq_true, false_iff]
        intro hh
        have := (List.append_inj hh hlen).1
        exact absurd (hqi.2 this) (by simp)

theorem eqK {kt : KT} (h : KOk P t kt) {v u : Value} (hv : ShK kt v) (hu : ShK kt u) (d : Nat) : ∃ r, (Op.equalIn (d + 3) t v u).run P w = .ok r w ∧ (r = true ↔ v = u) := by
  cases kt with
  | one x =>
    obtain ⟨vs, rfl, hv⟩ := hv
    obtain ⟨us, rfl, hu⟩ := hu
    obtain ⟨r, hr, hi⟩ := eq1 h w hv hu (d + 1)
    refine ⟨r, hr, ?_⟩
    rw [hi]
    constructor
    · rintro rfl; rfl
    · intro e
      cases x with
      | int k =>
        obtain ⟨h1, _⟩ := hv; obtain ⟨h2, _⟩ := hu
        match vs, us, h1, h2, e with
        | [a], [b], _, _, e => simpa [v1] using e
      | arr m e' k => simpa [v1] using e
  | str fs =>
    obtain ⟨vs, rfl, hv⟩ := hv
    obtain ⟨us, rfl, hu⟩ := hu
    obtain ⟨fields, hun, hf, hst⟩ := h
    have hfo : P.underlying t = some (.struct (P.fieldsOf t)) := by simp [Program.fieldsOf, hun]
    have hfe : P.fieldsOf t = fields := by simp [Program.fieldsOf, hun]
    obtain ⟨r, hr, hi⟩ := eqS w d hf hv hu
    refine ⟨r, ?_, ?_⟩
    · rw [run_equalIn_struct w (d + 2) t _ _ hfo hst, hfe]; exact hr
    · rw [hi]; simp
end

/-! the executor's rows -/
theorem allInt_spec {k : IntKind} {c : Cx} : ∀ {l : List AS}, allInt k l = true → IntsV k (l.map (AS.conc c)) := by
  intro l
  induction l with
  | nil => intro _ v hv; simp at hv
  | cons x l ih =>
    intro h v hv
    rw [allInt_cons] at h
    cases x <;> simp only at h <;> try (cases h; done)
    rename_i k' q
    cases hk : kindEq k k' with
    | false => rw [hk] at h; cases h
    | true =>
      rw [hk] at h
      simp only [List.map_cons, List.mem_cons] at hv
      rcases hv with rfl | hv
      · exact ⟨_, by rw [kindEq_eq hk]; rfl⟩
      · exact ih h v hv
theorem shape1_spec {x : KT1} {l : List AS} (h : shape1 x l = true) (c : Cx) : Sh1 x (l.map (AS.conc c)) := by
  obtain ⟨h1, h2⟩ := and2_iff.1 h
  have h1 := (natBeq_iff _ _).1 h1
  rw [llen_eq] at h1
  exact ⟨by simpa using h1, allInt_spec h2⟩
theorem shapeS_spec (c : Cx) : ∀ {fs : List (Nat × TypeId × KT1)} {l all : List AS} {cur : Nat}, all.drop cur = l → shapeS fs l cur = true → ShS fs (all.map (AS.conc c)) cur := by
  intro fs
  induction fs with
  | nil =>
    intro l all cur hd h
    rw [shapeS_nil] at h
    cases l with
    | nil => simp only [ShS, ← List.map_drop, hd]; rfl
    | cons => cases h
  | cons g fs ih =>
    intro l all cur hd h
    rw [shapeS_cons] at h
    obtain ⟨h1, h3⟩ := and2_iff.1 h
    obtain ⟨h1, h2⟩ := and2_iff.1 h1
    rw [ltake_eq] at h2
    rw [ldrop_eq] at h3
    refine ⟨(natBeq_iff _ _).1 h1, ?_, ih (by rw [← hd, List.drop_drop]) h3⟩
    have := shape1_spec h2 c
    rw [← List.map_drop, hd, ← List.map_take]
    exact this
theorem shapeK_spec {kt : KT} {x : AW} (h : shapeK kt x = true) (c : Cx) : ShK kt (x.conc c) := by
  cases kt with
  | one y =>
    cases y with
    | int k =>
      cases x with
      | agg l => simp [shapeK] at h
      | s a =>
        cases a <;> simp only [shapeK] at h <;> try (cases h; done)
        rename_i k' q
        refine ⟨[.int k (q.eval c.σ)], ?_, rfl, ?_⟩
        · simp [AW.conc, AS.conc, v1, kindEq_eq h]
        · intro v hv; simp at hv; exact ⟨_, hv⟩
    | arr n e k =>
      cases x with
      | s a => simp [shapeK] at h
      | agg l => exact ⟨l.map (AS.conc c), rfl, shape1_spec h c⟩
  | str fs =>
    cases x with
    | s a => simp [shapeK] at h
    | agg l => exact ⟨l.map (AS.conc c), rfl, shapeS_spec c rfl h⟩

theorem eqStep_some {d : Option Bool} {r : Option (Option Bool)} {b : Option Bool} (h : eqStep d r = some b) : ∃ q, r = some q ∧
    (b = some true → d = some true ∧ q = some true) ∧ (b = some false → d = some false ∨ q = some false) := by
  cases d with
  | none =>
    cases r with
    | none => simp [eqStep] at h
    | some q => cases q with
      | none => simp [eqStep] at h; subst h; exact ⟨none, rfl, by simp, by simp⟩
      | some q => cases q <;> simp [eqStep] at h <;> subst h <;> exact ⟨_, rfl, by simp, by simp⟩
  | some d =>
    cases d with
    | true => simp only [eqStep] at h; subst h; exact ⟨b, rfl, by simp, by simp⟩
    | false =>
      cases r with
      | none => simp [eqStep] at h
      | some q => simp [eqStep] at h; subst h; exact ⟨q, rfl, by simp, by simp⟩
/-- rows that are compared are of one shape, and equal if it is said -/
theorem eqL_spec {c : Cx} {φ : Phi} (hs : Sat c.σ φ) : ∀ {l m : List AS} {r : Option Bool}, eqL φ l m = some r →
    l.length = m.length ∧ (∀ k, IntsV k (l.map (AS.conc c)) → IntsV k (m.map (AS.conc c))) ∧ (∀ b, r = some b → (l.map (AS.conc c) = m.map (AS.conc c) ↔ b = true)) ∧
    (∀ i : Nat, (l[i]?.map (fun x => match x with | AS.int k _ => some k | _ => none)) = (m[i]?.map (fun x => match x with | AS.int k _ => some k | _ => none))) := by
  intro l
  induction l with
  | nil =>
    intro m r h
    cases m with
    | nil => simp [eqL_nil] at h; subst h; refine ⟨rfl, fun k h => h, ?_, fun i => rfl⟩; intro b hb; simp at hb; simp [hb]
    | cons => simp [eqL_nil] at h
  | cons x l ih =>
    intro m r h
    cases m with
    | nil => simp [eqL_cons] at h
    | cons y m =>
      rw [eqL_cons] at h
      cases x <;> simp only at h <;> try (cases h; done)
      rename_i k a
      cases y <;> simp only at h <;> try (cases h; done)
      rename_i k' b
      obtain ⟨hk, h0⟩ := ckB_some h
      clear h
      have hk := kindEq_eq hk
      subst hk
      obtain ⟨q, hq, ht, hf⟩ := eqStep_some h0
      obtain ⟨i1, i2, i3, i4⟩ := ih hq
      refine ⟨by simp [i1], ?_, ?_, ?_⟩
      · intro k2 hh v hv
        simp only [List.map_cons, List.mem_cons] at hv
        rcases hv with rfl | hv
        · obtain ⟨n, hn⟩ := hh ((AS.int k a).conc c) (by simp)
          simp only [AS.conc] at hn ⊢
          injection hn with e1 e2
          exact ⟨_, by rw [e1]⟩
        · exact i2 k2 (fun u hu => hh u (by simp [hu])) v hv
      · intro bb hb
        subst hb
        cases bb with
        | true =>
          obtain ⟨h1, h2⟩ := ht rfl
          have := dec_spec hs h1
          simp only [Cond.eval, decide_eq_true_eq] at this
          simp only [List.map_cons, AS.conc, this, (i3 true h2).2 rfl]
        | false =>
          simp only [List.map_cons, AS.conc, List.cons.injEq, Value.int.injEq, true_and, Bool.false_eq_true, iff_false, not_and]
          intro e
          rcases hf rfl with h1 | h2
          · have := dec_spec hs h1
            simp only [Cond.eval, decide_eq_false_iff_not] at this
            exact absurd e this
          · intro e2; exact absurd ((i3 false h2).1 e2) (by simp)
      · intro i
        cases i with
        | zero => rfl
        | succ i => simpa using i4 i
theorem allInt_of {k : IntKind} : ∀ {l m : List AS}, allInt k l = true → l.length = m.length → (∀ i : Nat, (l[i]?.map (fun x => match x with | AS.int k _ => some k | _ => none)) = (m[i]?.map (fun x => match x with | AS.int k _ => some k | _ => none))) → allInt k m = true := by
  intro l
  induction l with
  | nil => intro m h hl hi; cases m with | nil => rfl | cons => simp at hl
  | cons x l ih =>
    intro m h hl hi
    cases m with
    | nil => simp at hl
    | cons y m =>
      rw [allInt_cons] at h ⊢
      have h0 := hi 0
      have hr := ih (m := m) (by cases x <;> simp only at h <;> first | (cases h; done) | (split at h <;> first | exact h | (cases h; done))) (by simpa using hl) (fun i => by simpa using hi (i + 1))
      cases x <;> simp only at h <;> try (cases h; done)
      cases y <;> simp at h0
      subst h0
      simp only [hr]
      split at h
      · rfl
      · cases h

def kindOf (x : AS) : Option IntKind := match x with | AS.int k _ => some k | _ => none
/-- rows of one shape -/
def Same (l m : List AS) : Prop := l.length = m.length ∧ ∀ i : Nat, l[i]?.map kindOf = m[i]?.map kindOf
theorem Same.take {l m : List AS} (h : Same l m) (n : Nat) : Same (l.take n) (m.take n) := by
  refine ⟨by simp [h.1], fun i => ?_⟩
  simp only [List.getElem?_take]
  split
  · exact h.2 i
  · rfl
theorem Same.drop {l m : List AS} (h : Same l m) (n : Nat) : Same (l.drop n) (m.drop n) := by
  refine ⟨by simp [h.1], fun i => ?_⟩
  simp only [List.getElem?_drop]
  exact h.2 (n + i)
theorem Same.allInt {k : IntKind} {l m : List AS} (h : Same l m) (ha : allInt k l = true) : Sy.allInt k m = true := allInt_of ha h.1 h.2
theorem Same.shape1 {x : KT1} {l m : List AS} (h : Same l m) (ha : Sy.shape1 x l = true) : Sy.shape1 x m = true := by
  obtain ⟨h1, h2⟩ := and2_iff.1 ha
  refine and2_iff.2 ⟨?_, h.allInt h2⟩
  rw [llen_eq] at h1 ⊢
  rw [← h.1]; exact h1
theorem Same.shapeS : ∀ {fs : List (Nat × TypeId × KT1)} {l m : List AS} {cur : Nat}, Same l m → shapeS fs l cur = true → Sy.shapeS fs m cur = true := by
  intro fs
  induction fs with
  | nil =>
    intro l m cur h hs
    rw [shapeS_nil] at hs ⊢
    cases l with
    | nil => cases m with
      | nil => rfl
      | cons => have := h.1; simp at this
    | cons => cases hs
  | cons g fs ih =>
    intro l m cur h hs
    rw [shapeS_cons] at hs ⊢
    obtain ⟨h1, h3⟩ := and2_iff.1 hs
    obtain ⟨h1, h2⟩ := and2_iff.1 h1
    rw [ltake_eq] at h2; rw [ldrop_eq] at h3
    refine and2_iff.2 ⟨and2_iff.2 ⟨h1, ?_⟩, ?_⟩
    · rw [ltake_eq]; exact (h.take _).shape1 h2
    · rw [ldrop_eq]; exact ih (h.drop _) h3
/-- keys that are compared: of one shape, and equal just if it is said -/
theorem eqW_spec {c : Cx} {φ : Phi} (hs : Sat c.σ φ) {kt : KT} {x y : AW} {b : Bool} (hx : shapeK kt x = true) (h : eqW φ x y = some b) :
    shapeK kt y = true ∧ (x.conc c = y.conc c ↔ b = true) := by
  unfold eqW at h
  obtain ⟨h1, h2⟩ := ckB_some h
  obtain ⟨r, h3, h4⟩ := optP_some h2
  have h1 := boolEq_eq h1
  have hh := eqL_spec hs h3
  have hsame : Same (cellsW x) (cellsW y) := ⟨hh.1, hh.2.2.2⟩
  have heq := hh.2.2.1 b h4
  cases x with
  | s a =>
    cases y with
    | agg m => cases h1
    | s a' =>
      refine ⟨?_, ?_⟩
      · cases kt with
        | str fs => simp [shapeK] at hx
        | one z =>
          cases z with
          | arr => simp [shapeK] at hx
          | int k =>
            have h0 := hsame.2 0
            cases a <;> simp only [shapeK] at hx <;> try (cases hx; done)
            cases a' <;> simp [cellsW, kindOf] at h0
            subst h0
            exact hx
      · show a.conc c = a'.conc c ↔ b = true
        simpa [cellsW] using heq
  | agg l =>
    cases y with
    | s a => cases h1
    | agg m =>
      refine ⟨?_, ?_⟩
      · cases kt with
        | str fs => exact hsame.shapeS hx
        | one z =>
          cases z with
          | int k => simp [shapeK] at hx
          | arr n e k => exact hsame.shape1 hx
      · simpa [AW.conc, cellsW] using heq

/-- an entry that is found is found in the world -/
theorem findE_spec {P : Program} {t : TypeId} {c : Cx} {φ : Phi} (hs : Sat c.σ φ) {kt : KT} (hk : KOk P t kt) {x : AW} (hx : shapeK kt x = true) (w : World) :
    ∀ {es : List AEnt} {i : Nat} {r : Option (Nat × AEnt)}, findE φ x es i = some r →
      (Instr.findAsking t (x.conc c) (es.map (AEnt.conc c)) i).run P w = .ok (r.map fun p => (p.1, p.2.val.conc c)) w ∧
      (∀ j e, r = some (j, e) → i ≤ j ∧ es[j - i]? = some e ∧ e.key.conc c = x.conc c) := by
  intro es
  induction es with
  | nil => intro i r h; rw [findE_nil] at h; injection h with h; subst h; exact ⟨by simp [Instr.findAsking], by simp⟩
  | cons e es ih =>
    intro i r h
    rw [findE_cons] at h
    obtain ⟨b, hb, h⟩ := optP_some h
    obtain ⟨h1, h2⟩ := eqW_spec hs hx hb
    obtain ⟨q, hq, hqi⟩ := eqK (P := P) w hk (shapeK_spec hx c) (shapeK_spec h1 c) 9997
    have hq : (Op.equal t (x.conc c) (e.key.conc c)).run P w = .ok q w := hq
    cases b with
    | true =>
      simp only at h
      injection h with h; subst h
      have e1 : q = true := hqi.2 (h2.2 rfl)
      subst e1
      refine ⟨?_, ?_⟩
      · simp [Instr.findAsking, AEnt.conc, hq]
      · intro j e' he
        simp at he
        obtain ⟨rfl, rfl⟩ := he
        exact ⟨Nat.le_refl _, by simp, (h2.2 rfl).symm⟩
    | false =>
      simp only at h
      have e1 : q = false := by
        cases q with
        | false => rfl
        | true => exact absurd (h2.1 (hqi.1 rfl)) (by simp)
      subst e1
      obtain ⟨g1, g2⟩ := ih h
      refine ⟨?_, ?_⟩
      · simp [Instr.findAsking, AEnt.conc, hq]; exact g1
      · intro j e' he
        obtain ⟨a1, a2, a3⟩ := g2 j e' he
        refine ⟨by omega, ?_, a3⟩
        have : j - i = (j - (i + 1)) + 1 := by omega
        rw [this]; simpa using a2

theorem findNow_int {c : Cx} {φ : Phi} (hs : Sat c.σ φ) {k : IntKind} {x : AW} (hx : shapeK (.one (.int k)) x = true) :
    ∀ {es : List AEnt} {i : Nat} {r : Option (Nat × AEnt)}, findE φ x es i = some r →
      Instr.findNow (.int k) (x.conc c) (es.map (AEnt.conc c)) i = some (r.map fun p => (p.1, p.2.val.conc c)) := by
  intro es
  induction es with
  | nil => intro i r h; rw [findE_nil] at h; injection h with h; subst h; rfl
  | cons e es ih =>
    intro i r h
    rw [findE_cons] at h
    obtain ⟨b, hb, h⟩ := optP_some h
    obtain ⟨h1, h2⟩ := eqW_spec hs hx hb
    have form : ∀ {y : AW}, shapeK (.one (.int k)) y = true → ∃ n, y.conc c = .int k n := by
      intro y hy
      obtain ⟨vs, hv, hl, hi⟩ := shapeK_spec hy c
      match vs, hl with
      | [v], _ => obtain ⟨n, rfl⟩ := hi v (by simp); exact ⟨n, hv⟩
    obtain ⟨n, hn⟩ := form hx
    obtain ⟨m, hm⟩ := form h1
    rw [hn, hm] at h2
    simp only [Value.int.injEq, true_and] at h2
    simp only [List.map_cons, Instr.findNow, AEnt.conc, hn, hm, Instr.sameNow, if_true]
    cases b with
    | true =>
      simp only at h
      injection h with h; subst h
      have e1 : (n == m) = true := by simpa using h2.2 rfl
      simp [e1]
    | false =>
      simp only at h
      have e1 : (n == m) = false := by
        cases hh : (n == m) with
        | false => rfl
        | true => exact absurd (h2.1 (by simpa using hh)) (by simp)
      rw [hn] at ih
      simp only [e1]
      exact ih h
/-- the way in which a key is looked for -/
theorem findKey_spec {P : Program} {t : TypeId} {c : Cx} {φ : Phi} (hs : Sat c.σ φ) {kt : KT} (hk : KOk P t kt) {x : AW} (hx : shapeK kt x = true) (w : World)
    {es : List AEnt} {r : Option (Nat × AEnt)} (h : findE φ x es 0 = some r) :
    (Instr.findKey t (x.conc c) (es.map (AEnt.conc c))).run P w = .ok (r.map fun p => (p.1, p.2.val.conc c)) w ∧
      (∀ j e, r = some (j, e) → es[j]? = some e ∧ e.key.conc c = x.conc c) := by
  obtain ⟨h1, h2⟩ := findE_spec (P := P) hs hk hx w h
  refine ⟨?_, fun j e he => by have := h2 j e he; exact ⟨by simpa using this.2.1, this.2.2⟩⟩
  have other : ∀ d, P.underlying t = some d → (Instr.findNow d (x.conc c) (es.map (AEnt.conc c)) 0 = none ∨ Instr.findNow d (x.conc c) (es.map (AEnt.conc c)) 0 = some (r.map fun p => (p.1, p.2.val.conc c))) →
      (Instr.findKey t (x.conc c) (es.map (AEnt.conc c))).run P w = .ok (r.map fun p => (p.1, p.2.val.conc c)) w := by
    intro d hd hh
    simp only [Instr.findKey, Sem.run_bind, run_underlying hd, Result.andThen_ok]
    rcases hh with hh | hh
    · rw [hh]; exact h1
    · rw [hh]; rfl
  have aggCase : ∀ d, P.underlying t = some d → (∀ b, Instr.sameNow d (x.conc c) b = none) → (Instr.findKey t (x.conc c) (es.map (AEnt.conc c))).run P w = .ok (r.map fun p => (p.1, p.2.val.conc c)) w := by
    intro d hd hn
    refine other d hd ?_
    cases es with
    | nil => rw [findE_nil] at h; injection h with h; subst h; exact .inr rfl
    | cons e es => left; simp [Instr.findNow, hn]
  cases kt with
  | str fs =>
    obtain ⟨fields, hu, _⟩ := hk
    refine aggCase _ hu (fun b => ?_)
    obtain ⟨vs, hv, _⟩ := shapeK_spec hx c
    rw [hv]; simp [Instr.sameNow]
  | one z =>
    cases z with
    | int k => exact other _ hk.und (.inr (findNow_int hs hx h))
    | arr n e k =>
      obtain ⟨hu, _⟩ := hk.und
      refine aggCase _ hu (fun b => ?_)
      obtain ⟨vs, hv, _⟩ := shapeK_spec hx c
      rw [hv]; simp [Instr.sameNow, v1]
end
end Go.Sy

/-! The symbolic executor, part K: operations that read memory, and those that make a block. -/
namespace Go.Sy
set_option linter.unusedVariables false
set_option linter.unusedSectionVars false
noncomputable section

/-! turning them -/
def compK1 (T : TyT) (t : TypeId) : Option KT1 := match T t with
  | none => none
  | some i => (match i.desc with
    | .int k => (match Nat.beq i.size 1 with | true => some (.int k) | false => none)
    | .array n e => (match T e with
      | none => none
      | some ie => (match ie.desc with
        | .int k => (match Nat.beq ie.size 1, Nat.beq i.size n with | true, true => some (.arr n e k) | _, _ => none)
        | _ => none))
    | _ => none)
def compFs (T : TyT) : List Field → Option (List (Nat × TypeId × KT1))
  | [] => some []
  | f :: fl => match f.name == "_" with
    | true => none
    | false => (match compK1 T f.type with | none => none | some k => (match compFs T fl with | none => none | some r => some ((f.offset, f.type, k) :: r)))
def compKT (T : TyT) (t : TypeId) : Option KT := match T t with
  | none => none
  | some i => (match i.desc with
    | .struct fs => (match i.plain with | true => (compFs T fs.toList).map .str | false => none)
    | _ => (compK1 T t).map .one)
def compR (T : TyT) (o : Op) : Option ROp := match o with
  | .load t a => (match T t with | none => none | some i => (match embO a with | none => none | some x => some (.load (aggSize i) x)))
  | .lookup t x k ok => (match T t with
    | none => none
    | some i => (match i.desc with
      | .map kt et => (match T et, compKT T kt, embO x, embO k with | some ie, some q, some x, some k => some (.lookup q ie.zero x k ok) | _, _, _, _ => none)
      | _ => none))
  | .convert src dst x => (match T src, T dst with
    | some i, some d => (match i.desc, d.desc with
      | .slice e, .string => (match T e with | some ie => (match ie.desc with | .int .u8 => (embO x).map .cstr | _ => none) | none => none)
      | _, _ => none)
    | _, _ => none)
  | .call c => (match c.callee with
    | .builtin .len => (match c.args.toList, c.argTypes.toList with
      | [x], [t] => (match T t with | some i => (match i.desc with | .map _ _ => (embO x).map .mlen | _ => none) | none => none)
      | _, _ => none)
    | _ => none)
  | _ => none
def compM (T : TyT) (o : Op) : Option MOp := match o with
  | .alloc e => (match T e with | none => none | some i => some (.alloc e (cellsW i.zero)))
  | .box e x => (match embO x with | none => none | some x => some (.box e x))
  | .buildSlice t n ps => (match T t with
    | none => none
    | some i => (match i.desc with
      | .slice e => (match T e with
        | none => none
        | some ie => (match Nat.ble (n * ie.size) 16777216, compParts (fun i => some (i * ie.size, ie.size)) ps.toList with
          | true, some ps => some (.bslice e n (cellsW ie.zero) ps)
          | _, _ => none))
      | _ => none))
  | .makeMap _ none => some .mkmap
  | .makeSlice t n c => (match T t with
    | none => none
    | some i => (match i.desc with
      | .slice e => (match T e, embO n, embO c with | some ie, some n, some c => some (.mkslice e ie.bytes (cellsW ie.zero) n c) | _, _, _ => none)
      | _ => none))
  | _ => none

section
variable {P : Program} {T : TyT}
theorem compK1_ok (hT : TOk P T) {t : TypeId} {k : KT1} (h : compK1 T t = some k) : K1Ok P t k := by
  unfold compK1 at h
  split at h <;> try (simp at h; done)
  rename_i i hi
  have hi := hT _ _ hi
  obtain ⟨inf, hinf, hsz, _⟩ := hi.info
  have hund := hi.und
  split at h <;> try (simp at h; done)
  · rename_i k' hd
    split at h <;> try (simp at h; done)
    rename_i hb
    have hb := (natBeq_iff _ _).1 hb
    injection h with h; subst h
    exact ⟨by rw [hund, hd], inf, hinf, by rw [hsz, hb]; rfl⟩
  · rename_i n e hd
    split at h <;> try (simp at h; done)
    rename_i ie hie
    have hie := hT _ _ hie
    obtain ⟨inf2, hinf2, hsz2, _⟩ := hie.info
    split at h <;> try (simp at h; done)
    rename_i k' hd2
    split at h <;> try (simp at h; done)
    rename_i hb1 hb2
    have hb1 := (natBeq_iff _ _).1 hb1
    have hb2 := (natBeq_iff _ _).1 hb2
    injection h with h; subst h
    exact ⟨⟨by rw [hund, hd], by rw [hie.und, hd2], inf2, hinf2, by rw [hsz2, hb1]⟩, inf, hinf, by rw [hsz, hb2]; rfl⟩
theorem compFs_ok (hT : TOk P T) : ∀ {fl : List Field} {gl : List (Nat × TypeId × KT1)}, compFs T fl = some gl → FsOk P fl gl := by
  intro fl
  induction fl with
  | nil => intro gl h; simp [compFs] at h; subst h; trivial
  | cons f fl ih =>
    intro gl h
    simp only [compFs] at h
    split at h <;> try (simp at h; done)
    rename_i hn
    split at h <;> try (simp at h; done)
    rename_i k hk
    split at h <;> try (simp at h; done)
    rename_i r hr
    injection h with h; subst h
    exact ⟨rfl, rfl, by simpa using hn, compK1_ok hT hk, ih hr⟩
theorem compKT_ok (hT : TOk P T) {t : TypeId} {k : KT} (h : compKT T t = some k) : KOk P t k := by
  unfold compKT at h
  split at h <;> try (simp at h; done)
  rename_i i hi
  have hi := hT _ _ hi
  split at h
  · rename_i fs hd
    split at h <;> try (simp at h; done)
    rename_i hp
    cases hf : compFs T fs.toList with
    | none => rw [hf] at h; cases h
    | some gl =>
      rw [hf] at h; injection h with h; subst h
      exact ⟨fs, by rw [hi.und, hd], compFs_ok hT hf, (hi.plain hp).1⟩
  · cases hk : compK1 T t with
    | none => rw [hk] at h; cases h
    | some x => rw [hk] at h; injection h with h; subst h; exact compK1_ok hT hk
end

/-- What a state says of a world's blocks. -/
structure View (c : Cx) (nx : Nat) (s : S) (w : World) : Prop where
  sat : Sat c.σ s.φ
  wf : ∀ id o, s.at id = some o → o.wf c nx
  obj : ∀ id o, s.at id = some o → ObjRel c id o (w.heap[c.ι id]?)
theorem Rel.view {c : Cx} {s : S} {w : World} (h : Rel c s w) : View c s.nx s w := ⟨h.sat, h.wf, h.obj⟩
theorem S.get_eq (s : S) (id : Nat) : s.get id = s.at id := rfl

theorem obj_cell {c : Cx} {id : Nat} {o : AObj} {w : World} (h : ObjRel c id o (w.heap[c.ι id]?)) {l : List AS} (hl : cellsOfObj o = some l) {j : Nat} {x : AS} (hx : l[j]? = some x) :
    w.cell? ⟨c.ι id, j, none⟩ = some (x.conc c) := by
  cases o with
  | map es cl => cases hl
  | iter q a l b => cases hl
  | cells m e =>
    simp only [cellsOfObj] at hl; injection hl with hl; subst hl
    simp only [ObjRel] at h
    simp [World.cell?, h, List.getElem?_map, hx]
  | row m e z =>
    simp only [cellsOfObj] at hl; injection hl with hl; subst hl
    obtain ⟨cur, h1, h2, h3, h4⟩ := h
    have : cur.toList[j]? = some (x.conc c) := by
      have e : (cur.toList.take m.length)[j]? = some (x.conc c) := by rw [h4]; simp [hx]
      rw [List.getElem?_take] at e
      split at e
      · exact e
      · cases e
    simp [World.cell?, h1]
    simpa using this
theorem obj_frozen {c : Cx} {id : Nat} {o : AObj} {w : World} (h : ObjRel c id o (w.heap[c.ι id]?)) (j : Nat) : w.frozen? ⟨c.ι id, j, none⟩ = false := by
  cases o with
  | map es cl => simp only [ObjRel] at h; simp [World.frozen?, h]
  | iter q x l b => simp only [ObjRel] at h; simp [World.frozen?, h]
  | cells m e => simp only [ObjRel] at h; simp [World.frozen?, h]
  | row m e z => obtain ⟨cur, h1, _⟩ := h; simp [World.frozen?, h1]
/-- a run of cells -/
theorem obj_cells {c : Cx} {id : Nat} {o : AObj} {w : World} (h : ObjRel c id o (w.heap[c.ι id]?)) {l : List AS} (hl : cellsOfObj o = some l) {off k : Nat} {r : List AS} (hr : takeN l off k = some r) :
    (∀ j v, (r.map (AS.conc c))[j]? = some v → w.cell? ((⟨c.ι id, off, none⟩ : Addr).add j) = some v) ∧ r.length = k ∧ (∀ x ∈ r, x ∈ l) := by
  unfold takeN at hr
  obtain ⟨h1, h2⟩ := ckB_some hr
  have h1 : off + k ≤ llen l := (natBle_iff _ _).1 h1
  rw [llen_eq] at h1
  injection h2 with h2
  rw [ltake_eq, ldrop_eq] at h2
  subst h2
  refine ⟨?_, by simp; omega, fun x hx => List.mem_of_mem_drop (List.mem_of_mem_take hx)⟩
  intro j v hv
  rw [addr_add]
  simp only [List.getElem?_map, Option.map_eq_some_iff] at hv
  obtain ⟨x, hx, rfl⟩ := hv
  rw [List.getElem?_take] at hx
  split at hx
  · rw [List.getElem?_drop] at hx
    exact obj_cell h hl hx
  · cases hx

section
variable {P : Program} {T : TyT} {c : Cx} {nx : Nat} {t : Tmps} {a : Act} {s : S} {w : World}

theorem bytesA_cons (x : AS) (l : List AS) : bytesA (x :: l) = match x with | .int .u8 t => optP (bytesA l) none fun r => some (t :: r) | _ => none := by
  cases x with
  | int k t => cases k <;> rfl
  | _ => rfl
theorem bytesA_spec : ∀ {l : List AS} {b : List Tm}, bytesA l = some b → l = b.map (fun t => AS.int .u8 t) := by
  intro l
  induction l with
  | nil => intro b h; injection h with h; subst h; rfl
  | cons x l ih =>
    intro b h
    rw [bytesA_cons] at h
    split at h <;> try (simp at h; done)
    rename_i q
    obtain ⟨r, hr, h⟩ := optP_some h
    injection h with h; subst h
    rw [ih hr]; rfl

theorem bytesLoop (f : Value → ByteArray → Sem (ForInStep ByteArray)) (hf : ∀ n s, f (.int .u8 n) s = pure (ForInStep.yield (s.push (UInt8.ofNat n.toNat)))) (vs : List Int) :
    ∀ (s : ByteArray), (forIn (vs.map (fun n => Value.int .u8 n)) s f : Sem ByteArray).run P w = .ok ⟨s.data ++ (vs.map fun n => UInt8.ofNat n.toNat).toArray⟩ w := by
  induction vs with
  | nil => intro s; simp
  | cons n vs ih =>
    intro s
    simp only [List.map_cons, List.forIn_cons, hf, Sem.run_bind, Sem.run_pure, Result.andThen_ok]
    rw [ih]
    congr 1
    apply ByteArray.ext
    simp [ByteArray.push]

theorem read_sound (hT : TOk P T) {o : Oper} {ro : ROp} (hc : compR T o.op = some ro) (hr : TRel c nx t a.tmps) (hv : View c nx s w) {v : AV} (hp : readOp t s ro = some v) :
    (execOp a.eval o).run P w = .ok (.value (v.conc c)) w ∧ v.wf c nx := by
  obtain ⟨dst, op, ty, pos, af, g⟩ := o
  cases op with
  | load ty' ad =>
    simp only [compR] at hc
    split at hc <;> try (simp at hc; done)
    rename_i i hi
    split at hc <;> try (simp at hc; done)
    rename_i x hx
    injection hc with hc; subst hc
    have hi := hT _ _ hi
    obtain ⟨u, hu, g1⟩ := optP_some (show opLoad t s (aggSize i) x = some v from hp)
    obtain ⟨⟨id, off⟩, h2, g2⟩ := optP_some g1
    obtain ⟨ob, h3, g3⟩ := optP_some g2
    obtain ⟨l, h4, g4⟩ := optP_some g3
    rw [S.get_eq] at h3
    have e := asPtrA_spec h2
    rw [e] at hu
    have e1 := (ev_spec hr hx hu).1
    simp only [AV.conc, AW.conc, AS.conc] at e1
    have hob := hv.obj id ob h3
    have hwf := hv.wf id ob h3
    have hlw : ∀ y ∈ l, y.wf c nx := by
      cases ob with
      | map => cases h4
      | iter => cases h4
      | cells m e => injection h4 with h4; subst h4; exact hwf
      | row m e z => injection h4 with h4; subst h4; exact hwf
    cases hd : isAggD i.desc with
    | false =>
      simp only [aggSize, hd] at g4
      obtain ⟨y, h5, g5⟩ := optP_some g4
      rw [lget_eq] at h5
      injection g5 with g5; subst g5
      have hcell := obj_cell hob h4 h5
      refine ⟨?_, hlw _ (List.mem_of_getElem? h5)⟩
      simp [execOp, e1, Instr.loadAt, Instr.sureAddr, loadVar, hi.run_isAgg w, hd, hcell, AV.conc, AW.conc]
    | true =>
      simp only [aggSize, hd] at g4
      obtain ⟨r, h5, g5⟩ := optP_some g4
      injection g5 with g5; subst g5
      obtain ⟨hcs, hlen, hmem⟩ := obj_cells hob h4 h5
      have hrun := run_loadCells_list (P := P) w ⟨c.ι id, off, none⟩ (r.map (AS.conc c)) hcs
      rw [List.length_map, hlen] at hrun
      refine ⟨?_, fun y hy => hlw y (hmem y hy)⟩
      simp [execOp, e1, Instr.loadAt, Instr.sureAddr, loadVar, hi.run_isAgg w, hd, hi.run_size w, hrun, AV.conc, AW.conc]
  | lookup ty' x k ok =>
    simp only [compR] at hc
    split at hc <;> try (simp at hc; done)
    rename_i i hi
    split at hc <;> try (simp at hc; done)
    rename_i kty ety hd
    split at hc <;> try (simp at hc; done)
    rename_i ie q x' k' hie hq hx hk
    injection hc with hc; subst hc
    have hi := hT _ _ hi
    have hie := hT _ _ hie
    have hK := compKT_ok hT hq
    obtain ⟨h0, n0, φ0⟩ := s
    obtain ⟨u, hu, g1⟩ := optP_some (show opLook φ0 t ⟨h0, n0, φ0⟩ q ie.zero x' k' ok = some v from hp)
    obtain ⟨m, hm, g2⟩ := optP_some g1
    have e := asS_spec hm
    rw [e] at hu
    have e1 := (ev_spec hr hx hu).1
    have res : ∀ (y : AW) (b : Bool), y.wf c nx → (if ok = true then (Value.tuple #[y.conc c, .bool b]) else y.conc c) = (lookRes y b ok).conc c ∧ (lookRes y b ok).wf c nx := by
      intro y b hy
      cases ok
      · exact ⟨rfl, hy⟩
      · refine ⟨by simp [lookRes, AV.conc, AW.conc, AS.conc], ?_⟩
        intro z hz
        rcases List.mem_cons.1 hz with rfl | hz
        · exact hy
        · simp at hz; subst hz; trivial
    split at g2 <;> try (simp at g2; done)
    · obtain ⟨kv, hkv, g3⟩ := optP_some g2
      split at g3 <;> try (simp at g3; done)
      rename_i kw
      obtain ⟨hsh, g4⟩ := ckB_some g3
      injection g4 with g4; subst g4
      have ek : a.eval k = kw.conc c := (ev_spec hr hk hkv).1
      simp only [AV.conc, AW.conc, AS.conc] at e1
      have hck : (Instr.checkKey true 10000 kty (kw.conc c)).run P w = .ok () w := checkK (P := P) w hK (shapeK_spec hsh c) true 9997
      have hemp : (([] : List MapEntry).isEmpty) = true := rfl
      have hr0 := res ie.zero false (hie.zero c nx)
      refine ⟨?_, hr0.2⟩
      have hfind : (Instr.findKey kty (kw.conc c) []).run P w = .ok none w := by
        obtain ⟨d, hd2⟩ : ∃ d, P.underlying kty = some d := by
          cases q with
          | one z => cases z with
            | int k => exact ⟨_, hK.und⟩
            | arr => exact ⟨_, hK.und.1⟩
          | str fs => exact ⟨_, hK.choose_spec.1⟩
        simp [Instr.findKey, run_underlying hd2, Instr.findNow]
      have hrun : (Instr.lookup ty' (.map none) (kw.conc c) ok).run P w = .ok ((lookRes ie.zero false ok).conc c) w := by
        rw [← hr0.1]
        simp only [Instr.lookup, Sem.run_bind, hi.run_und w, Result.andThen_ok, hd, Sem.run_pure, hie.run_zero w c]
        simp only [List.isEmpty_toArray, hemp, hck, Result.andThen_ok, hfind, Sem.run_bind, hie.run_zero w c, Sem.run_pure]
      simp [execOp, e1, ek, hrun]
    · rename_i id
      obtain ⟨ob, h3, g3⟩ := optP_some g2
      rw [S.get_eq] at h3
      split at g3 <;> try (simp at g3; done)
      rename_i es clock
      obtain ⟨kv, hkv, g4⟩ := optP_some g3
      split at g4 <;> try (simp at g4; done)
      rename_i kw
      obtain ⟨hsh, g5⟩ := ckB_some g4
      obtain ⟨r, hfe, g6⟩ := optP_some g5
      have ek : a.eval k = kw.conc c := (ev_spec hr hk hkv).1
      simp only [AV.conc, AW.conc, AS.conc] at e1
      have hob := hv.obj id _ h3
      have hwf := hv.wf id _ h3
      simp only [ObjRel] at hob
      have hck : (Instr.checkKey ((es.map (AEnt.conc c)).toArray).isEmpty 10000 kty (kw.conc c)).run P w = .ok () w := checkK (P := P) w hK (shapeK_spec hsh c) _ 9997
      obtain ⟨hfk, hfk2⟩ := findKey_spec (P := P) hv.sat hK hsh w hfe
      have hget : (getObj (c.ι id)).run P w = .ok (.map (es.map (AEnt.conc c)).toArray clock) w := by
        simp [getObj, Sem.run, hob]
      cases r with
      | none =>
        simp only at g6
        injection g6 with g6; subst g6
        have hr0 := res ie.zero false (hie.zero c nx)
        refine ⟨?_, hr0.2⟩
        have hrun : (Instr.lookup ty' (.map (some (c.ι id))) (kw.conc c) ok).run P w = .ok ((lookRes ie.zero false ok).conc c) w := by
          rw [← hr0.1]
          simp only [Instr.lookup, Sem.run_bind, hi.run_und w, Result.andThen_ok, hd, Sem.run_pure, hget, hck]
          simp only [Option.map_none] at hfk
          simp only [hfk, Result.andThen_ok, Sem.run_bind, hie.run_zero w c, Sem.run_pure]
        simp [execOp, e1, ek, hrun]
      | some p =>
        obtain ⟨j, en⟩ := p
        simp only at g6
        injection g6 with g6; subst g6
        have hen := hfk2 j en rfl
        have hr0 := res en.val true (hwf en (List.mem_of_getElem? hen.1)).2
        refine ⟨?_, hr0.2⟩
        have hrun : (Instr.lookup ty' (.map (some (c.ι id))) (kw.conc c) ok).run P w = .ok ((lookRes en.val true ok).conc c) w := by
          rw [← hr0.1]
          simp only [Instr.lookup, Sem.run_bind, hi.run_und w, Result.andThen_ok, hd, Sem.run_pure, hget, hck]
          simp only [Option.map_some] at hfk
          simp only [hfk, Result.andThen_ok, Sem.run_bind, Sem.run_pure]
        simp [execOp, e1, ek, hrun]
  | convert src dst' x =>
    simp only [compR] at hc
    split at hc <;> try (simp at hc; done)
    rename_i i d hi hdd
    split at hc <;> try (simp at hc; done)
    rename_i e hd1 hd2
    split at hc <;> try (simp at hc; done)
    rename_i ie hie
    split at hc <;> try (simp at hc; done)
    rename_i hd3
    cases hx : embO x with
    | none => rw [hx] at hc; cases hc
    | some x' =>
      rw [hx] at hc; injection hc with hc; subst hc
      have hi := hT _ _ hi
      have hdd := hT _ _ hdd
      have hie := hT _ _ hie
      obtain ⟨u, hu, g1⟩ := optP_some (show opCstr t s x' = some v from hp)
      obtain ⟨m, hm, g2⟩ := optP_some g1
      have e := asS_spec hm
      rw [e] at hu
      have e1 := (ev_spec hr hx hu).1
      have hconv : ∀ y : Option Addr × Nat × Nat, (convert src dst' (.slice y.1 y.2.1 y.2.2)).run P w = (Conv.bytesToString (.slice y.1 y.2.1 y.2.2)).run P w := by
        intro y
        simp only [convert, Sem.run_bind, hi.run_und w, hdd.run_und w, Result.andThen_ok, hd1, hd2, hie.run_und w, hd3]
      split at g2 <;> try (simp at g2; done)
      · injection g2 with g2; subst g2
        simp only [AV.conc, AW.conc, AS.conc] at e1
        refine ⟨?_, trivial⟩
        have := hconv (none, 0, 0)
        simp only at this
        simp [execOp, e1, this, Conv.bytesToString, AV.conc]
        rfl
      · rename_i id off len cap
        obtain ⟨ob, h3, g3⟩ := optP_some g2
        obtain ⟨l, h4, g4⟩ := optP_some g3
        obtain ⟨r, h5, g5⟩ := optP_some g4
        obtain ⟨b, h6, g6⟩ := optP_some g5
        injection g6 with g6; subst g6
        rw [S.get_eq] at h3
        simp only [AV.conc, AW.conc, AS.conc] at e1
        have hob := hv.obj id ob h3
        obtain ⟨hcs, hlen, hmem⟩ := obj_cells hob h4 h5
        have hrun := run_loadCells_list (P := P) w ⟨c.ι id, off, none⟩ (r.map (AS.conc c)) hcs
        rw [List.length_map, hlen] at hrun
        refine ⟨?_, trivial⟩
        have hb := bytesA_spec h6
        subst hb
        have := hconv (some ⟨c.ι id, off, none⟩, len, cap.conc c id)
        simp only at this
        have hmap : (List.map (AS.conc c) (b.map (fun t => AS.int .u8 t))) = (b.map (fun t => t.eval c.σ)).map (fun n => Value.int .u8 n) := by simp [AS.conc, Function.comp_def]
        rw [hmap] at hrun
        have hstr : (Conv.bytesToString (.slice (some ⟨c.ι id, off, none⟩) len (cap.conc c id))).run P w = .ok (.string ⟨(b.map (byteT c.σ)).toArray⟩) w := by
          simp only [Conv.bytesToString, Sem.run_bind, hrun, Result.andThen_ok]
          rw [List.forIn_toArray]
          rw [bytesLoop _ (fun _ _ => rfl)]
          simp [byteT, Function.comp_def]
        simp [execOp, e1, this, hstr, AV.conc]
  | call cl =>
    obtain ⟨callee, args, argTypes⟩ := cl
    simp only [compR] at hc
    split at hc <;> try (simp at hc; done)
    split at hc <;> try (simp at hc; done)
    rename_i x ty' hargs htys
    split at hc <;> try (simp at hc; done)
    rename_i i hi
    split at hc <;> try (simp at hc; done)
    rename_i kty ety hd
    cases hx : embO x with
    | none => rw [hx] at hc; cases hc
    | some y =>
      rw [hx] at hc; injection hc with hc; subst hc
      obtain ⟨u, hu, g1⟩ := optP_some (show opMlen t s y = some v from hp)
      obtain ⟨q, hq, g2⟩ := optP_some g1
      have e := asS_spec hq
      rw [e] at hu
      have e1 := (ev_spec hr hx hu).1
      have ha : args = #[x] := by apply Array.ext'; simpa using hargs
      have ht : argTypes = #[ty'] := by apply Array.ext'; simpa using htys
      subst ha; subst ht
      split at g2 <;> try (simp at g2; done)
      · injection g2 with g2; subst g2
        simp only [AV.conc, AW.conc, AS.conc] at e1
        refine ⟨?_, trivial⟩
        rw [callLen_run (x := x) (ty := ty')]
        simp [Builtin.len_, e1, (hT _ _ hi).run_und w, hd, vInt, AV.conc, AW.conc, AS.conc, Tm.eval, goInt]
      · rename_i id
        obtain ⟨ob, h3, g3⟩ := optP_some g2
        rw [S.get_eq] at h3
        split at g3 <;> try (simp at g3; done)
        rename_i es clock
        injection g3 with g3; subst g3
        have hob := hv.obj id _ h3
        simp only [ObjRel] at hob
        have hget : (getObj (c.ι id)).run P w = .ok (.map (es.map (AEnt.conc c)).toArray clock) w := by
          simp [getObj, Sem.run, hob]
        simp only [AV.conc, AW.conc, AS.conc] at e1
        refine ⟨?_, trivial⟩
        rw [callLen_run (x := x) (ty := ty')]
        simp [Builtin.len_, e1, (hT _ _ hi).run_und w, hd, hget, vInt, AV.conc, AW.conc, AS.conc, Tm.eval, goInt, llen_eq]
  | _ => simp [compR] at hc
end
end
end Go.Sy

/-! The symbolic executor, part L: operations that make a block. -/
namespace Go.Sy
set_option linter.unusedVariables false
set_option linter.unusedSectionVars false
noncomputable section

theorem repA_eq (z : List AS) (n : Nat) : repA z n = (List.replicate n z).flatten := by
  induction n with
  | zero => rfl
  | succ n ih => rw [repA_succ, lapp_eq, ih]; simp [List.replicate_succ]
theorem rep_range (z : List Value) (n : Nat) : (List.range (n * z.length)).map (fun i => z.toArray[i % z.toArray.size]!) = (List.replicate n z).flatten := by
  induction n with
  | zero => simp
  | succ n ih =>
    have e : (n + 1) * z.length = z.length + n * z.length := by rw [Nat.add_mul, Nat.one_mul, Nat.add_comm]
    rw [e, List.range_add, List.map_append, List.replicate_succ, List.flatten_cons, ← ih]
    congr 1
    · apply List.ext_getElem
      · simp
      · intro i h1 h2
        simp only [List.length_map, List.length_range] at h1
        simp [Nat.mod_eq_of_lt h1, getElem!_pos, h1]
    · rw [List.map_map]
      apply List.map_congr_left
      intro i hi
      simp [Function.comp_def]

section
variable {P : Program} {T : TyT} {c : Cx} {t : Tmps} {a : Act} {s : S} {w : World}

theorem cellsW_conc (x : AW) : (x.conc c).cells = ((cellsW x).map (AS.conc c)).toArray := by
  cases x with
  | s x =>
    have := AS.oneCell c x
    simp only [AW.conc, cellsW, List.map_cons, List.map_nil]
    cases hx : x.conc c <;> simp_all [Value.cells, Value.oneCell']
  | agg l => rfl
theorem cellsW_wf {nx : Nat} {x : AW} (h : x.wf c nx) : ∀ y ∈ cellsW x, y.wf c nx := by
  cases x with
  | s x => intro y hy; simp [cellsW] at hy; subst hy; exact h
  | agg l => exact h

/-- a block of cells that is made -/
theorem make_cells (l : List AS) (e : TypeId) (hl : ∀ x ∈ l, x.wf c s.nx) :
    let c' := c.set2 s.nx w.heap.size 0
    (AObj.cells l e).wf c' (s.nx + 1) ∧ ObjRel c' s.nx (.cells l e) (some (.cells (l.map (AS.conc c)).toArray e)) := by
  have he := Cx.set2_ext c s.nx w.heap.size 0
  refine ⟨fun x hx => AS.wf_ext he (by omega) (hl x hx), ?_⟩
  simp only [ObjRel]
  rw [concL_ext he hl]

theorem rep_run {e : TypeId} {ie : TyA} (hie : TyOk P e ie) (n : Nat) :
    (if n * ie.size = 0 then (pure #[] : Sem (Array Value)) else do pure (← zeroValue e).cells).run P w = .ok (if n * ie.size = 0 then #[] else ((cellsW ie.zero).map (AS.conc c)).toArray) w := by
  split
  · rfl
  · simp [hie.run_zero w c, cellsW_conc]
theorem rep_cells {e : TypeId} {ie : TyA} (hie : TyOk P e ie) (n : Nat) :
    (Array.range (n * ie.size)).map ((fun (zero : Array Value) i => zero[i % zero.size]!) (if n * ie.size = 0 then #[] else ((cellsW ie.zero).map (AS.conc c)).toArray)) = ((repA (cellsW ie.zero) n).map (AS.conc c)).toArray := by
  have hlen := hie.len
  have hr := rep_range ((cellsW ie.zero).map (AS.conc c)) n
  rw [List.length_map, hlen] at hr
  apply Array.ext'
  rw [repA_eq]
  have e : List.map (AS.conc c) (List.replicate n (cellsW ie.zero)).flatten = (List.replicate n ((cellsW ie.zero).map (AS.conc c))).flatten := by
    rw [List.map_flatten, List.map_replicate]
  rw [e, ← hr]
  by_cases h0 : n * ie.size = 0
  · rw [h0]; simp
  · rw [if_neg h0]; simp

theorem make_sound (hT : TOk P T) {o : Oper} {mo : MOp} (hc : compM T o.op = some mo) (hr : TRel c s.nx t a.tmps) {obj : AObj} {v : AV} (hp : makeOp t s.nx mo = some (obj, v)) :
    ∃ ob, (execOp a.eval o).run P w = .ok (.value (v.conc (c.set2 s.nx w.heap.size 0))) (w.alloc ob) ∧ v.wf (c.set2 s.nx w.heap.size 0) (s.nx + 1) ∧
      obj.wf (c.set2 s.nx w.heap.size 0) (s.nx + 1) ∧ ObjRel (c.set2 s.nx w.heap.size 0) s.nx obj (some ob) := by
  have hin : (c.set2 s.nx w.heap.size 0).ι s.nx = w.heap.size := by simp [Cx.set2]
  obtain ⟨dst, op, ty, pos, af, g⟩ := o
  cases op with
  | alloc e =>
    simp only [compM] at hc
    split at hc <;> try (simp at hc; done)
    rename_i i hi
    have hi := hT _ _ hi
    injection hc with hc; subst hc
    simp only [makeOp] at hp
    injection hp with hp; injection hp with h1 h2; subst h1; subst h2
    have hm := make_cells (c := c) (s := s) (w := w) (cellsW i.zero) e (cellsW_wf (hi.zero c s.nx))
    refine ⟨_, ?_, ?_, hm.1, hm.2⟩
    · have hrun : (Instr.alloc e true (.tuple #[])).run P w = .ok (.pointer (some ⟨w.heap.size, 0, none⟩)) (w.alloc (.cells ((cellsW i.zero).map (AS.conc c)).toArray e)) := by
        simp [Instr.alloc, hi.run_zero w c, newVar, newRow, cellsW_conc]
      simp only [execOp, Sem.run_bind, hrun, Result.andThen_ok, Sem.run_pure]
      simp [AV.conc, AW.conc, AS.conc, hin]
    · show s.nx < s.nx + 1; omega
  | box e x =>
    simp only [compM] at hc
    split at hc <;> try (simp at hc; done)
    rename_i x' hx
    injection hc with hc; subst hc
    obtain ⟨u, hu, g1⟩ := optP_some (show (optP (ev t x') none fun v => optP (cellsA v) none fun l => some (AObj.cells l e, AV.w (.s (.ptr s.nx 0)))) = some (obj, v) from hp)
    obtain ⟨l, hl, g2⟩ := optP_some g1
    injection g2 with g2; injection g2 with h1 h2; subst h1; subst h2
    have e1 := ev_spec hr hx hu
    have e2 := cellsA_spec hl c s.nx
    have hm := make_cells (c := c) (s := s) (w := w) l e (e2.2 e1.2)
    refine ⟨_, ?_, ?_, hm.1, hm.2⟩
    · have hrun : (Instr.box e (a.eval x)).run P w = .ok (.pointer (some ⟨w.heap.size, 0, none⟩)) (w.alloc (.cells (l.map (AS.conc c)).toArray e)) := by
        simp [Instr.box, newVar, newRow, e1.1, e2.1]
      simp only [execOp, Sem.run_bind, hrun, Result.andThen_ok, Sem.run_pure]
      simp [AV.conc, AW.conc, AS.conc, hin]
    · show s.nx < s.nx + 1; omega
  | buildSlice ty' n ps =>
    simp only [compM] at hc
    split at hc <;> try (simp at hc; done)
    rename_i i hi
    split at hc <;> try (simp at hc; done)
    rename_i e hd
    split at hc <;> try (simp at hc; done)
    rename_i ie hie
    split at hc <;> try (simp at hc; done)
    rename_i ps' hb hps
    have hb := (natBle_iff _ _).1 hb
    injection hc with hc; subst hc
    have hi := hT _ _ hi
    have hie := hT _ _ hie
    obtain ⟨l, hl, g1⟩ := optP_some (show (optP (fillA t ps' (repA (cellsW ie.zero) n)) none fun l => some (AObj.cells l e, AV.w (.s (.slice s.nx 0 n (.ex n))))) = some (obj, v) from hp)
    injection g1 with g1; injection g1 with h1 h2; subst h1; subst h2
    have hzw : ∀ x ∈ repA (cellsW ie.zero) n, x.wf c s.nx := by
      intro x hx
      rw [repA_eq] at hx
      simp only [List.mem_flatten, List.mem_replicate] at hx
      obtain ⟨m, ⟨_, rfl⟩, hx⟩ := hx
      exact cellsW_wf (hie.zero c s.nx) x hx
    have hf := fill_spec hr hps hl hzw
    have hm := make_cells (c := c) (s := s) (w := w) l e hf.2.1
    refine ⟨_, ?_, ?_, hm.1, hm.2⟩
    · have hrun : (Instr.buildSlice ty' n (ps.map fun (i, x) => (i, a.eval x))).run P w = .ok (.slice (some ⟨w.heap.size, 0, none⟩) n n) (w.alloc (.cells (l.map (AS.conc c)).toArray e)) := by
        simp only [Instr.buildSlice, Sem.run_bind, hi.run_und w, Result.andThen_ok, hd, hie.run_size w]
        rw [if_neg (by omega)]
        have hrc := rep_cells (c := c) hie n
        have hf1 := hf.1
        by_cases h0 : n * ie.size = 0
        · rw [if_pos h0] at hrc ⊢
          simp only [Sem.run_bind, Sem.run_pure, Result.andThen_ok, Array.toList_map]
          rw [hrc, hf1]
          simp [newRow]
        · rw [if_neg h0] at hrc ⊢
          simp only [Sem.run_bind, Sem.run_pure, Result.andThen_ok, hie.run_zero w c, cellsW_conc, Array.toList_map]
          rw [hrc, hf1]
          simp [newRow]
      simp [execOp, hrun, AV.conc, AW.conc, AS.conc, ACap.conc, hin]
    · exact ⟨by show s.nx < s.nx + 1; omega, Nat.le_refl _⟩
  | makeMap ty' r =>
    cases r with
    | some r => simp [compM] at hc
    | none =>
      simp only [compM] at hc
      injection hc with hc; subst hc
      simp only [makeOp] at hp
      injection hp with hp; injection hp with h1 h2; subst h1; subst h2
      refine ⟨.map #[] 0, ?_, ?_, ?_, ?_⟩
      · simp [execOp, Instr.makeMap, AV.conc, AW.conc, AS.conc, hin]
      · show s.nx < s.nx + 1; omega
      · intro e he; cases he
      · simp [ObjRel]
  | makeSlice ty' n cp =>
    simp only [compM] at hc
    split at hc <;> try (simp at hc; done)
    rename_i i hi
    split at hc <;> try (simp at hc; done)
    rename_i e hd
    split at hc <;> try (simp at hc; done)
    rename_i ie n' cp' hie hn hcp
    injection hc with hc; subst hc
    have hi := hT _ _ hi
    have hie := hT _ _ hie
    obtain ⟨inf, hinf, _, hby, _⟩ := hie.info
    obtain ⟨u, hu, g1⟩ := optP_some (show (optP (ev t n') none fun v => optP (asNatA v) none fun n => optP (ev t cp') none fun v => optP (asNatA v) none fun c =>
      ckB (and2 (Nat.ble n c) (and2 (Nat.ble c 1048576) (Nat.ble ie.bytes 1048576))) none (some (AObj.cells (repA (cellsW ie.zero) c) e, AV.w (.s (.slice s.nx 0 n (.ex c)))))) = some (obj, v) from hp)
    obtain ⟨m, hm, g2⟩ := optP_some g1
    obtain ⟨u2, hu2, g3⟩ := optP_some g2
    obtain ⟨m2, hm2, g4⟩ := optP_some g3
    obtain ⟨hk, g5⟩ := ckB_some g4
    obtain ⟨k1, hk⟩ := and2_iff.1 hk
    obtain ⟨k2, k3⟩ := and2_iff.1 hk
    have k1 := (natBle_iff _ _).1 k1
    have k2 := (natBle_iff _ _).1 k2
    have k3 := (natBle_iff _ _).1 k3
    injection g5 with g5; injection g5 with h1 h2; subst h1; subst h2
    obtain ⟨q1, e1⟩ := asNatA_spec hm
    obtain ⟨q2, e2⟩ := asNatA_spec hm2
    rw [e1] at hu; rw [e2] at hu2
    have f1 := (ev_spec hr hn hu).1
    have f2 := (ev_spec hr hcp hu2).1
    simp only [AV.conc, AW.conc, AS.conc, Tm.eval] at f1 f2
    have hzw : ∀ x ∈ repA (cellsW ie.zero) m2, x.wf c s.nx := by
      intro x hx
      rw [repA_eq] at hx
      simp only [List.mem_flatten, List.mem_replicate] at hx
      obtain ⟨m, ⟨_, rfl⟩, hx⟩ := hx
      exact cellsW_wf (hie.zero c s.nx) x hx
    have hmk := make_cells (c := c) (s := s) (w := w) (repA (cellsW ie.zero) m2) e hzw
    refine ⟨_, ?_, ?_, hmk.1, hmk.2⟩
    · have hw1 : IntKind.i64.wrap (m : Int) = m := wrap_nat (by show m ≤ 9223372036854775807; omega)
      have hw2 : IntKind.i64.wrap (m2 : Int) = m2 := wrap_nat (by show m2 ≤ 9223372036854775807; omega)
      have hbnd : ¬ ((ie.bytes : Int) * (m2 : Int) > 2 ^ 48) := by
        have h1 : ie.bytes * m2 ≤ 1048576 * 1048576 := Nat.mul_le_mul k3 k2
        have h2 : ((ie.bytes * m2 : Nat) : Int) = (ie.bytes : Int) * (m2 : Int) := by simp
        rw [← h2]; omega
      have hrun : (Instr.makeSlice ty' (.int q1 m) (.int q2 m2)).run P w = .ok (.slice (some ⟨w.heap.size, 0, none⟩) m m2) (w.alloc (.cells ((repA (cellsW ie.zero) m2).map (AS.conc c)).toArray e)) := by
        simp only [Instr.makeSlice, Sem.run_bind, hi.run_und w, Result.andThen_ok, hd, asInt, asIntOf, Sem.run_pure, typeInfo, run_program, hinf, hw1, hw2, hby]
        have hc1 : ¬ (((m2 : Int) < 0) ∨ ((ie.bytes : Int) * (m2 : Int) > 2 ^ 48)) := by omega
        have hcond : ((decide ((m2 : Int) < 0) || decide ((ie.bytes : Int) * (m2 : Int) > 2 ^ 48)) || decide ((m : Int) < 0) || decide ((m : Int) > (m2 : Int))) = false := by
          simp only [Bool.or_eq_false_iff, decide_eq_false_iff_not]
          refine ⟨⟨⟨by omega, hbnd⟩, by omega⟩, by omega⟩
        simp only [hcond, Bool.false_eq_true, if_false, Sem.run_pure, Result.andThen_ok, run_askRoom, Sem.run_bind, hie.run_size w, Int.toNat_natCast]
        have hrc := rep_cells (c := c) hie m2
        by_cases h0 : m2 * ie.size = 0
        · rw [if_pos h0] at hrc ⊢
          simp only [Sem.run_bind, Sem.run_pure, Result.andThen_ok]
          rw [hrc]
          simp [newRow]
        · rw [if_neg h0] at hrc ⊢
          simp only [Sem.run_bind, Sem.run_pure, Result.andThen_ok, hie.run_zero w c, cellsW_conc]
          rw [hrc]
          simp [newRow]
      simp [execOp, f1, f2, hrun, AV.conc, AW.conc, AS.conc, ACap.conc, hin]
    · exact ⟨by show s.nx < s.nx + 1; omega, k1⟩
  | _ => simp [compM] at hc
end
end
end Go.Sy

/-! The symbolic executor, part M: operations that write. -/
namespace Go.Sy
set_option linter.unusedVariables false
set_option linter.unusedSectionVars false
noncomputable section

def S.updK (s : S) (id : Nat) (o : AObj) (k : S → Bool) : Bool := match s with | .mk h nx φ => h.setK (some o) (Nat.succ id) fun h => k ⟨h, nx, φ⟩
def S.newK (s : S) (o : AObj) (k : S → Bool) : Bool := match s with | .mk h nx φ => h.setK (some o) (Nat.succ nx) fun h => forceN (Nat.add nx 1) fun nx => k ⟨h, nx, φ⟩
def S.moveK (s : S) (id : Nat) (o : AObj) (k : S → Bool) : Bool := match s with
  | .mk h nx φ => h.setK none (Nat.succ id) fun h => h.setK (some o) (Nat.succ nx) fun h => forceN (Nat.add nx 1) fun nx => k ⟨h, nx, φ⟩
def S.move (s : S) (id : Nat) (o : AObj) : S := ⟨(s.h.set none (Nat.succ id)).set (some o) (Nat.succ s.nx), Nat.succ s.nx, s.φ⟩
theorem S.updK_eq (s : S) (id : Nat) (o : AObj) (k : S → Bool) : s.updK id o k = k (s.upd id o) := by cases s; simp only [S.updK, Tree.setK_eq]; rfl
theorem S.newK_eq (s : S) (o : AObj) (k : S → Bool) : s.newK o k = k (s.new o) := by cases s; simp only [S.newK, Tree.setK_eq, forceN_eq]; rfl
theorem S.moveK_eq (s : S) (id : Nat) (o : AObj) (k : S → Bool) : s.moveK id o k = k (s.move id o) := by cases s; simp only [S.moveK, Tree.setK_eq, forceN_eq]; rfl

def optB {α : Type} (o : Option α) (k : α → Bool) : Bool := match o with | none => false | some x => k x
theorem optB_true {α : Type} {o : Option α} {k : α → Bool} (h : optB o k = true) : ∃ x, o = some x ∧ k x = true := by
  cases o with
  | none => cases h
  | some x => exact ⟨x, rfl, h⟩
def ifB (b k : Bool) : Bool := match b with | true => k | false => false
theorem ifB_true {b k : Bool} (h : ifB b k = true) : b = true ∧ k = true := by cases b <;> simp_all [ifB]
/-- other cells in an object -/
def setCellsK (o : AObj) (l : List AS) (k : AObj → Bool) : Bool := match o with | .cells _ e => k (.cells l e) | .row _ e z => k (.row l e z) | .map _ _ => false | .iter _ _ _ _ => false
abbrev BK := AV → S → Bool

def bStore (n : Nat) (a v : AV) (s : S) (k : BK) : Bool := optB (asPtrA a) fun p => optB (s.get p.1) fun o => optB (cellsOfObj o) fun l => optB (cellsA v) fun xs =>
  ifB (and2 (Nat.beq (llen xs) n) (Nat.ble (Nat.add p.2 n) (llen l))) (lsetK l p.2 xs fun l' => setCellsK o l' fun o' => s.updK p.1 o' fun s => k .undef s)
def esSetK (es : List AEnt) : Nat → AEnt → (List AEnt → Bool) → Bool :=
  List.rec (fun _ _ k => k []) (fun x l ih n e k => Nat.casesOn n (k (e :: l)) fun n => ih n e fun l' => k (x :: l')) es
def esDelK (es : List AEnt) : Nat → (List AEnt → Bool) → Bool :=
  List.rec (fun _ k => k []) (fun x l ih n k => Nat.casesOn n (k l) fun n => ih n fun l' => k (x :: l')) es
def esAddK (es : List AEnt) (e : AEnt) : (List AEnt → Bool) → Bool :=
  List.rec (fun k => k [e]) (fun x _ ih k => ih fun l' => k (x :: l')) es
theorem esSetK_eq (e : AEnt) : ∀ (es : List AEnt) (n : Nat) (k : List AEnt → Bool), esSetK es n e k = k (es.set n e) := by
  intro es
  induction es with
  | nil => intro n k; rfl
  | cons x l ih =>
    intro n k
    cases n with
    | zero => rfl
    | succ n => show esSetK l n e (fun l' => k (x :: l')) = _; rw [ih]; rfl
theorem esDelK_eq : ∀ (es : List AEnt) (n : Nat) (k : List AEnt → Bool), esDelK es n k = k (es.eraseIdx n) := by
  intro es
  induction es with
  | nil => intro n k; rfl
  | cons x l ih =>
    intro n k
    cases n with
    | zero => rfl
    | succ n => show esDelK l n (fun l' => k (x :: l')) = _; rw [ih]; rfl
theorem esAddK_eq (e : AEnt) : ∀ (es : List AEnt) (k : List AEnt → Bool), esAddK es e k = k (es ++ [e]) := by
  intro es
  induction es with
  | nil => intro k; rfl
  | cons x l ih => intro k; show esAddK l e (fun l' => k (x :: l')) = _; rw [ih]; rfl
def asW (v : AV) : Option AW := match v with | .w x => some x | _ => none
theorem asW_spec {v : AV} {x : AW} (h : asW v = some x) : v = .w x := by unfold asW at h; split at h <;> simp_all
def mapOf (o : AObj) : Option (List AEnt × Nat) := match o with | .map es cl => some (es, cl) | _ => none
theorem mapOf_spec {o : AObj} {es : List AEnt} {cl : Nat} (h : mapOf o = some (es, cl)) : o = .map es cl := by unfold mapOf at h; split at h <;> simp_all
def S.phi (s : S) : Phi := match s with | .mk _ _ φ => φ
def bMupd (kt : KT) (m key v : AV) (s : S) (k : BK) : Bool := optB (asMapA m) fun id => optB (s.get id) fun o => optB (mapOf o) fun p => optB (asW key) fun kw => optB (asW v) fun vw =>
  ifB (shapeK kt kw) (optB (findE s.phi kw p.1 0) fun r => match r with
    | some (i, e) => esSetK p.1 i ⟨kw, vw, e.born⟩ fun es => s.updK id (.map es p.2) fun s => k .undef s
    | none => esAddK p.1 ⟨kw, vw, p.2⟩ fun es => s.updK id (.map es (Nat.succ p.2)) fun s => k .undef s)
def bDel (kt : KT) (m key : AV) (s : S) (k : BK) : Bool := optB (asMapA m) fun id => optB (s.get id) fun o => optB (mapOf o) fun p => optB (asW key) fun kw =>
  ifB (shapeK kt kw) (optB (findE s.phi kw p.1 0) fun r => match r with
    | some (i, _) => esDelK p.1 i fun es => s.updK id (.map es p.2) fun s => k (.tup []) s
    | none => k (.tup []) s)

section
variable {P : Program} {T : TyT} {c : Cx} {s : S} {w : World}

theorem setRow_eq_of {w : World} {g : Nat} {cur : Array Value} {e : TypeId} (hg : w.heap[g]? = some (.cells cur e (0, 0))) (cs : Array Value) : (w.setRow g cs).heap[g]? = some (.cells cs e (0, 0)) := setRow_heap w g cur cs e _ hg

/-- a row of cells over a part of an object's cells -/
theorem over_row {id : Nat} {o : AObj} {w : World} (h : ObjRel c id o (w.heap[c.ι id]?)) {l : List AS} (hl : cellsOfObj o = some l) {off : Nat} {xs : List AS} (hfit : off + xs.length ≤ l.length)
    {k : AObj → Bool} (hk : setCellsK o (lset l off xs) k = true) :
    ∃ cur e o', w.heap[c.ι id]? = some (.cells cur e (0, 0)) ∧ off + xs.length ≤ cur.size ∧ k o' = true ∧ (∀ nx, o.wf c nx → (∀ x ∈ xs, x.wf c nx) → o'.wf c nx) ∧
      ObjRel c id o' (some (.cells ((cur.toList.take off ++ xs.map (AS.conc c) ++ cur.toList.drop (off + xs.length)).toArray) e (0, 0))) := by
  rw [lset_eq _ _ _ hfit] at hk
  have hmem : ∀ {nx : Nat}, (∀ x ∈ l, x.wf c nx) → (∀ x ∈ xs, x.wf c nx) → ∀ x ∈ l.take off ++ xs ++ l.drop (off + xs.length), x.wf c nx := by
    intro nx h1 h2 x hx
    simp only [List.mem_append] at hx
    rcases hx with (hx | hx) | hx
    · exact h1 x (List.mem_of_mem_take hx)
    · exact h2 x hx
    · exact h1 x (List.mem_of_mem_drop hx)
  cases o with
  | map es cl => cases hl
  | iter q a l b => cases hl
  | cells m e =>
    simp only [cellsOfObj] at hl; injection hl with hl; subst hl
    simp only [ObjRel] at h
    refine ⟨_, e, _, h, by simpa using hfit, hk, fun nx h1 h2 => hmem h1 h2, ?_⟩
    simp [ObjRel, List.map_take, List.map_drop]
  | row m e z =>
    simp only [cellsOfObj] at hl; injection hl with hl; subst hl
    obtain ⟨cur, h1, h2, h3, h4⟩ := h
    have hlen : m.length ≤ cur.size := by
      have := congrArg List.length h4
      simp at this; omega
    refine ⟨cur, e, _, h1, by omega, hk, fun nx h1 h2 => hmem h1 h2, ?_⟩
    refine ⟨_, rfl, h2, ?_, ?_⟩
    · rw [← h3]; simp; omega
    · have e1 : (m.take off ++ xs ++ m.drop (off + xs.length)).length = m.length := by simp; omega
      rw [e1]
      simp only [List.map_append, List.map_take, List.map_drop, ← h4]
      rw [List.append_assoc, List.append_assoc]
      have hl1 : (cur.toList.take off).length = off := by simp; omega
      have t1 : ∀ (A B C : List Value), A.length = off → B.length = xs.length → (A ++ (B ++ C)).take m.length = A ++ (B ++ C.take (m.length - (off + xs.length))) := by
        intro A B C hA hB
        rw [List.take_append, List.take_append, hA, hB]
        rw [List.take_of_length_le (by omega), List.take_of_length_le (by omega)]
        have : m.length - off - xs.length = m.length - (off + xs.length) := by omega
        rw [this]
      rw [t1 _ _ _ hl1 (by simp)]
      congr 1
      · rw [List.take_take]; congr 1; omega
      · congr 1
        rw [List.drop_take]

theorem store_step {id : Nat} {o o' : AObj} {w : World} (h : Rel c s w) (hid : s.at id = some o) {cur : Array Value} {e : TypeId} (hcur : w.heap[c.ι id]? = some (.cells cur e (0, 0))) (cs : Array Value)
    (hw : o'.wf c s.nx) (ho : ObjRel c id o' (some (.cells cs e (0, 0)))) : Rel c (s.upd id o') (w.setRow (c.ι id) cs) ∧ Step c c s (s.upd id o') w (w.setRow (c.ι id) cs) := by
  have hother : ∀ b, b ≠ c.ι id → (w.setRow (c.ι id) cs).heap[b]? = w.heap[b]? := fun b hb => setRow_other w _ b cs hb
  refine ⟨h.upd hid hw (by rw [setRow_eq_of hcur]; exact ho) hother, Step.upd o' hid rfl rfl rfl (by simp) hother⟩

/-- What comes of an operation that writes. -/
def BOk (P : Program) (c : Cx) (s : S) (w : World) (r : Result Next) (k : BK) : Prop :=
  ∃ c' v s' w', r = .ok (.value (v.conc c')) w' ∧ v.wf c' s'.nx ∧ Step c c' s s' w w' ∧ Rel c' s' w' ∧ k v s' = true

theorem store_sound {t : TypeId} {i : TyA} (hi : TyOk P t i) (h : Rel c s w) {a v : AV} (ha : a.wf c s.nx) (hv : v.wf c s.nx) {k : BK} (hk : bStore i.size a v s k = true) :
    ∃ s' w', (Instr.storeAt t (a.conc c) (v.conc c)).run P w = .ok () w' ∧ Step c c s s' w w' ∧ Rel c s' w' ∧ k .undef s' = true := by
  unfold bStore at hk
  obtain ⟨⟨id, off⟩, h1, hk1⟩ := optB_true hk
  obtain ⟨o, h2, hk2⟩ := optB_true hk1
  obtain ⟨l, h3, hk3⟩ := optB_true hk2
  obtain ⟨xs, h4, hk4⟩ := optB_true hk3
  obtain ⟨h5, hk5⟩ := ifB_true hk4
  clear hk hk1 hk2 hk3 hk4
  obtain ⟨h5, h6⟩ := and2_iff.1 h5
  have h5 := (natBeq_iff _ _).1 h5
  have h6 : off + i.size ≤ llen l := (natBle_iff _ _).1 h6
  rw [llen_eq] at h5 h6
  rw [lsetK_eq] at hk5
  rw [S.get_eq] at h2
  have e := asPtrA_spec h1
  subst e
  have hob := h.obj id o h2
  obtain ⟨cur, e, o', g1, g2, g3, g4, g5⟩ := over_row hob h3 (show off + xs.length ≤ l.length by omega) hk5
  rw [S.updK_eq] at g3
  have hcl := cellsA_spec h4 c s.nx
  have hst := store_step h h2 g1 _ (g4 s.nx (h.wf id o h2) (hcl.2 hv)) g5
  refine ⟨_, _, ?_, hst.2, hst.1, g3⟩
  have hrun := run_storeCells_at P (c.ι id) off e (xs.map (AS.conc c)) 0 cur w g1 (by simpa using g2) (by
    intro u hu
    simp only [List.mem_map] at hu
    obtain ⟨x, _, rfl⟩ := hu
    exact AS.oneCell c x)
  have ea : (AV.w (.s (.ptr id off))).conc c = .pointer (some ⟨c.ι id, off, none⟩) := rfl
  rw [ea]
  simp only [Instr.storeAt, Instr.sureAddr, Sem.run_bind, Sem.run_pure, Result.andThen_ok, storeVar, hcl.1, hi.run_size w]
  rw [if_neg (by simp; omega)]
  simp only [Nat.add_zero, List.length_map] at hrun
  exact hrun
end
end
end Go.Sy

/-! The symbolic executor, part N: maps written, slices appended to and copied. -/
namespace Go.Sy
set_option linter.unusedVariables false
set_option linter.unusedSectionVars false
noncomputable section

section
variable {P : Program} {T : TyT} {c : Cx} {s : S} {w : World}

def setObjW (w : World) (r : Nat) (o : Obj) : World := { w with heap := w.heap.setIfInBounds r o }
theorem setObjW_heap {w : World} {r : Nat} {o : Obj} (h : r < w.heap.size) : (setObjW w r o).heap[r]? = some o := by simp [setObjW, h]
theorem setObjW_other {w : World} {r : Nat} {o : Obj} {b : Nat} (h : b ≠ r) : (setObjW w r o).heap[b]? = w.heap[b]? := by
  simp only [setObjW]; rw [Array.getElem?_setIfInBounds_ne (by omega)]
theorem map_step {id : Nat} {es es' : List AEnt} {cl cl' : Nat} (h : Rel c s w) (hid : s.at id = some (.map es cl)) (hw : (AObj.map es' cl').wf c s.nx) :
    Rel c (s.upd id (.map es' cl')) (setObjW w (c.ι id) (.map (es'.map (AEnt.conc c)).toArray cl')) ∧
    Step c c s (s.upd id (.map es' cl')) w (setObjW w (c.ι id) (.map (es'.map (AEnt.conc c)).toArray cl')) := by
  have hlt := h.ι_lt hid
  have hother : ∀ b, b ≠ c.ι id → (setObjW w (c.ι id) (.map (es'.map (AEnt.conc c)).toArray cl')).heap[b]? = w.heap[b]? := fun b hb => setObjW_other hb
  refine ⟨h.upd hid hw ?_ hother, Step.upd _ hid rfl rfl rfl (by simp [setObjW]) hother⟩
  rw [setObjW_heap hlt]; rfl
theorem run_setObj {r : Nat} {es : Array MapEntry} {cl : Nat} (o : Obj) (h : w.heap[r]? = some (.map es cl)) : (setObj r o).run P w = .ok () (setObjW w r o) := by
  simp [setObj, Sem.run, h, setObjW]
theorem run_getMap {r : Nat} {es : Array MapEntry} {cl : Nat} (h : w.heap[r]? = some (.map es cl)) : (getObj r).run P w = .ok (.map es cl) w := by
  simp [getObj, Sem.run, h]

theorem sameBits_ints {k : IntKind} : ∀ (vs : List Value), IntsV k vs → (vs.zip vs).all (fun (x, y) => Instr.sameBits 9999 x y) = true := by
  intro vs
  induction vs with
  | nil => intro _; rfl
  | cons v vs ih =>
    intro h
    obtain ⟨n, rfl⟩ := h v (by simp)
    simp only [List.zip_cons_cons, List.all_cons, Bool.and_eq_true]
    exact ⟨by simp [Instr.sameBits], ih (fun u hu => h u (by simp [hu]))⟩
theorem allInts_S : ∀ {fs : List (Nat × TypeId × KT1)} {cs : List Value} {cur : Nat}, ShS fs cs cur → ∀ v ∈ cs.drop cur, ∃ k n, v = .int k n := by
  intro fs
  induction fs with
  | nil => intro cs cur h v hv; simp only [ShS] at h; rw [h] at hv; cases hv
  | cons g fs ih =>
    intro cs cur h v hv
    obtain ⟨h1, h2, h3⟩ := h
    rw [← List.take_append_drop (kt1Size g.2.2) (cs.drop cur)] at hv
    rcases List.mem_append.1 hv with hv | hv
    · obtain ⟨n, rfl⟩ := h2.2 v hv; exact ⟨_, n, rfl⟩
    · rw [List.drop_drop] at hv; exact ih h3 v hv
theorem sameBits_all (vs : List Value) (h : ∀ v ∈ vs, ∃ k n, v = .int k n) : (vs.zip vs).all (fun (x, y) => Instr.sameBits 9999 x y) = true := by
  induction vs with
  | nil => rfl
  | cons v vs ih =>
    obtain ⟨k, n, rfl⟩ := h v (by simp)
    simp only [List.zip_cons_cons, List.all_cons, Bool.and_eq_true]
    exact ⟨by simp [Instr.sameBits], ih (fun u hu => h u (by simp [hu]))⟩
theorem sameBits_K {kt : KT} {v : Value} (h : ShK kt v) : Instr.sameBits 10000 v v = true := by
  have agg : ∀ vs : List Value, (∀ v ∈ vs, ∃ k n, v = .int k n) → Instr.sameBits 10000 (.agg vs.toArray) (.agg vs.toArray) = true := by
    intro vs hv
    have := sameBits_all vs hv
    simp only [Instr.sameBits]
    simpa using this
  cases kt with
  | str fs =>
    obtain ⟨vs, rfl, hs⟩ := h
    exact agg vs (fun v hv => allInts_S hs v (by simpa using hv))
  | one x =>
    obtain ⟨vs, rfl, hl, hi⟩ := h
    cases x with
    | int k =>
      match vs, hl with
      | [u], _ => obtain ⟨n, rfl⟩ := hi u (by simp); simp [v1, Instr.sameBits]
    | arr n e k => exact agg vs (fun v hv => by obtain ⟨n, rfl⟩ := hi v hv; exact ⟨_, n, rfl⟩)

theorem asMapA_spec {v : AV} {id : Nat} (h : asMapA v = some id) : v = .w (.s (.map id)) := by unfold asMapA at h; split at h <;> simp_all
theorem modify_set (es : List MapEntry) (j : Nat) (f : MapEntry → MapEntry) {e : MapEntry} (h : es[j]? = some e) : (es.toArray.modify j f) = (es.set j (f e)).toArray := by
  apply Array.ext'
  rw [Array.toList_modify]
  apply List.ext_getElem?
  intro i
  rw [List.getElem?_modify, List.getElem?_set]
  by_cases hi : j = i
  · subst hi
    have hlt : j < es.length := by
      rcases Nat.lt_or_ge j es.length with hh | hh
      · exact hh
      · rw [List.getElem?_eq_none hh] at h; cases h
    have : es[j] = e := by rw [List.getElem?_eq_getElem hlt] at h; injection h
    simp [hlt, this]
  · simp [hi]
theorem map_set_conc (c : Cx) (es : List AEnt) (j : Nat) (e : AEnt) : (es.set j e).map (AEnt.conc c) = (es.map (AEnt.conc c)).set j (e.conc c) := by
  rw [List.map_set]

theorem mupd_sound (hT : TOk P T) {t kty ety : TypeId} {i : TyA} (hi : TyOk P t i) (hd : i.desc = .map kty ety) {kt : KT} (hK : KOk P kty kt) (h : Rel c s w) {m key v : AV}
    (hv : v.wf c s.nx) (hkey : key.wf c s.nx) {k : BK} (hk : bMupd kt m key v s k = true) :
    ∃ s' w', (Instr.mapUpdate t (m.conc c) (key.conc c) (v.conc c)).run P w = .ok () w' ∧ Step c c s s' w w' ∧ Rel c s' w' ∧ k .undef s' = true := by
  unfold bMupd at hk
  obtain ⟨id, h1, hk1⟩ := optB_true hk
  obtain ⟨o, h2, hk2⟩ := optB_true hk1
  obtain ⟨⟨es, cl⟩, h3, hk3⟩ := optB_true hk2
  obtain ⟨kw, h4, hk4⟩ := optB_true hk3
  obtain ⟨vw, h5, hk5⟩ := optB_true hk4
  obtain ⟨h6, hk6⟩ := ifB_true hk5
  obtain ⟨r, h7, hk7⟩ := optB_true hk6
  clear hk hk1 hk2 hk3 hk4 hk5 hk6
  have e1 := asMapA_spec h1
  have e3 := mapOf_spec h3
  have e4 := asW_spec h4
  have e5 := asW_spec h5
  subst e1; subst e3; subst e4; subst e5
  rw [S.get_eq] at h2
  have hphi : s.phi = s.φ := by cases s; rfl
  rw [hphi] at h7
  have hob := h.obj id _ h2
  have hwf := h.wf id _ h2
  simp only [ObjRel] at hob
  have hsh := shapeK_spec h6 c
  have hck : (Instr.checkKey false 10000 kty (kw.conc c)).run P w = .ok () w := checkK w hK hsh false 9997
  obtain ⟨hf1, hf2⟩ := findKey_spec (P := P) h.sat hK h6 w h7
  have ea : (AV.w (.s (.map id))).conc c = .map (some (c.ι id)) := rfl
  have ek : (AV.w kw).conc c = kw.conc c := rfl
  have ev' : (AV.w vw).conc c = vw.conc c := rfl
  rw [ea, ek, ev']
  cases r with
  | none =>
    simp only [esAddK_eq, S.updK_eq] at hk7
    have hw' : (AObj.map (es ++ [⟨kw, vw, cl⟩]) (cl + 1)).wf c s.nx := by
      intro e he
      rcases List.mem_append.1 he with he | he
      · exact hwf e he
      · simp at he; subst he; exact ⟨hkey, hv⟩
    have hst := map_step h h2 hw'
    refine ⟨_, _, ?_, hst.2, hst.1, hk7⟩
    simp only [Option.map_none] at hf1
    simp only [Instr.mapUpdate, Sem.run_bind, hi.run_und w, Result.andThen_ok, hd, run_getMap hob, hck, hf1, run_setObj _ hob]
    congr 2
    simp [AEnt.conc]
  | some p =>
    obtain ⟨j, en⟩ := p
    simp only [esSetK_eq, S.updK_eq] at hk7
    obtain ⟨hj, hkeq⟩ := hf2 j en rfl
    have hw' : (AObj.map (es.set j ⟨kw, vw, en.born⟩) cl).wf c s.nx := by
      intro e he
      rcases List.mem_or_eq_of_mem_set he with he | he
      · exact hwf e he
      · subst he; exact ⟨hkey, hv⟩
    have hst := map_step h h2 hw'
    refine ⟨_, _, ?_, hst.2, hst.1, hk7⟩
    simp only [Option.map_some] at hf1
    have hkk : (((es.map (AEnt.conc c)).toArray[j]?).map (·.key)).getD (kw.conc c) = kw.conc c := by
      simp [hj, AEnt.conc, hkeq]
    have hkeep : (Instr.keyThatStays (kw.conc c) (kw.conc c)).run P w = .ok (kw.conc c) w := by simp [Instr.keyThatStays, sameBits_K hsh]
    simp only [Instr.mapUpdate, Sem.run_bind, hi.run_und w, Result.andThen_ok, hd, run_getMap hob, hck, hf1, hkk, hkeep, run_setObj _ hob]
    congr 2
    have hje : (es.map (AEnt.conc c))[j]? = some (en.conc c) := by simp [hj]
    rw [modify_set _ j _ hje, map_set_conc]
    rfl

theorem del_sound (hT : TOk P T) {t kty ety : TypeId} {i : TyA} (hi : TyOk P t i) (hd : i.desc = .map kty ety) {kt : KT} (hK : KOk P kty kt) (h : Rel c s w) {m key : AV} {rty : TypeId}
    {k : BK} (hk : bDel kt m key s k = true) :
    ∃ s' w', (Builtin.delete_ #[t, kty] rty #[m.conc c, key.conc c]).run P w = .ok (.tuple #[]) w' ∧ Step c c s s' w w' ∧ Rel c s' w' ∧ k (.tup []) s' = true := by
  unfold bDel at hk
  obtain ⟨id, h1, hk1⟩ := optB_true hk
  obtain ⟨o, h2, hk2⟩ := optB_true hk1
  obtain ⟨⟨es, cl⟩, h3, hk3⟩ := optB_true hk2
  obtain ⟨kw, h4, hk4⟩ := optB_true hk3
  obtain ⟨h6, hk6⟩ := ifB_true hk4
  obtain ⟨r, h7, hk7⟩ := optB_true hk6
  clear hk hk1 hk2 hk3 hk4 hk6
  have e1 := asMapA_spec h1
  have e3 := mapOf_spec h3
  have e4 := asW_spec h4
  subst e1; subst e3; subst e4
  rw [S.get_eq] at h2
  have hphi : s.phi = s.φ := by cases s; rfl
  rw [hphi] at h7
  have hob := h.obj id _ h2
  have hwf := h.wf id _ h2
  simp only [ObjRel] at hob
  have hsh := shapeK_spec h6 c
  have hck : ∀ b, (Instr.checkKey b 10000 kty (kw.conc c)).run P w = .ok () w := fun b => checkK w hK hsh b 9997
  obtain ⟨hf1, hf2⟩ := findKey_spec (P := P) h.sat hK h6 w h7
  have ea : (AV.w (.s (.map id))).conc c = .map (some (c.ι id)) := rfl
  have ek : (AV.w kw).conc c = kw.conc c := rfl
  have hers : ∀ j, ((es.map (AEnt.conc c)).eraseIdx j) = (es.eraseIdx j).map (AEnt.conc c) := by
    intro j
    rw [List.eraseIdx_eq_take_drop_succ, List.eraseIdx_eq_take_drop_succ]
    simp [List.map_take, List.map_drop]
  rw [ea, ek]
  cases r with
  | none =>
    simp only at hk7
    have hst := map_step (es' := es) (cl' := cl) h h2 hwf
    have hself : setObjW w (c.ι id) (.map (es.map (AEnt.conc c)).toArray cl) = w := by
      simp only [setObjW]
      have : w.heap.setIfInBounds (c.ι id) (.map (es.map (AEnt.conc c)).toArray cl) = w.heap := by
        apply Array.ext_getElem?
        intro i
        by_cases hi' : i = c.ι id
        · subst hi'; rw [hob]; have := h.ι_lt h2; simp [this]
        · rw [Array.getElem?_setIfInBounds_ne (by omega)]
      rw [this]
    refine ⟨s, w, ?_, Step.refl c s w, h, hk7⟩
    simp only [Option.map_none] at hf1
    have hrs := run_setObj (P := P) (.map (es.map (AEnt.conc c)).toArray cl) hob
    rw [hself] at hrs
    simp [Builtin.delete_, hi.run_und w, hd, run_getMap hob, hck, hf1, hrs]
  | some p =>
    obtain ⟨j, en⟩ := p
    simp only [esDelK_eq, S.updK_eq] at hk7
    have hw' : (AObj.map (es.eraseIdx j) cl).wf c s.nx := fun e he => hwf e (List.mem_of_mem_eraseIdx he)
    have hst := map_step h h2 hw'
    refine ⟨_, _, ?_, hst.2, hst.1, hk7⟩
    simp only [Option.map_some] at hf1
    simp [Builtin.delete_, hi.run_und w, hd, run_getMap hob, hck, hf1, run_setObj _ hob, hers]
end
end
end Go.Sy

