/- The symbolic executor: parts S, T, Ua, Ub, Uc, Ud, Ue. Sound by one theorem (callA_ok). No condition. -/
import Derived.Test.YtnfoaablgldjcaaGreatSy3
set_option linter.unusedVariables false
set_option linter.unusedSimpArgs false
set_option linter.unusedSectionVars false
/-! The symbolic executor, part S: one operation; a row of operations, in order. -/
namespace Go.Sy
set_option linter.unusedVariables false
set_option linter.unusedSectionVars false
noncomputable section

/-! values worked out as far as they go -/
def forceKd {β : Type} (k : IntKind) (f : IntKind → β) : β := match k with
  | .i8 => f .i8 | .i16 => f .i16 | .i32 => f .i32 | .i64 => f .i64
  | .u8 => f .u8 | .u16 => f .u16 | .u32 => f .u32 | .u64 => f .u64
def forceT {β : Type} (t : Tm) (k : Tm → β) : β := match t with
  | .lit n => forceI n fun n => k (.lit n)
  | .var i => k (.var i)
  | .tab l => k (.tab l)
  | .wrap q t => k (.wrap q t)
  | .add a b => k (.add a b)
  | .sub a b => k (.sub a b)
  | .mul a b => k (.mul a b)
  | .div a b => k (.div a b)
  | .mod a b => k (.mod a b)
  | .bits o q a b => k (.bits o q a b)
  | .shr t n => k (.shr t n)
  | .byte t i => k (.byte t i)
  | .cat a b => k (.cat a b)
def forceCap {β : Type} (x : ACap) (k : ACap → β) : β := match x with | .ex n => forceN n fun n => k (.ex n) | .op n => forceN n fun n => k (.op n)
def forceB {β : Type} (b : Bool) (k : Bool → β) : β := match b with | true => k true | false => k false
def forceS {β : Type} (x : AS) (k : AS → β) : β := match x with
  | .int q t => forceKd q fun q => forceT t fun t => k (.int q t)
  | .bool b => forceB b fun b => k (.bool b)
  | .ptr a b => forceN a fun a => forceN b fun b => k (.ptr a b)
  | .nilp => k .nilp
  | .slice a b n c => forceN a fun a => forceN b fun b => forceN n fun n => forceCap c fun c => k (.slice a b n c)
  | .nils => k .nils
  | .map a => forceN a fun a => k (.map a)
  | .nilm => k .nilm
  | .fn f c => k (.fn f c)
  | .nilfn => k .nilfn
  | .iface t => k (.iface t)
  | .niliface => k .niliface
  | .opq i => k (.opq i)
  | .estr => k .estr
def forceL {β : Type} (l : List AS) : (List AS → β) → β := List.rec (fun k => k []) (fun x _ ih k => forceS x fun x => ih fun l => k (x :: l)) l
def forceWs {β : Type} (f : AW → (AW → β) → β) (l : List AW) : (List AW → β) → β := List.rec (fun k => k []) (fun x _ ih k => f x fun x => ih fun l => k (x :: l)) l
def forceW {β : Type} (x : AW) (k : AW → β) : β := match x with | .s x => forceS x fun x => k (.s x) | .agg l => forceL l fun l => k (.agg l)
def forceV {β : Type} (x : AV) (k : AV → β) : β := match x with
  | .w x => forceW x fun x => k (.w x)
  | .str l => k (.str l)
  | .tup l => forceWs forceW l fun l => k (.tup l)
  | .undef => k .undef
def forceO {β : Type} (x : AObj) (k : AObj → β) : β := match x with
  | .cells l e => forceL l fun l => k (.cells l e)
  | .row l e z => forceL l fun l => k (.row l e z)
  | .map es c => k (.map es c)
  | .iter m a l b => k (.iter m a l b)
theorem forceKd_eq {β : Type} (q : IntKind) (k : IntKind → β) : forceKd q k = k q := by cases q <;> rfl
theorem forceT_eq {β : Type} (t : Tm) (k : Tm → β) : forceT t k = k t := by cases t <;> simp [forceT, forceI_eq]
theorem forceCap_eq {β : Type} (x : ACap) (k : ACap → β) : forceCap x k = k x := by cases x <;> simp [forceCap, forceN_eq]
theorem forceB_eq {β : Type} (b : Bool) (k : Bool → β) : forceB b k = k b := by cases b <;> rfl
theorem forceS_eq {β : Type} (x : AS) (k : AS → β) : forceS x k = k x := by cases x <;> simp [forceS, forceN_eq, forceKd_eq, forceT_eq, forceCap_eq, forceB_eq]
theorem forceL_eq {β : Type} : ∀ (l : List AS) (k : List AS → β), forceL l k = k l := by
  intro l
  induction l with
  | nil => intro k; rfl
  | cons x l ih => intro k; show forceS x (fun x => forceL l fun l => k (x :: l)) = _; rw [forceS_eq, ih]
theorem forceW_eq {β : Type} (x : AW) (k : AW → β) : forceW x k = k x := by cases x <;> simp [forceW, forceS_eq, forceL_eq]
theorem forceWs_eq {β : Type} : ∀ (l : List AW) (k : List AW → β), forceWs forceW l k = k l := by
  intro l
  induction l with
  | nil => intro k; rfl
  | cons x l ih => intro k; show forceW x (fun x => forceWs forceW l fun l => k (x :: l)) = _; rw [forceW_eq, ih]
theorem forceV_eq {β : Type} (x : AV) (k : AV → β) : forceV x k = k x := by cases x <;> simp [forceV, forceW_eq, forceWs_eq]
theorem forceO_eq {β : Type} (x : AObj) (k : AObj → β) : forceO x k = k x := by cases x <;> simp [forceO, forceL_eq]

/-! how a call ends, and how a piece of code -/
inductive Ret where
  | val (v : AV)
  | panic (v : AV)
inductive Ex where
  | normal
  | exit (id : Nat)
  | ret
  | panic (v : AV)
abbrev KC := Ret → S → Bool
abbrev KX := Ex → Tmps → S → Bool
abbrev CallF := Nat → List AV → S → KC → Bool

def putK (dst : Option Nat) (v : AV) (t : Tmps) (k : Tmps → Bool) : Bool := match dst with | none => k t | some d => forceV v fun v => t.setK (some v) (Nat.succ d) k
def putA (dst : Option Nat) (v : AV) (t : Tmps) : Tmps := match dst with | none => t | some d => t.set (some v) (Nat.succ d)
theorem putK_eq (dst : Option Nat) (v : AV) (t : Tmps) (k : Tmps → Bool) : putK dst v t k = k (putA dst v t) := by
  cases dst with
  | none => rfl
  | some d => simp only [putK, forceV_eq, Tree.setK_eq]; rfl

def asFnA (v : AV) : Option (Nat × List (Nat × Nat)) := match v with | .w (.s (.fn f c)) => some (f, c) | _ => none
def capV (p : Nat × Nat) : AV := .w (.s (.ptr p.1 p.2))
def asIfA (v : AV) : Option Nat := match v with | .w (.s (.iface t)) => some t | _ => none
def callK (r : Ret) (s : S) (kn kp : AV → S → Bool) : Bool := match r with | .val v => kn v s | .panic v => kp v s
def stepB (call : CallF) (o : BOp) (t : Tmps) (s : S) (kn kp : AV → S → Bool) : Bool := match o with
  | .call f args => optB (evL t args) fun l => call f l s fun r s => callK r s kn kp
  | .callv x args => optB (ev t x) fun v => optB (asFnA v) fun p => optB (evL t args) fun l => call p.1 (lapp l (lmap capV p.2)) s fun r s => callK r s kn kp
  | .panic x => optB (ev t x) fun v => optB (asIfA v) fun _ => kp v s
  | .store n a v => bPlain (.store n a v) t s kn
  | .mupd kt m key v => bPlain (.mupd kt m key v) t s kn
  | .del kt m key => bPlain (.del kt m key) t s kn
  | .append e z b x y => bPlain (.append e z b x y) t s kn
  | .appendz e z b zero x n => bPlain (.appendz e z b zero x n) t s kn
  | .copy z d x => bPlain (.copy z d x) t s kn
  | .cmp o g x y => bPlain (.cmp o g x y) t s kn
  | .mm mx x y => bPlain (.mm mx x y) t s kn
  | .range x => bPlain (.range x) t s kn
  | .next x => bPlain (.next x) t s kn
  | .entry x => bPlain (.entry x) t s kn
def stepOp (call : CallF) (o : AOp) (t : Tmps) (s : S) (kn kp : AV → S → Bool) : Bool := match o with
  | .p o => (match s with | .mk h nx φ => optB (pureOp φ t o) fun v => kn v ⟨h, nx, φ⟩)
  | .r o => optB (readOp t s o) fun v => kn v s
  | .m o => (match s with | .mk h nx φ => optB (makeOp t nx o) fun p => forceO p.1 fun ob => S.newK ⟨h, nx, φ⟩ ob fun s => kn p.2 s)
  | .b o => stepB call o t s kn kp

def compOp (T : TyT) (o : Op) : Option AOp := match compP T o with
  | some p => some (.p p)
  | none => (match compR T o with
    | some r => some (.r r)
    | none => (match compM T o with
      | some m => some (.m m)
      | none => (match compB T o with
        | some b => some (.b b)
        | none => some (.p .stuck))))

/-- What a call comes to: an entry, and what it ends in; or an answer at once. -/
def CallRuns (P : Program) (f : Nat) (args : Array Value) (w : World) (R : Ending → World → Prop) : Prop :=
  ((callFunc f args).run P w = .ok (.enter f args) w ∧ Calls P f args w R) ∨ ∃ v w', (callFunc f args).run P w = .ok (.value v) w' ∧ R (.returned v) w'
def CPost (c : Cx) (s : S) (w : World) (k : KC) : Ending → World → Prop
  | .returned u, w' => ∃ c' v s', u = v.conc c' ∧ v.wf c' s'.nx ∧ Step c c' s s' w w' ∧ Rel c' s' w' ∧ k (.val v) s' = true
  | .panicked chain, w' => ∃ c' v s', chain = [{ v := v.conc c', recovered := false }] ∧ v.wf c' s'.nx ∧ Step c c' s s' w w' ∧ Rel c' s' w' ∧ k (.panic v) s' = true
  | .outgrown, _ => False
def CallOk (P : Program) (call : CallF) : Prop := ∀ (f : Nat) (args : List AV) (s : S) (k : KC), call f args s k = true → ∀ (c : Cx) (w : World), Rel c s w → (∀ v ∈ args, v.wf c s.nx) →
  CallRuns P f (args.map (AV.conc c)).toArray w (CPost c s w k)

section
variable {P : Program} {T : TyT} {c : Cx} {t : Tmps} {a : Act} {s : S} {w : World} {call : CallF}

theorem asFnA_spec {v : AV} {p : Nat × List (Nat × Nat)} (h : asFnA v = some p) : v = .w (.s (.fn p.1 p.2)) := by
  unfold asFnA at h
  split at h <;> try (simp at h; done)
  injection h with h; subst h; rfl
theorem asIfA_spec {v : AV} {p : Nat} (h : asIfA v = some p) : v = .w (.s (.iface p)) := by
  unfold asIfA at h
  split at h <;> try (simp at h; done)
  injection h with h; subst h; rfl

/-- What an operation comes to: what follows, with its answer; or a panic. -/
structure StepQ (P : Program) (c : Cx) (s : S) (w : World) (kn kp : AV → S → Bool) (o : Oper) (a : Act) (next : Act → World → Prop) (Q : Exit → Act → World → Prop) : Prop where
  hn : ∀ c' v s' w', v.wf c' s'.nx → Step c c' s s' w w' → Rel c' s' w' → kn v s' = true → next (a.put o.dst (v.conc c')) w'
  hp : ∀ c' v s' w', v.wf c' s'.nx → Step c c' s s' w w' → Rel c' s' w' → kp v s' = true → Q (.panic [{ v := v.conc c', recovered := false }]) a w'

theorem call_upon {o : Oper} {next : Act → World → Prop} {Q : Exit → Act → World → Prop} {kn kp : AV → S → Bool} (hq : StepQ P c s w kn kp o a next Q) {f : Nat} {args : Array Value}
    (hr : CallRuns P f args w (CPost c s w fun r s => callK r s kn kp)) (he : (execOp a.eval o).run P w = (callFunc f args).run P w) : o.upon P a next Q ((execOp a.eval o).run P w) := by
  rw [he]
  rcases hr with ⟨h1, h2⟩ | ⟨v, w', h1, h2⟩
  · rw [h1, Oper.upon_enter]
    refine Calls.mono h2 fun e w' h => ?_
    cases e with
    | returned u =>
      obtain ⟨c', v, s', e1, e2, e3, e4, e5⟩ := h
      subst e1
      exact hq.hn c' v s' w' e2 e3 e4 e5
    | panicked ch =>
      obtain ⟨c', v, s', e1, e2, e3, e4, e5⟩ := h
      subst e1
      exact hq.hp c' v s' w' e2 e3 e4 e5
    | outgrown => exact h.elim
  · rw [h1, Oper.upon_value]
    obtain ⟨c', v', s', e1, e2, e3, e4, e5⟩ := h2
    subst e1
    exact hq.hn c' v' s' w' e2 e3 e4 e5

theorem plain_upon {o : Oper} {next : Act → World → Prop} {Q : Exit → Act → World → Prop} {kn kp : AV → S → Bool} (hq : StepQ P c s w kn kp o a next Q)
    (hb : BOk2 P c s w ((execOp a.eval o).run P w) kn) : o.upon P a next Q ((execOp a.eval o).run P w) := by
  obtain ⟨c', v, s', w', r, r2, r3, r4, r5⟩ := hb
  rcases r with r | ⟨rfl, r⟩
  · rw [r, Oper.upon_value]; exact hq.hn c' v s' w' r2 r3 r4 r5
  · rw [r, Oper.upon_skip]; exact hq.hn c' .undef s' w' r2 r3 r4 r5

theorem compB_call {T : TyT} {o : Op} {f : Nat} {args : List AX} (h : compB T o = some (.call f args)) :
    ∃ cl, o = .call cl ∧ cl.callee = .value (.func f) ∧ embList cl.args.toList = some args := by
  unfold compB at h
  split at h <;> (repeat' split at h) <;> simp_all
theorem compB_callv {T : TyT} {o : Op} {x : AX} {args : List AX} (h : compB T o = some (.callv x args)) :
    ∃ cl n, o = .call cl ∧ cl.callee = .value (.tmp n) ∧ x = .t n ∧ embList cl.args.toList = some args := by
  unfold compB at h
  split at h <;> (repeat' split at h) <;> simp_all
theorem compB_panic {T : TyT} {o : Op} {x : AX} (h : compB T o = some (.panic x)) : ∃ y, o = .panic y ∧ embO y = some x := by
  unfold compB at h
  split at h <;> (repeat' split at h) <;> simp_all
theorem caps_spec {caps : List (Nat × Nat)} {nx : Nat} (hcap : ∀ p ∈ caps, p.1 < nx) : (lmap capV caps).map (AV.conc c) = caps.map (capPtr c) ∧ ∀ v ∈ lmap capV caps, v.wf c nx := by
  rw [lmap_eq]
  refine ⟨by simp [capV, capPtr, AV.conc, AW.conc, AS.conc], ?_⟩
  intro v hv
  obtain ⟨p, hp, rfl⟩ := List.mem_map.1 hv
  exact hcap p hp

theorem stepB_sound (hT : TOk P T) (hcall : CallOk P call) {o : Oper} {bo : BOp} (hc : compB T o.op = some bo) (hr : TRel c s.nx t a.tmps) (h : Rel c s w) {kn kp : AV → S → Bool}
    (hk : stepB call bo t s kn kp = true) {next : Act → World → Prop} {Q : Exit → Act → World → Prop} (hq : StepQ P c s w kn kp o a next Q) :
    o.upon P a next Q ((execOp a.eval o).run P w) := by
  cases bo with
  | call f args =>
    obtain ⟨vs, h1, hk1⟩ := optB_true (show optB (evL t args) _ = true from hk)
    obtain ⟨cl, hop, hcal, harg⟩ := compB_call hc
    obtain ⟨e1, e2⟩ := embList_spec hr harg h1
    refine call_upon hq (hcall f vs s _ hk1 c w h e2) ?_
    obtain ⟨dst, op, ty, pos, af, g⟩ := o
    have hop : op = _ := hop
    subst hop
    have ea : cl.args.map a.eval = (vs.map (AV.conc c)).toArray := by
      apply Array.ext'; rw [Array.toList_map, e1]
    simp [execOp, resolve, hcal, Deferred.ofValue, Act.eval, invoke, ea]
  | callv x args =>
    obtain ⟨u, h0, hk0⟩ := optB_true (show optB (ev t x) _ = true from hk)
    obtain ⟨p, h00, hk00⟩ := optB_true hk0
    obtain ⟨vs, h1, hk1⟩ := optB_true hk00
    obtain ⟨cl, n, hop, hcal, hx, harg⟩ := compB_callv hc
    subst hx
    have e := asFnA_spec h00
    subst e
    have e0 := ev_spec hr (o := .tmp n) rfl h0
    obtain ⟨e1, e2⟩ := embList_spec hr harg h1
    obtain ⟨e3, e4⟩ := caps_spec (c := c) (nx := s.nx) (caps := p.2) e0.2
    refine call_upon hq (hcall p.1 _ s _ hk1 c w h ?_) ?_
    · rw [lapp_eq]
      intro v hv
      rcases List.mem_append.1 hv with hv | hv
      · exact e2 v hv
      · exact e4 v hv
    · obtain ⟨dst, op, ty, pos, af, g⟩ := o
      have hop : op = _ := hop
      subst hop
      have ea : cl.args.map a.eval = (vs.map (AV.conc c)).toArray := by
        apply Array.ext'; rw [Array.toList_map, e1]
      have e5 : a.eval (.tmp n) = .func (.func p.1) #[] (p.2.map (capPtr c)).toArray := e0.1
      rw [lapp_eq, List.map_append, e3]
      simp [execOp, resolve, hcal, Deferred.ofValue, e5, invoke, ea]
  | panic x =>
    obtain ⟨u, h0, hk0⟩ := optB_true (show optB (ev t x) _ = true from hk)
    obtain ⟨p, h00, hk00⟩ := optB_true hk0
    have e := asIfA_spec h00
    subst e
    obtain ⟨y, hop, hy⟩ := compB_panic hc
    have e0 := ev_spec hr hy h0
    obtain ⟨dst, op, ty, pos, af, g⟩ := o
    have hop : op = _ := hop
    subst hop
    have e1 : a.eval y = .iface p (.agg #[]) := e0.1
    have : (execOp a.eval ⟨dst, .panic y, ty, pos, af, g⟩).run P w = .halt (.panic (.iface p (.agg #[]))) w := by
      simp [execOp, e1, Instr.panic]
    rw [this, Oper.upon_panic]
    exact hq.hp c (.w (.s (.iface p))) s w trivial (Step.refl c s w) h hk00
  | store n x y => exact plain_upon hq (plain_sound hT hc hr h hk)
  | mupd q m x y => exact plain_upon hq (plain_sound hT hc hr h hk)
  | del q m x => exact plain_upon hq (plain_sound hT hc hr h hk)
  | append e z b x y => exact plain_upon hq (plain_sound hT hc hr h hk)
  | appendz e z b zero x y => exact plain_upon hq (plain_sound hT hc hr h hk)
  | copy z x y => exact plain_upon hq (plain_sound hT hc hr h hk)
  | cmp o' g x y => exact plain_upon hq (plain_sound hT hc hr h hk)
  | mm mx x y => exact plain_upon hq (plain_sound hT hc hr h hk)
  | range x => exact plain_upon hq (plain_sound hT hc hr h hk)
  | next x => exact plain_upon hq (plain_sound hT hc hr h hk)
  | entry x => exact plain_upon hq (plain_sound hT hc hr h hk)

theorem step_sound (hT : TOk P T) (hcall : CallOk P call) {o : Oper} {ao : AOp} (hc : compOp T o.op = some ao) (hr : TRel c s.nx t a.tmps) (h : Rel c s w) {kn kp : AV → S → Bool}
    (hk : stepOp call ao t s kn kp = true) {next : Act → World → Prop} {Q : Exit → Act → World → Prop} (hq : StepQ P c s w kn kp o a next Q) :
    o.upon P a next Q ((execOp a.eval o).run P w) := by
  unfold compOp at hc
  split at hc
  · rename_i p hp
    injection hc with hc; subst hc
    obtain ⟨hh, nx, φ⟩ := s
    obtain ⟨v, h1, hk1⟩ := optB_true (show optB (pureOp φ t p) _ = true from hk)
    obtain ⟨e1, e2⟩ := pure_sound hT hp hr h.sat h1
    rw [show Sem.run P (execOp a.eval o) w = .ok (.value (v.conc c)) w from e1 w, Oper.upon_value]
    exact hq.hn c v _ w e2 (Step.refl c _ w) h hk1
  · split at hc
    · rename_i p hp
      injection hc with hc; subst hc
      obtain ⟨v, h1, hk1⟩ := optB_true (show optB (readOp t s p) _ = true from hk)
      obtain ⟨e1, e2⟩ := read_sound hT hp hr h.view h1
      rw [e1, Oper.upon_value]
      exact hq.hn c v s w e2 (Step.refl c s w) h hk1
    · split at hc
      · rename_i p hp
        injection hc with hc; subst hc
        obtain ⟨hh, nx, φ⟩ := s
        obtain ⟨⟨ob, v⟩, h1, hk1⟩ := optB_true (show optB (makeOp t nx p) _ = true from hk)
        rw [forceO_eq, S.newK_eq] at hk1
        obtain ⟨obj, e1, e2, e3, e4⟩ := make_sound (s := ⟨hh, nx, φ⟩) (w := w) hT hp hr h1
        rw [e1, Oper.upon_value]
        exact hq.hn _ v _ _ e2 (Step.new ob obj 0) (Rel.new h e3 e4) hk1
      · split at hc
        · rename_i p hp
          injection hc with hc; subst hc
          exact stepB_sound hT hcall hp hr h hk hq
        · injection hc with hc; subst hc
          obtain ⟨hh, nx, φ⟩ := s
          cases hk
end
end
end Go.Sy

/-! The symbolic executor, part T: what an operation looks at; regions that are drawn, as data, and their run. -/
namespace Go.Sy
set_option linter.unusedVariables false
set_option linter.unusedSectionVars false
noncomputable section

/-! the slots that an operation looks at -/
def uX (x : AX) (l : List Nat) : List Nat := match x with | .t n => n :: l | .c _ => l
def uO (x : Option AX) (l : List Nat) : List Nat := match x with | none => l | some x => uX x l
def uL (xs : List AX) : List Nat := List.rec [] (fun x _ ih => uX x ih) xs
def uP (ps : List (Nat × Nat × AX)) : List Nat := List.rec [] (fun p _ ih => uX p.2.2 ih) ps
theorem uL_cons (x : AX) (l : List AX) : uL (x :: l) = uX x (uL l) := rfl
theorem uP_cons (p : Nat × Nat × AX) (l : List (Nat × Nat × AX)) : uP (p :: l) = uX p.2.2 (uP l) := rfl
def usesP (o : POp) : List Nat := match o with
  | .mv x => uX x []
  | .pick c a b => uX c (uX a (uX b []))
  | .build _ ps => uP ps
  | .nilCheck x => uX x []
  | .ar _ x y => uX x (uX y [])
  | .dv x y => uX x (uX y [])
  | .md x y => uX x (uX y [])
  | .bt _ x y => uX x (uX y [])
  | .shl x y => uX x (uX y [])
  | .sr x y => uX x (uX y [])
  | .not x => uX x []
  | .conv _ x => uX x []
  | .mkiface _ x => uX x []
  | .mkfunc _ cs => uL cs
  | .slice _ x lo hi => uX x (uO lo (uO hi []))
  | .aslice _ _ x lo hi => uX x (uO lo (uO hi []))
  | .faddr _ x => uX x []
  | .field _ _ x => uX x []
  | .iaddrS _ x i => uX x (uX i [])
  | .iaddrA _ _ x i => uX x (uX i [])
  | .index _ _ _ x i => uX x (uX i [])
  | .ext x _ => uX x []
  | .len x => uX x []
  | .tassert _ _ x => uX x []
  | .s2a _ x => uX x []
  | .slice3 x hi mx => uX x (uX hi (uX mx []))
  | .sidx _ i => uX i []
  | .stuck => []
def usesR (o : ROp) : List Nat := match o with
  | .load _ a => uX a []
  | .lookup _ _ x k _ => uX x (uX k [])
  | .mlen x => uX x []
  | .cstr x => uX x []
def usesM (o : MOp) : List Nat := match o with
  | .alloc _ _ => []
  | .box _ x => uX x []
  | .bslice _ _ _ ps => uP ps
  | .mkmap => []
  | .mkslice _ _ _ n c => uX n (uX c [])
def usesB (o : BOp) : List Nat := match o with
  | .store _ a v => uX a (uX v [])
  | .mupd _ m k v => uX m (uX k (uX v []))
  | .del _ m k => uX m (uX k [])
  | .append _ _ _ x y => uX x (uX y [])
  | .appendz _ _ _ _ x n => uX x (uX n [])
  | .copy _ d x => uX d (uX x [])
  | .call _ args => uL args
  | .callv x args => uX x (uL args)
  | .panic x => uX x []
  | .cmp _ _ x y => uX x (uX y [])
  | .mm _ x y => uX x (uX y [])
  | .range x => uX x []
  | .next x => uX x []
  | .entry x => uX x []
def uses (o : AOp) : List Nat := match o with | .p o => usesP o | .r o => usesR o | .m o => usesM o | .b o => usesB o

/-- two rows of slots agree at some -/
def Agree (t t' : Tmps) (l : List Nat) : Prop := ∀ n ∈ l, t.get (Nat.succ n) = t'.get (Nat.succ n)
section
variable {t t' : Tmps}
theorem agX {x : AX} {l : List Nat} (h : Agree t t' (uX x l)) : ev t x = ev t' x ∧ Agree t t' l := by
  cases x with
  | t n => exact ⟨h n (List.mem_cons_self ..), fun m hm => h m (List.mem_cons_of_mem _ hm)⟩
  | c v => exact ⟨rfl, h⟩
theorem agO {x : Option AX} {l : List Nat} (h : Agree t t' (uO x l)) (d : Nat) : bound t x d = bound t' x d ∧ Agree t t' l := by
  cases x with
  | none => exact ⟨rfl, h⟩
  | some x => obtain ⟨h1, h2⟩ := agX (show Agree t t' (uX x l) from h); exact ⟨by simp only [bound, h1], h2⟩
theorem agL : ∀ {l : List AX}, Agree t t' (uL l) → evL t l = evL t' l := by
  intro l
  induction l with
  | nil => intro h; rfl
  | cons x l ih =>
    intro h
    rw [uL_cons] at h
    obtain ⟨h1, h2⟩ := agX h
    rw [evL_cons, evL_cons, h1, ih h2]
theorem agP : ∀ {ps : List (Nat × Nat × AX)}, Agree t t' (uP ps) → fillA t ps = fillA t' ps := by
  intro ps
  induction ps with
  | nil => intro h; rfl
  | cons p ps ih =>
    intro h
    rw [uP_cons] at h
    obtain ⟨h1, h2⟩ := agX h
    funext l
    rw [fillA_cons, fillA_cons, h1, ih h2]
theorem pureOp_congr {φ : Phi} {o : POp} (h : Agree t t' (usesP o)) : pureOp φ t o = pureOp φ t' o := by
  cases o with
  | mv x => exact (agX h).1
  | pick c a b => obtain ⟨h1, h⟩ := agX h; obtain ⟨h2, h⟩ := agX h; obtain ⟨h3, h⟩ := agX h; simp only [pureOp, opPick, h1, h2, h3]
  | build z ps => simp only [pureOp, opBuild, agP h]
  | nilCheck x => simp only [pureOp, opNil, (agX h).1]
  | ar o x y => obtain ⟨h1, h⟩ := agX h; obtain ⟨h2, h⟩ := agX h; simp only [pureOp, opAr, int2, h1, h2]
  | dv x y => obtain ⟨h1, h⟩ := agX h; obtain ⟨h2, h⟩ := agX h; simp only [pureOp, opDv, int2, h1, h2]
  | md x y => obtain ⟨h1, h⟩ := agX h; obtain ⟨h2, h⟩ := agX h; simp only [pureOp, opMd, int2, h1, h2]
  | bt o x y => obtain ⟨h1, h⟩ := agX h; obtain ⟨h2, h⟩ := agX h; simp only [pureOp, opBt, int2, h1, h2]
  | shl x y => obtain ⟨h1, h⟩ := agX h; obtain ⟨h2, h⟩ := agX h; simp only [pureOp, opShl, h1, h2]
  | sr x y => obtain ⟨h1, h⟩ := agX h; obtain ⟨h2, h⟩ := agX h; simp only [pureOp, opShr, h1, h2]
  | not x => simp only [pureOp, opNot, (agX h).1]
  | conv k x => simp only [pureOp, opConv, (agX h).1]
  | mkiface ty x => simp only [pureOp, opMkif, (agX h).1]
  | mkfunc f cs => simp only [pureOp, opMkfn, agL h]
  | slice z x lo hi =>
    obtain ⟨h1, h⟩ := agX h
    have h2 := fun d => (agO h d).1
    have h := (agO h 0).2
    have h3 := fun d => (agO h d).1
    simp only [pureOp, opSlice, h1, h2, h3]
  | aslice n z x lo hi =>
    obtain ⟨h1, h⟩ := agX h
    have h2 := fun d => (agO h d).1
    have h := (agO h 0).2
    have h3 := fun d => (agO h d).1
    simp only [pureOp, opASlice, h1, h2, h3]
  | faddr off x => simp only [pureOp, opFaddr, (agX h).1]
  | field n off x => simp only [pureOp, opField, (agX h).1]
  | iaddrS z x i => obtain ⟨h1, h⟩ := agX h; obtain ⟨h2, h⟩ := agX h; simp only [pureOp, opIaddrS, h1, h2]
  | iaddrA len z x i => obtain ⟨h1, h⟩ := agX h; obtain ⟨h2, h⟩ := agX h; simp only [pureOp, opIaddrA, h1, h2]
  | index n len z x i => obtain ⟨h1, h⟩ := agX h; obtain ⟨h2, h⟩ := agX h; simp only [pureOp, opIndex, h1, h2]
  | ext x i => simp only [pureOp, opExt, (agX h).1]
  | len x => simp only [pureOp, opLen, (agX h).1]
  | tassert ty z x => simp only [pureOp, opTass, (agX h).1]
  | s2a n x => simp only [pureOp, opS2a, (agX h).1]
  | slice3 x hi mx => obtain ⟨h1, h⟩ := agX h; obtain ⟨h2, h⟩ := agX h; obtain ⟨h3, h⟩ := agX h; simp only [pureOp, opSlice3, h1, h2, h3]
  | sidx l i => simp only [pureOp, opSidx, (agX h).1]
  | stuck => rfl
theorem readOp_congr {s : S} {o : ROp} (h : Agree t t' (usesR o)) : readOp t s o = readOp t' s o := by
  cases o with
  | load n a => simp only [readOp, opLoad, (agX h).1]
  | lookup kt z x k ok => obtain ⟨h1, h⟩ := agX h; obtain ⟨h2, h⟩ := agX h; simp only [readOp, opLook, h1, h2]
  | mlen x => simp only [readOp, opMlen, (agX h).1]
  | cstr x => simp only [readOp, opCstr, (agX h).1]
theorem makeOp_congr {nx : Nat} {o : MOp} (h : Agree t t' (usesM o)) : makeOp t nx o = makeOp t' nx o := by
  cases o with
  | alloc e z => rfl
  | box e x => simp only [makeOp, (agX h).1]
  | bslice e n z ps => simp only [makeOp, agP h]
  | mkmap => rfl
  | mkslice e b z n c => obtain ⟨h1, h⟩ := agX h; obtain ⟨h2, h⟩ := agX h; simp only [makeOp, h1, h2]
theorem stepB_congr {call : CallF} {s : S} {kn kp : AV → S → Bool} {o : BOp} (h : Agree t t' (usesB o)) : stepB call o t s kn kp = stepB call o t' s kn kp := by
  cases o with
  | store n a v => obtain ⟨h1, h⟩ := agX h; obtain ⟨h2, h⟩ := agX h; simp only [stepB, bPlain, h1, h2]
  | mupd kt m k v => obtain ⟨h1, h⟩ := agX h; obtain ⟨h2, h⟩ := agX h; obtain ⟨h3, h⟩ := agX h; simp only [stepB, bPlain, h1, h2, h3]
  | del kt m k => obtain ⟨h1, h⟩ := agX h; obtain ⟨h2, h⟩ := agX h; simp only [stepB, bPlain, h1, h2]
  | append e z b x y => obtain ⟨h1, h⟩ := agX h; obtain ⟨h2, h⟩ := agX h; simp only [stepB, bPlain, h1, h2]
  | appendz e z b zero x y => obtain ⟨h1, h⟩ := agX h; obtain ⟨h2, h⟩ := agX h; simp only [stepB, bPlain, h1, h2]
  | copy z d x => obtain ⟨h1, h⟩ := agX h; obtain ⟨h2, h⟩ := agX h; simp only [stepB, bPlain, h1, h2]
  | call f args => simp only [stepB, agL h]
  | callv x args => obtain ⟨h1, h⟩ := agX h; simp only [stepB, h1, agL h]
  | panic x => simp only [stepB, (agX h).1]
  | cmp o g x y => obtain ⟨h1, h⟩ := agX h; obtain ⟨h2, h⟩ := agX h; simp only [stepB, bPlain, h1, h2]
  | mm mx x y => obtain ⟨h1, h⟩ := agX h; obtain ⟨h2, h⟩ := agX h; simp only [stepB, bPlain, h1, h2]
  | range x => obtain ⟨h1, h⟩ := agX h; simp only [stepB, bPlain, h1]
  | next x => obtain ⟨h1, h⟩ := agX h; simp only [stepB, bPlain, h1]
  | entry x => obtain ⟨h1, h⟩ := agX h; simp only [stepB, bPlain, h1]
end

/-! the blocks that values name -/
def inS (p : Nat → Bool) (x : AS) : Bool := match x with
  | .ptr id _ => p id
  | .slice id _ _ _ => p id
  | .map id => p id
  | .fn _ caps => lall (fun c => p c.1) caps
  | _ => true
def inW (p : Nat → Bool) (x : AW) : Bool := match x with | .s x => inS p x | .agg l => lall (inS p) l
def inV (p : Nat → Bool) (x : AV) : Bool := match x with | .w x => inW p x | .tup l => lall (inW p) l | _ => true
def inE (p : Nat → Bool) (e : AEnt) : Bool := and2 (inW p e.key) (inW p e.val)
def inO (p : Nat → Bool) (o : AObj) : Bool := match o with | .cells l _ => lall (inS p) l | .row l _ _ => lall (inS p) l | .map es _ => lall (inE p) es | .iter m _ _ _ => (match m with | none => true | some i => p i)

/-! the same value, as text -/
def capSame (x y : ACap) : Bool := match x with
  | .ex n => (match y with | .ex m => Nat.beq n m | _ => false)
  | .op n => (match y with | .op m => Nat.beq n m | _ => false)
def eqLs {α : Type} (f : α → α → Bool) (l : List α) : List α → Bool :=
  List.rec (fun m => List.casesOn m true fun _ _ => false) (fun x _ ih m => List.casesOn m false fun y m => match f x y with | true => ih m | false => false) l
theorem eqLs_spec {α : Type} {f : α → α → Bool} (hf : ∀ x y, f x y = true → x = y) : ∀ {l m : List α}, eqLs f l m = true → l = m := by
  intro l
  induction l with
  | nil => intro m h; cases m with | nil => rfl | cons y m => cases h
  | cons x l ih =>
    intro m h
    cases m with
    | nil => cases h
    | cons y m =>
      have h : (match f x y with | true => eqLs f l m | false => false) = true := h
      cases hx : f x y with
      | false => rw [hx] at h; cases h
      | true => rw [hx] at h; rw [hf x y hx, ih h]
def prEq (x y : Nat × Nat) : Bool := and2 (Nat.beq x.1 y.1) (Nat.beq x.2 y.2)
def sEq (x y : AS) : Bool := match x with
  | .int k t => (match y with | .int k' t' => and2 (kindEq k k') (Tm.beq t t') | _ => false)
  | .bool b => (match y with | .bool b' => boolEq b b' | _ => false)
  | .ptr a b => (match y with | .ptr a' b' => and2 (Nat.beq a a') (Nat.beq b b') | _ => false)
  | .nilp => (match y with | .nilp => true | _ => false)
  | .slice a b n c => (match y with | .slice a' b' n' c' => and2 (and2 (Nat.beq a a') (Nat.beq b b')) (and2 (Nat.beq n n') (capSame c c')) | _ => false)
  | .nils => (match y with | .nils => true | _ => false)
  | .map a => (match y with | .map a' => Nat.beq a a' | _ => false)
  | .nilm => (match y with | .nilm => true | _ => false)
  | .fn f c => (match y with | .fn f' c' => and2 (Nat.beq f f') (eqLs prEq c c') | _ => false)
  | .nilfn => (match y with | .nilfn => true | _ => false)
  | .iface a => (match y with | .iface a' => Nat.beq a a' | _ => false)
  | .niliface => (match y with | .niliface => true | _ => false)
  | .opq a => (match y with | .opq a' => Nat.beq a a' | _ => false)
  | .estr => (match y with | .estr => true | _ => false)
def wEq (x y : AW) : Bool := match x with
  | .s x => (match y with | .s y => sEq x y | _ => false)
  | .agg l => (match y with | .agg m => eqLs sEq l m | _ => false)
def vEq (x y : AV) : Bool := match x with
  | .w x => (match y with | .w y => wEq x y | _ => false)
  | .str l => (match y with | .str m => eqLs Tm.beq l m | _ => false)
  | .tup l => (match y with | .tup m => eqLs wEq l m | _ => false)
  | .undef => (match y with | .undef => true | _ => false)
theorem capSame_spec {x y : ACap} (h : capSame x y = true) : x = y := by
  cases x <;> cases y <;> simp only [capSame, Bool.false_eq_true] at h <;> rw [(natBeq_iff _ _).1 h]
theorem prEq_spec (x y : Nat × Nat) (h : prEq x y = true) : x = y := by
  obtain ⟨h1, h2⟩ := and2_iff.1 h
  exact Prod.ext ((natBeq_iff _ _).1 h1) ((natBeq_iff _ _).1 h2)
theorem sEq_spec (x y : AS) (h : sEq x y = true) : x = y := by
  cases x <;> cases y <;> simp only [sEq, Bool.false_eq_true] at h <;> first
    | rfl
    | (obtain ⟨h1, h2⟩ := and2_iff.1 h; rw [kindEq_eq h1, Tm.beq_eq _ _ h2])
    | (rw [boolEq_eq h])
    | (obtain ⟨h1, h2⟩ := and2_iff.1 h; rw [(natBeq_iff _ _).1 h1, (natBeq_iff _ _).1 h2])
    | (obtain ⟨h1, h2⟩ := and2_iff.1 h; obtain ⟨h3, h4⟩ := and2_iff.1 h1; obtain ⟨h5, h6⟩ := and2_iff.1 h2; rw [(natBeq_iff _ _).1 h3, (natBeq_iff _ _).1 h4, (natBeq_iff _ _).1 h5, capSame_spec h6])
    | (rw [(natBeq_iff _ _).1 h])
    | (obtain ⟨h1, h2⟩ := and2_iff.1 h; rw [(natBeq_iff _ _).1 h1, eqLs_spec prEq_spec h2])
theorem wEq_spec (x y : AW) (h : wEq x y = true) : x = y := by
  cases x <;> cases y <;> simp only [wEq, Bool.false_eq_true] at h
  · rw [sEq_spec _ _ h]
  · rw [eqLs_spec sEq_spec h]
theorem vEq_spec (x y : AV) (h : vEq x y = true) : x = y := by
  cases x <;> cases y <;> simp only [vEq, Bool.false_eq_true] at h
  · rw [wEq_spec _ _ h]
  · rw [eqLs_spec (fun _ _ h => Tm.beq_eq _ _ h) h]
  · rw [eqLs_spec wEq_spec h]
  · rfl

/-! a drawn region: its operations in a fixed order, and who must come ahead of whom -/
structure DIt where
  i : Nat
  op : AOper
  anc : Nat
  off : Nat
structure PM where
  i : Nat
  id : Nat
  ob : AObj
/-- what was read; out of the state, or out of blocks that were made ahead -/
structure PR where
  i : Nat
  o : ROp
  t : Tmps
  v : AV
  l : List PM
def extT (l : List PM) : Tree AObj := List.rec .leaf (fun p _ ih => ih.set (some p.ob) (Nat.succ p.id)) l
def findP (id anc : Nat) (l : List PM) : List PM := List.rec [] (fun p _ ih => match and2 (Nat.beq p.id id) (Nat.testBit anc p.i) with | true => [p] | false => ih) l
theorem extT_cons (p : PM) (l : List PM) : extT (p :: l) = (extT l).set (some p.ob) (Nat.succ p.id) := rfl
theorem findP_cons (id anc : Nat) (p : PM) (l : List PM) : findP id anc (p :: l) = match and2 (Nat.beq p.id id) (Nat.testBit anc p.i) with | true => [p] | false => findP id anc l := rfl
theorem findP_spec {id anc : Nat} : ∀ {l : List PM}, ∀ p ∈ findP id anc l, p ∈ l ∧ Nat.testBit anc p.i = true := by
  intro l
  induction l with
  | nil => intro p hp; cases hp
  | cons q l ih =>
    intro p hp
    rw [findP_cons] at hp
    split at hp
    · rename_i h
      have e := List.mem_singleton.1 hp
      subst e
      exact ⟨List.mem_cons_self .., (and2_iff.1 h).2⟩
    · exact ⟨List.mem_cons_of_mem _ (ih p hp).1, (ih p hp).2⟩
def extS (l : List PM) : S := ⟨extT l, 0, ⟨[true, true, true, true, true, true, true, true, true, true, true, true, true, true, true, true], .leaf, []⟩⟩
def rdOf (l : List PM) (s : S) : S := match l with
  | [] => s
  | p :: l => extS (p :: l)
/-- the block that is read, where it is one that was made ahead -/
def pendOf (t : Tmps) (o : ROp) (anc : Nat) (pm : List PM) : List PM := match o with
  | .load _ a => (match ev t a with
    | none => []
    | some v => (match asPtrA v with
      | none => []
      | some q => findP q.1 anc pm))
  | _ => []
theorem pendOf_spec {t : Tmps} {o : ROp} {anc : Nat} {pm : List PM} : ∀ p ∈ pendOf t o anc pm, p ∈ pm ∧ Nat.testBit anc p.i = true := by
  intro p hp
  unfold pendOf at hp
  split at hp <;> try (cases hp; done)
  split at hp <;> try (cases hp; done)
  split at hp <;> try (cases hp; done)
  exact findP_spec p hp

/-- what a guard's slot says; an operation that was passed over says no -/
def guardA (v : AV) (want : Bool) : Option Bool := match v with
  | .undef => some false
  | v => optP (asBoolA v) none fun b => some (boolEq b want)
theorem guardA_spec {v : AV} {want b : Bool} (h : guardA v want = some b) : (∃ x, v = .w (.s (.bool x)) ∧ b = boolEq x want) ∨ (v = .undef ∧ b = false) := by
  cases v with
  | undef => right; injection h with h; exact ⟨rfl, h.symm⟩
  | w x =>
    left
    cases x with
    | agg l => cases h
    | s y => cases y <;> first | (cases h; done) | (injection h with h; exact ⟨_, rfl, h.symm⟩)
  | str l => cases h
  | tup l => cases h
def guardE (g : Option (Nat × Bool)) (t : Tmps) (k : Bool → Bool) : Bool := match g with
  | none => k true
  | some p => optB (t.get (Nat.succ p.1)) fun v => optB (guardA v p.2) k
def lanyM (f : PM → Bool) (l : List PM) : Bool := List.rec false (fun x _ ih => match f x with | true => true | false => ih) l
theorem lanyM_iff (f : PM → Bool) (l : List PM) : lanyM f l = true ↔ ∃ x ∈ l, f x = true := by
  induction l with
  | nil => constructor <;> intro h <;> simp_all [lanyM]
  | cons x l ih =>
    have : lanyM f (x :: l) = match f x with | true => true | false => lanyM f l := rfl
    rw [this]
    cases hx : f x <;> simp [hx, ih]
/-- an old block, or one that a forerunner makes -/
def okId (nx anc : Nat) (pm : List PM) (id : Nat) : Bool := match Nat.ble (Nat.succ id) nx with
  | true => true
  | false => lanyM (fun p => and2 (Nat.beq p.id id) (Nat.testBit anc p.i)) pm
def okId1 (nx anc me : Nat) (pm : List PM) (id : Nat) : Bool := match okId nx anc pm id with | true => true | false => Nat.beq id me
def S.newAtK (s : S) (id : Nat) (o : AObj) (k : S → Bool) : Bool := match s with
  | .mk h nx φ => ifB (Nat.ble nx id) (ifB (inO (fun i => Nat.ble i id) o) (h.setK (some o) (Nat.succ id) fun h => forceN (Nat.add id 1) fun nx => k ⟨h, nx, φ⟩))
def S.newAt (s : S) (id : Nat) (o : AObj) : S := ⟨s.h.set (some o) (Nat.succ id), Nat.succ id, s.φ⟩
theorem S.newAtK_eq (s : S) (id : Nat) (o : AObj) (k : S → Bool) : s.newAtK id o k = ifB (Nat.ble s.nx id) (ifB (inO (fun i => Nat.ble i id) o) (k (s.newAt id o))) := by
  cases s; simp only [S.newAtK, Tree.setK_eq, forceN_eq]; rfl
def taken (anc : Option Nat) (i : Nat) : Bool := match anc with | none => true | some a => Nat.testBit a i
def adoptK (anc : Option Nat) (pm : List PM) : S → (List PM → S → Bool) → Bool :=
  List.rec (fun s k => k [] s) (fun p _ ih s k => match taken anc p.i with
    | true => s.newAtK p.id p.ob fun s => ih s k
    | false => ih s fun l s => k (p :: l) s) pm
def recheck (anc : Nat) (s : S) (pr : List PR) : (List PR → Bool) → Bool :=
  List.rec (fun k => k []) (fun x _ ih k => match Nat.testBit anc x.i with
    | true => ih k
    | false => optB (readOp x.t (rdOf x.l s) x.o) fun v => ifB (and2 (vEq v x.v) (lall (fun p => bnot (Nat.testBit anc p.i)) x.l)) (ih fun l => k (x :: l))) pr
theorem adoptK_nil (anc : Option Nat) (s : S) (k : List PM → S → Bool) : adoptK anc [] s k = k [] s := rfl
theorem adoptK_cons (anc : Option Nat) (p : PM) (pm : List PM) (s : S) (k : List PM → S → Bool) : adoptK anc (p :: pm) s k = match taken anc p.i with
    | true => s.newAtK p.id p.ob fun s => adoptK anc pm s k
    | false => adoptK anc pm s fun l s => k (p :: l) s := rfl
theorem recheck_nil (anc : Nat) (s : S) (k : List PR → Bool) : recheck anc s [] k = k [] := rfl
theorem recheck_cons (anc : Nat) (s : S) (x : PR) (pr : List PR) (k : List PR → Bool) : recheck anc s (x :: pr) k = match Nat.testBit anc x.i with
    | true => recheck anc s pr k
    | false => optB (readOp x.t (rdOf x.l s) x.o) fun v => ifB (and2 (vEq v x.v) (lall (fun p => bnot (Nat.testBit anc p.i)) x.l)) (recheck anc s pr fun l => k (x :: l)) := rfl
def slotIn (nx : Nat) (t : Tmps) (n : Nat) : Bool := match t.get (Nat.succ n) with | none => true | some v => inV (fun id => Nat.ble (Nat.succ id) nx) v
abbrev KD := Tmps → S → List PR → List PM → Bool
def drawP (o : POp) (dst : Option Nat) (anc : Nat) (t : Tmps) (s : S) (pr : List PR) (pm : List PM) (ih : KD) : Bool := match s with
  | .mk h nx φ => optB (pureOp φ t o) fun v => ifB (inV (okId nx anc pm) v) (putK dst v t fun t => ih t ⟨h, nx, φ⟩ pr pm)
def drawRl (l : List PM) (i : Nat) (o : ROp) (dst : Option Nat) (anc : Nat) (t : Tmps) (s : S) (pr : List PR) (pm : List PM) (ih : KD) : Bool := match s with
  | .mk h nx φ => optB (readOp t (rdOf l ⟨h, nx, φ⟩) o) fun v => ifB (inV (okId nx anc pm) v) (forceV v fun v => putK dst v t fun t' => ih t' ⟨h, nx, φ⟩ (⟨i, o, t, v, l⟩ :: pr) pm)
def drawR (i : Nat) (o : ROp) (dst : Option Nat) (anc : Nat) (t : Tmps) (s : S) (pr : List PR) (pm : List PM) (ih : KD) : Bool := match pendOf t o anc pm with
  | [] => drawRl [] i o dst anc t s pr pm ih
  | p :: l => drawRl (p :: l) i o dst anc t s pr pm ih
theorem drawR_eq (i : Nat) (o : ROp) (dst : Option Nat) (anc : Nat) (t : Tmps) (s : S) (pr : List PR) (pm : List PM) (ih : KD) : drawR i o dst anc t s pr pm ih = drawRl (pendOf t o anc pm) i o dst anc t s pr pm ih := by
  unfold drawR
  split <;> rename_i h <;> rw [h]
def drawM (i : Nat) (id : Nat) (o : MOp) (dst : Option Nat) (anc : Nat) (t : Tmps) (s : S) (pr : List PR) (pm : List PM) (ih : KD) : Bool := match s with
  | .mk h nx φ => ifB (and2 (Nat.ble nx id) (lall (fun p => bnot (Nat.beq p.id id)) pm)) (optB (makeOp t id o) fun x => ifB (and2 (lall (slotIn id t) (usesM o)) (and2 (inV (okId1 nx anc id pm) x.2) (inO (okId nx anc pm) x.1)))
      (forceO x.1 fun ob => putK dst x.2 t fun t => ih t ⟨h, nx, φ⟩ pr (lapp pm [⟨i, id, ob⟩])))
def drawB (call : CallF) (o : BOp) (dst : Option Nat) (anc : Nat) (t : Tmps) (s : S) (pr : List PR) (pm : List PM) (k : KX) (ih : KD) : Bool :=
  adoptK (some anc) pm s fun pm s => ifB (lall (slotIn s.nx t) (usesB o)) (stepB call o t s
    (fun v s => recheck anc s pr fun pr => ifB (lall (fun p => Nat.ble s.nx p.id) pm) (putK dst v t fun t => ih t s pr pm))
    (fun v s => k (.panic v) .leaf s))
def drawI (call : CallF) (base : Nat) (it : DIt) (t : Tmps) (s : S) (pr : List PR) (pm : List PM) (k : KX) (ih : KD) : Bool := match it with
  | .mk i op anc off => match op with
    | .mk dst o g => guardE g t fun b => match b with
      | false => putK dst .undef t fun t => ih t s pr pm
      | true => (match o with
        | .p o => drawP o dst anc t s pr pm ih
        | .r o => drawR i o dst anc t s pr pm ih
        | .m o => forceN (Nat.add base off) fun id => drawM i id o dst anc t s pr pm ih
        | .b o => drawB call o dst anc t s pr pm k ih)
def drawL (call : CallF) (base : Nat) (k : KX) (l : List DIt) : KD :=
  List.rec (fun t s _ pm => adoptK none pm s fun _ s => k .normal t s) (fun it _ ih t s pr pm => drawI call base it t s pr pm k ih) l
theorem drawL_nil (call : CallF) (base : Nat) (k : KX) (t : Tmps) (s : S) (pr : List PR) (pm : List PM) : drawL call base k [] t s pr pm = adoptK none pm s fun _ s => k .normal t s := rfl
theorem drawL_cons (call : CallF) (base : Nat) (k : KX) (it : DIt) (l : List DIt) (t : Tmps) (s : S) (pr : List PR) (pm : List PM) :
    drawL call base k (it :: l) t s pr pm = drawI call base it t s pr pm k (drawL call base k l) := rfl
def drawE (call : CallF) (l : List DIt) (t : Tmps) (s : S) (k : KX) : Bool := match s with | .mk h nx φ => drawL call nx k l t ⟨h, nx, φ⟩ [] []

/-! from a region to its data -/
def compOper (T : TyT) (ops : Array Oper) (n : Nat) (o : Oper) : Option AOper :=
  match compOp T o.op with
  | none => none
  | some ao =>
    match (match o.dst with | none => true | some d => Nat.ble (Nat.succ d) n) with
    | false => none
    | true => (match o.guard with
      | none => some ⟨o.dst, ao, none⟩
      | some (j, want) => (match (ops[j]?).bind (·.dst) with
        | none => none
        | some d => some ⟨o.dst, ao, some (d, want)⟩))
def findI : List DIt → Nat → Option DIt
  | [], _ => none
  | x :: l, i => match Nat.beq x.i i with | true => some x | false => findI l i
def ancE (prev : List DIt) : List Edge → Nat → Option Nat
  | [], m => some m
  | e :: l, m => match Region.binds .any e with
    | false => ancE prev l m
    | true => (match findI prev e.on with | none => none | some x => ancE prev l (m ||| (2 ^ e.on) ||| x.anc))
def AOper.uses (o : AOper) : List Nat := match o.guard with | none => Sy.uses o.op | some p => p.1 :: Sy.uses o.op
def memN : List Nat → Nat → Bool
  | [], _ => false
  | x :: l, n => match Nat.beq x n with | true => true | false => memN l n
def isB (o : AOp) : Bool := match o with | .b _ => true | _ => false
def touches (x y : AOper) : Bool := match x.dst with | none => false | some d => memN y.uses d
def sameDst (x y : AOper) : Bool := match x.dst, y.dst with | some d, some e => Nat.beq d e | _, _ => false
def okPair (x y : DIt) : Bool := !(Nat.beq x.i y.i) && !(sameDst x.op y.op) && (Nat.testBit y.anc x.i || (!(touches x.op y.op) && !(touches y.op x.op) && !(isB x.op.op)))
def compDit (T : TyT) (ops : Array Oper) (n : Nat) (prev : List DIt) (i off : Nat) : Option DIt := match ops[i]? with
  | none => none
  | some o => (match compOper T ops n o with
    | none => none
    | some ao => (match ancE prev o.after.toList 0 with
      | none => none
      | some anc => (match prev.all fun x => okPair x ⟨i, ao, anc, off⟩ with | true => some ⟨i, ao, anc, off⟩ | false => none)))
def compDl (T : TyT) (ops : Array Oper) (n : Nat) : List DIt → List (Nat × Nat) → Option (List DIt)
  | _, [] => some []
  | prev, p :: l => match compDit T ops n prev p.1 p.2 with
    | none => none
    | some y => (match compDl T ops n (prev ++ [y]) l with | none => none | some r => some (y :: r))
def coverD (n : Nat) (l : List DIt) : Bool := (List.range n).all fun j => (findI l j).isSome
def compD (T : TyT) (ops : Array Oper) (n : Nat) (plan : List (Nat × Nat)) : Option (List DIt) := match Nat.beq plan.length ops.size with
  | false => none
  | true => (match compDl T ops n [] plan with
    | none => none
    | some l => (match coverD ops.size l with | true => some l | false => none))
end
end Go.Sy

/-! The symbolic executor, part Ua: the blocks that values name; other readings of names. -/
namespace Go.Sy
set_option linter.unusedVariables false
set_option linter.unusedSectionVars false
noncomputable section

def InS (p : Nat → Prop) : AS → Prop
  | .ptr id _ => p id
  | .slice id _ _ _ => p id
  | .map id => p id
  | .fn _ caps => ∀ x ∈ caps, p x.1
  | _ => True
def InW (p : Nat → Prop) : AW → Prop
  | .s x => InS p x
  | .agg l => ∀ x ∈ l, InS p x
def InV (p : Nat → Prop) : AV → Prop
  | .w x => InW p x
  | .tup l => ∀ x ∈ l, InW p x
  | _ => True
def InO (p : Nat → Prop) : AObj → Prop
  | .cells l _ => ∀ x ∈ l, InS p x
  | .row l _ _ => ∀ x ∈ l, InS p x
  | .map es _ => ∀ e ∈ es, InW p e.key ∧ InW p e.val
  | .iter m _ _ _ => ∀ i, m = some i → p i
/-- two readings agree on some names -/
structure On (p : Nat → Prop) (c c' : Cx) : Prop where
  σ : c'.σ = c.σ
  at_ : ∀ id, p id → c'.ι id = c.ι id ∧ c'.κ id = c.κ id

section
variable {p q : Nat → Prop} {c c' : Cx} {f : Nat → Bool}
theorem inS_spec {x : AS} (h : inS f x = true) : InS (fun id => f id = true) x := by
  cases x with
  | fn g caps => exact (lall_iff _ _).1 h
  | _ => first | exact h | trivial
theorem inW_spec {x : AW} (h : inW f x = true) : InW (fun id => f id = true) x := by
  cases x with
  | s x => exact inS_spec h
  | agg l => exact fun x hx => inS_spec ((lall_iff _ _).1 h x hx)
theorem inV_spec {x : AV} (h : inV f x = true) : InV (fun id => f id = true) x := by
  cases x with
  | w x => exact inW_spec h
  | tup l => exact fun x hx => inW_spec ((lall_iff _ _).1 h x hx)
  | _ => trivial
theorem inO_spec {x : AObj} (h : inO f x = true) : InO (fun id => f id = true) x := by
  cases x with
  | cells l e => exact fun x hx => inS_spec ((lall_iff _ _).1 h x hx)
  | row l e z => exact fun x hx => inS_spec ((lall_iff _ _).1 h x hx)
  | map es cl =>
    intro e he
    obtain ⟨h1, h2⟩ := and2_iff.1 ((lall_iff _ _).1 h e he)
    exact ⟨inW_spec h1, inW_spec h2⟩
  | iter m a l b =>
    intro i hi
    subst hi
    exact h
theorem InS.mono (hm : ∀ id, p id → q id) {x : AS} (h : InS p x) : InS q x := by
  cases x with
  | fn g caps => exact fun y hy => hm _ (h y hy)
  | ptr a b => exact hm _ h
  | slice a b n cp => exact hm _ h
  | map a => exact hm _ h
  | _ => trivial
theorem InW.mono (hm : ∀ id, p id → q id) {x : AW} (h : InW p x) : InW q x := by
  cases x with
  | s x => exact InS.mono hm h
  | agg l => exact fun x hx => InS.mono hm (h x hx)
theorem InV.mono (hm : ∀ id, p id → q id) {x : AV} (h : InV p x) : InV q x := by
  cases x with
  | w x => exact InW.mono hm h
  | tup l => exact fun x hx => InW.mono hm (h x hx)
  | _ => trivial
theorem InO.mono (hm : ∀ id, p id → q id) {x : AObj} (h : InO p x) : InO q x := by
  cases x with
  | cells l e => exact fun x hx => InS.mono hm (h x hx)
  | row l e z => exact fun x hx => InS.mono hm (h x hx)
  | map es cl => exact fun e he => ⟨InW.mono hm (h e he).1, InW.mono hm (h e he).2⟩
  | iter m a l b => exact fun i hi => hm _ (h i hi)

variable {nx N : Nat}
theorem AS.wf.names {x : AS} (h : x.wf c nx) : InS (fun id => id < nx) x := by
  cases x with
  | slice a b n cp => exact h.1
  | _ => first | exact h | trivial
theorem AW.wf.names {x : AW} (h : x.wf c nx) : InW (fun id => id < nx) x := by
  cases x with
  | s x => exact AS.wf.names h
  | agg l => exact fun x hx => AS.wf.names (h x hx)
theorem AV.wf.names {x : AV} (h : x.wf c nx) : InV (fun id => id < nx) x := by
  cases x with
  | w x => exact AW.wf.names h
  | tup l => exact fun x hx => AW.wf.names (h x hx)
  | _ => trivial
theorem InS.wf {x : AS} (h : InS (fun id => id < nx) x) (hw : x.wf c N) : x.wf c nx := by
  cases x with
  | slice a b n cp => exact ⟨h, hw.2⟩
  | _ => first | exact h | trivial
theorem InW.wf {x : AW} (h : InW (fun id => id < nx) x) (hw : x.wf c N) : x.wf c nx := by
  cases x with
  | s x => exact InS.wf h hw
  | agg l => exact fun x hx => InS.wf (h x hx) (hw x hx)
theorem InV.wf {x : AV} (h : InV (fun id => id < nx) x) (hw : x.wf c N) : x.wf c nx := by
  cases x with
  | w x => exact InW.wf h hw
  | tup l => exact fun x hx => InW.wf (h x hx) (hw x hx)
  | _ => trivial
theorem InO.wf {x : AObj} (h : InO (fun id => id < nx) x) (hw : x.wf c N) : x.wf c nx := by
  cases x with
  | cells l e => exact fun x hx => InS.wf (h x hx) (hw x hx)
  | row l e z => exact fun x hx => InS.wf (h x hx) (hw x hx)
  | map es cl => exact fun e he => ⟨InW.wf (h e he).1 (hw e he).1, InW.wf (h e he).2 (hw e he).2⟩
  | iter m a l b => exact h

theorem On.cap (ho : On p c c') {id : Nat} (hi : p id) (x : ACap) : x.conc c' id = x.conc c id := by
  cases x <;> simp [ACap.conc, (ho.at_ id hi).2]
theorem On.s (ho : On p c c') {x : AS} (h : InS p x) : x.conc c' = x.conc c := by
  cases x with
  | int k t => simp [AS.conc, ho.σ]
  | ptr a b => simp only [AS.conc]; rw [(ho.at_ a h).1]
  | slice a b n cp => simp only [AS.conc]; rw [(ho.at_ a h).1, ho.cap h]
  | map a => simp only [AS.conc]; rw [(ho.at_ a h).1]
  | fn g caps =>
    have : caps.map (capPtr c') = caps.map (capPtr c) := List.map_congr_left fun y hy => by simp [capPtr, (ho.at_ y.1 (h y hy)).1]
    simp [AS.conc, this]
  | opq i => simp [AS.conc, ho.σ]
  | _ => rfl
theorem On.l (ho : On p c c') {l : List AS} (h : ∀ x ∈ l, InS p x) : l.map (AS.conc c') = l.map (AS.conc c) := List.map_congr_left fun x hx => ho.s (h x hx)
theorem On.w (ho : On p c c') {x : AW} (h : InW p x) : x.conc c' = x.conc c := by
  cases x with
  | s x => exact ho.s h
  | agg l => simp only [AW.conc]; rw [ho.l h]
theorem On.v (ho : On p c c') {x : AV} (h : InV p x) : x.conc c' = x.conc c := by
  cases x with
  | w x => exact ho.w h
  | str l => simp [AV.conc, ho.σ]
  | tup l =>
    simp only [AV.conc]
    rw [List.map_congr_left fun x hx => ho.w (h x hx)]
  | undef => rfl
theorem On.s_wf (ho : On p c c') {x : AS} (h : InS p x) (hw : x.wf c N) : x.wf c' N := by
  cases x with
  | slice a b n cp =>
    refine ⟨hw.1, ?_⟩
    have h2 := hw.2
    have hk := (ho.at_ a h).2
    cases cp with
    | ex m => exact h2
    | op m => simp only [ACap.wf] at h2 ⊢; rw [hk]; exact h2
  | _ => exact hw
theorem On.w_wf (ho : On p c c') {x : AW} (h : InW p x) (hw : x.wf c N) : x.wf c' N := by
  cases x with
  | s x => exact ho.s_wf h hw
  | agg l => exact fun x hx => ho.s_wf (h x hx) (hw x hx)
theorem On.v_wf (ho : On p c c') {x : AV} (h : InV p x) (hw : x.wf c N) : x.wf c' N := by
  cases x with
  | w x => exact ho.w_wf h hw
  | tup l => exact fun x hx => ho.w_wf (h x hx) (hw x hx)
  | _ => trivial
theorem On.o_wf (ho : On p c c') {x : AObj} (h : InO p x) (hw : x.wf c N) : x.wf c' N := by
  cases x with
  | cells l e => exact fun x hx => ho.s_wf (h x hx) (hw x hx)
  | row l e z => exact fun x hx => ho.s_wf (h x hx) (hw x hx)
  | map es cl => exact fun e he => ⟨ho.w_wf (h e he).1 (hw e he).1, ho.w_wf (h e he).2 (hw e he).2⟩
  | iter m a l b => exact hw
theorem On.obj (ho : On p c c') {id : Nat} (hi : p id) {x : AObj} (h : InO p x) {ob : Option Obj} (hr : ObjRel c id x ob) : ObjRel c' id x ob := by
  cases x with
  | cells l e => simp only [ObjRel] at hr ⊢; rw [ho.l h]; exact hr
  | row l e z =>
    obtain ⟨cur, h1, h2, h3, h4⟩ := hr
    have hk := (ho.at_ id hi).2
    exact ⟨cur, h1, by rw [hk]; exact h2, by rw [hk]; exact h3, by rw [ho.l h]; exact h4⟩
  | map es cl =>
    simp only [ObjRel] at hr ⊢
    rw [List.map_congr_left fun e he => (show AEnt.conc c' e = AEnt.conc c e by simp only [AEnt.conc, ho.w (h e he).1, ho.w (h e he).2])]
    exact hr
  | iter m a l b =>
    simp only [ObjRel] at hr ⊢
    cases m with
    | none => exact hr
    | some i => simp only [Option.map_some, (ho.at_ i (h i rfl)).1] at hr ⊢; exact hr
theorem On.mono (ho : On p c c') (hm : ∀ id, q id → p id) : On q c c' := ⟨ho.σ, fun id h => ho.at_ id (hm id h)⟩
theorem On.ext (ho : On (fun id => id < nx) c c') : Cx.Ext nx c c' := ⟨ho.σ, fun id h => (ho.at_ id h).1, fun id h => (ho.at_ id h).2⟩
theorem Cx.Ext.on (he : Cx.Ext nx c c') : On (fun id => id < nx) c c' := ⟨he.σ, fun id h => ⟨he.ι id h, he.κ id h⟩⟩
theorem AV.wf_mono {x : AV} (h : x.wf c nx) (hle : nx ≤ N) : x.wf c N := AV.wf_ext (Cx.Ext.refl nx c) hle h
theorem AObj.wf_mono {x : AObj} (h : x.wf c nx) (hle : nx ≤ N) : x.wf c N := AObj.wf_ext (Cx.Ext.refl nx c) hle h

/-- a state stands for a world, also if names that it does not know read differently -/
theorem Rel.ext {s : S} {w : World} (h : Rel c s w) (he : Cx.Ext s.nx c c') : Rel c' s w := by
  refine ⟨by rw [he.σ]; exact h.sat, h.lt, fun id o ho => AObj.wf_ext he (Nat.le_refl _) (h.wf id o ho), ?_, ?_⟩
  · intro id o ho
    rw [he.ι id (h.lt id o ho)]
    exact ObjRel.ext he (h.lt id o ho) (h.wf id o ho) (h.obj id o ho)
  · intro id id' o o' h1 h2 e
    rw [he.ι id (h.lt id o h1), he.ι id' (h.lt id' o' h2)] at e
    exact h.inj id id' o o' h1 h2 e
theorem S.at_newAt (s : S) (id : Nat) (o : AObj) (i : Nat) : (s.newAt id o).at i = if i = id then some o else s.at i := by
  simp only [S.at, S.newAt]
  rw [Tree.get_set _ _ _ _ (by omega) (by omega)]
  simp
/-- a block that was made ahead of its time is taken up -/
theorem Rel.newAt {s : S} {w : World} (h : Rel c s w) {id : Nat} {o : AObj} (hid : s.nx ≤ id) (hw : o.wf c (id + 1)) (ho : ObjRel c id o (w.heap[c.ι id]?))
    (hne : ∀ i x, s.at i = some x → c.ι i ≠ c.ι id) : Rel c (s.newAt id o) w := by
  refine ⟨h.sat, ?_, ?_, ?_, ?_⟩
  · intro i x hx
    rw [S.at_newAt] at hx
    show i < id + 1
    split at hx
    · omega
    · have := h.lt i x hx; omega
  · intro i x hx
    rw [S.at_newAt] at hx
    show x.wf c (id + 1)
    split at hx
    · injection hx with e; subst e; exact hw
    · exact AObj.wf_mono (h.wf i x hx) (by omega)
  · intro i x hx
    rw [S.at_newAt] at hx
    split at hx
    · rename_i e; subst e; injection hx with e; subst e; exact ho
    · exact h.obj i x hx
  · intro i j x y hx hy e
    rw [S.at_newAt] at hx hy
    split at hx <;> split at hy
    · omega
    · rename_i e1 _; subst e1; exact absurd e.symm (hne j y hy)
    · rename_i _ e1; subst e1; exact absurd e (hne i x hx)
    · exact h.inj i j x y hx hy e
theorem Step.newAt {c0 : Cx} {s0 s : S} {w0 w : World} (h : Step c0 c s0 s w0 w) {id : Nat} (o : AObj) (hid : s.nx ≤ id) (hb : w0.heap.size ≤ c.ι id) : Step c0 c s0 (s.newAt id o) w0 w := by
  refine ⟨h.ext, Nat.le_trans h.nx (by show s.nx ≤ id + 1; omega), h.os, h.tape, h.output, h.size, h.frame, ?_⟩
  intro i x hx
  rw [S.at_newAt] at hx
  split at hx
  · rename_i e; subst e; exact .inl hb
  · exact h.anew i x hx
/-- a block that no name of the state stands for is made -/
theorem Rel.early {s : S} {w : World} (h : Rel c s w) {id : Nat} (hid : s.nx ≤ id) (ob : Obj) : Rel (c.set2 id w.heap.size 0) s (w.alloc ob) := by
  have he : Cx.Ext s.nx c (c.set2 id w.heap.size 0) := ⟨rfl, fun i h => by simp [Cx.set2]; omega, fun i h => by simp [Cx.set2]; omega⟩
  have h' := h.ext he
  refine ⟨h'.sat, h'.lt, h'.wf, ?_, h'.inj⟩
  intro i o ho
  have hlt := h.ι_lt ho
  have e := he.ι i (h.lt i o ho)
  rw [e, heap_alloc_old w ob hlt]
  have := h'.obj i o ho
  rw [e] at this
  exact this
theorem Step.early {c0 : Cx} {s0 s : S} {w0 w : World} (h : Step c0 c s0 s w0 w) (hr : Rel c s w) {id : Nat} (hid : s.nx ≤ id) (ob : Obj) : Step c0 (c.set2 id w.heap.size 0) s0 s w0 (w.alloc ob) := by
  have he : Cx.Ext s.nx c (c.set2 id w.heap.size 0) := ⟨rfl, fun i h => by simp [Cx.set2]; omega, fun i h => by simp [Cx.set2]; omega⟩
  refine ⟨h.ext.trans he h.nx, h.nx, h.os, h.tape, h.output, Nat.le_trans h.size (by simp), ?_, ?_⟩
  · intro b hb hnot
    rw [heap_alloc_old w ob (Nat.lt_of_lt_of_le hb h.size)]
    exact h.frame b hb hnot
  · intro i o ho
    rw [he.ι i (hr.lt i o ho)]
    exact h.anew i o ho
end
end
end Go.Sy

/-! The symbolic executor, part Ub: what a drawn region's data say of its operations. -/
namespace Go.Sy
set_option linter.unusedVariables false
set_option linter.unusedSectionVars false

structure PlanOk (T : TyT) (ops : Array Oper) (n : Nat) (plan : List DIt) : Prop where
  op : ∀ y ∈ plan, ∃ o, ops[y.i]? = some o ∧ compOper T ops n o = some y.op
  pair : plan.Pairwise fun x y => okPair x y = true
  anc : ∀ y ∈ plan, ∀ o, ops[y.i]? = some o → ∀ k, Nat.testBit y.anc k = true → ∃ e ∈ o.after, Region.binds .any e = true ∧ (e.on = k ∨ ∃ z ∈ plan, z.i = e.on ∧ Nat.testBit z.anc k = true)
  first : ∀ pre y suf, plan = pre ++ y :: suf → ∀ o, ops[y.i]? = some o → ∀ e ∈ o.after, Region.binds .any e = true → ∃ x ∈ pre, x.i = e.on
  size : plan.length = ops.size
  cover : ∀ j, j < ops.size → ∃ y ∈ plan, y.i = j

theorem compOper_some {T : TyT} {ops : Array Oper} {n : Nat} {o : Oper} {ao : AOper} (h : compOper T ops n o = some ao) :
    compOp T o.op = some ao.op ∧ ao.dst = o.dst ∧ (match o.dst with | none => true | some d => Nat.ble (Nat.succ d) n) = true ∧
      ((o.guard = none ∧ ao.guard = none) ∨ ∃ j want d, o.guard = some (j, want) ∧ (ops[j]?).bind (·.dst) = some d ∧ ao.guard = some (d, want)) := by
  unfold compOper at h
  split at h <;> try (simp at h; done)
  rename_i x hx
  split at h <;> try (simp at h; done)
  rename_i hd
  split at h
  · rename_i hg
    injection h with h; subst h
    exact ⟨hx, rfl, hd, .inl ⟨hg, rfl⟩⟩
  · rename_i j want hg
    split at h <;> try (simp at h; done)
    rename_i d hj
    injection h with h; subst h
    exact ⟨hx, rfl, hd, .inr ⟨j, want, d, hg, hj, rfl⟩⟩

theorem findI_spec : ∀ {l : List DIt} {i : Nat} {x : DIt}, findI l i = some x → x ∈ l ∧ x.i = i := by
  intro l
  induction l with
  | nil => intro i x h; cases h
  | cons y l ih =>
    intro i x h
    simp only [findI] at h
    split at h
    · rename_i hb
      injection h with h; subst h
      exact ⟨List.mem_cons_self .., (natBeq_iff _ _).1 hb⟩
    · obtain ⟨h1, h2⟩ := ih h
      exact ⟨List.mem_cons_of_mem _ h1, h2⟩
theorem ancE_spec {prev : List DIt} : ∀ {l : List Edge} {m r : Nat}, ancE prev l m = some r →
    (∀ e ∈ l, Region.binds .any e = true → ∃ x ∈ prev, x.i = e.on) ∧
    ∀ k, Nat.testBit r k = true → Nat.testBit m k = true ∨ ∃ e ∈ l, Region.binds .any e = true ∧ (e.on = k ∨ ∃ z ∈ prev, z.i = e.on ∧ Nat.testBit z.anc k = true) := by
  intro l
  induction l with
  | nil => intro m r h; simp only [ancE] at h; injection h with h; subst h; exact ⟨by simp, fun k h => .inl h⟩
  | cons e l ih =>
    intro m r h
    simp only [ancE] at h
    split at h
    · rename_i hb
      obtain ⟨h1, h2⟩ := ih h
      refine ⟨fun e' he' hb' => ?_, fun k hk => ?_⟩
      · rcases List.mem_cons.1 he' with rfl | he'
        · rw [hb] at hb'; cases hb'
        · exact h1 e' he' hb'
      · rcases h2 k hk with h2 | ⟨e', he', h3⟩
        · exact .inl h2
        · exact .inr ⟨e', List.mem_cons_of_mem _ he', h3⟩
    · rename_i hb
      split at h <;> try (simp at h; done)
      rename_i x hx
      obtain ⟨hx1, hx2⟩ := findI_spec hx
      obtain ⟨h1, h2⟩ := ih h
      refine ⟨fun e' he' hb' => ?_, fun k hk => ?_⟩
      · rcases List.mem_cons.1 he' with rfl | he'
        · exact ⟨x, hx1, hx2⟩
        · exact h1 e' he' hb'
      · rcases h2 k hk with h2 | ⟨e', he', h3⟩
        · rw [Nat.testBit_or, Nat.testBit_or, Bool.or_eq_true, Bool.or_eq_true] at h2
          rcases h2 with (h2 | h2) | h2
          · exact .inl h2
          · rw [Nat.testBit_two_pow] at h2
            exact .inr ⟨e, List.mem_cons_self .., hb, .inl (by simpa using h2)⟩
          · exact .inr ⟨e, List.mem_cons_self .., hb, .inr ⟨x, hx1, hx2, h2⟩⟩
        · exact .inr ⟨e', List.mem_cons_of_mem _ he', h3⟩

variable {T : TyT} {ops : Array Oper} {n : Nat}
theorem compDit_spec {prev : List DIt} {i off : Nat} {y : DIt} (h : compDit T ops n prev i off = some y) :
    (∃ o, ops[y.i]? = some o ∧ compOper T ops n o = some y.op ∧ (∀ e ∈ o.after, Region.binds .any e = true → ∃ x ∈ prev, x.i = e.on) ∧
      ∀ k, Nat.testBit y.anc k = true → ∃ e ∈ o.after, Region.binds .any e = true ∧ (e.on = k ∨ ∃ z ∈ prev, z.i = e.on ∧ Nat.testBit z.anc k = true)) ∧
    ∀ x ∈ prev, okPair x y = true := by
  unfold compDit at h
  split at h <;> try (simp at h; done)
  rename_i o ho
  split at h <;> try (simp at h; done)
  rename_i ao hao
  split at h <;> try (simp at h; done)
  rename_i anc hanc
  split at h <;> try (simp at h; done)
  rename_i hall
  injection h with h; subst h
  obtain ⟨h1, h2⟩ := ancE_spec hanc
  refine ⟨⟨o, ho, hao, fun e he => h1 e (by simpa using he), fun k hk => ?_⟩, fun x hx => List.all_eq_true.1 hall x hx⟩
  rcases h2 k hk with h2 | ⟨e, he, h3⟩
  · simp at h2
  · exact ⟨e, by simpa using he, h3⟩

theorem compDl_spec : ∀ {l : List (Nat × Nat)} {prev r : List DIt}, compDl T ops n prev l = some r → prev.Pairwise (fun x y => okPair x y = true) →
    r.length = l.length ∧ (prev ++ r).Pairwise (fun x y => okPair x y = true) ∧
    ∀ r1 y r2, r = r1 ++ y :: r2 → ∃ o, ops[y.i]? = some o ∧ compOper T ops n o = some y.op ∧ (∀ e ∈ o.after, Region.binds .any e = true → ∃ x ∈ prev ++ r1, x.i = e.on) ∧
      ∀ k, Nat.testBit y.anc k = true → ∃ e ∈ o.after, Region.binds .any e = true ∧ (e.on = k ∨ ∃ z ∈ prev ++ r1, z.i = e.on ∧ Nat.testBit z.anc k = true) := by
  intro l
  induction l with
  | nil => intro prev r h hp; simp only [compDl] at h; injection h with h; subst h; exact ⟨rfl, by simpa using hp, by intro r1 y r2 e; simp at e⟩
  | cons p l ih =>
    intro prev r h hp
    simp only [compDl] at h
    split at h <;> try (simp at h; done)
    rename_i y hy
    split at h <;> try (simp at h; done)
    rename_i r' hr'
    injection h with h; subst h
    obtain ⟨⟨o, ho, hc, h1, h2⟩, h3⟩ := compDit_spec hy
    have hp' : (prev ++ [y]).Pairwise (fun x y => okPair x y = true) := by
      rw [List.pairwise_append]
      refine ⟨hp, by simp, ?_⟩
      intro a ha b hb
      simp at hb; subst hb
      exact h3 a ha
    obtain ⟨g1, g2, g3⟩ := ih hr' hp'
    refine ⟨by simp [g1], by simpa using g2, ?_⟩
    intro r1 y' r2 e
    cases r1 with
    | nil =>
      simp at e
      obtain ⟨rfl, rfl⟩ := e
      simpa using ⟨o, ho, hc, h1, h2⟩
    | cons z r1 =>
      simp at e
      obtain ⟨rfl, e⟩ := e
      have := g3 r1 y' r2 e
      simpa using this

theorem compD_spec {plan : List (Nat × Nat)} {l : List DIt} (h : compD T ops n plan = some l) : PlanOk T ops n l := by
  unfold compD at h
  split at h <;> try (simp at h; done)
  rename_i hb
  have hb := (natBeq_iff _ _).1 hb
  split at h <;> try (simp at h; done)
  rename_i l' hl'
  split at h <;> try (simp at h; done)
  rename_i hcov
  injection h with h; subst h
  obtain ⟨h1, h2, h3⟩ := compDl_spec hl' (by simp)
  simp only [List.nil_append] at h2 h3
  refine ⟨?_, h2, ?_, ?_, by rw [h1, hb], fun j hj => ?_⟩
  case refine_4 =>
    have := List.all_eq_true.1 hcov j (List.mem_range.2 hj)
    obtain ⟨x, hx⟩ := Option.isSome_iff_exists.1 this
    exact ⟨x, findI_spec hx⟩
  · intro y hy
    obtain ⟨r1, r2, e⟩ := List.append_of_mem hy
    obtain ⟨o, ho, hc, _⟩ := h3 r1 y r2 e
    exact ⟨o, ho, hc⟩
  · intro y hy o ho k hk
    obtain ⟨r1, r2, e⟩ := List.append_of_mem hy
    obtain ⟨o', ho', _, _, h4⟩ := h3 r1 y r2 e
    rw [ho] at ho'; injection ho' with ho'; subst ho'
    obtain ⟨e', he', hb', h5⟩ := h4 k hk
    refine ⟨e', he', hb', ?_⟩
    rcases h5 with h5 | ⟨z, hz, h5⟩
    · exact .inl h5
    · exact .inr ⟨z, by rw [e]; exact List.mem_append_left _ hz, h5⟩
  · intro pre y suf e o ho
    obtain ⟨o', ho', _, h4, _⟩ := h3 pre y suf e
    rw [ho] at ho'; injection ho' with ho'; subst ho'
    exact h4

theorem okPair_ne {x y : DIt} (h : okPair x y = true) : x.i ≠ y.i := by
  simp only [okPair, Bool.and_eq_true, Bool.not_eq_true'] at h
  intro e
  have := (natBeq_iff x.i y.i).2 e
  rw [this] at h
  exact absurd h.1.1 (by simp)
theorem okPair_dst {x y : DIt} (h : okPair x y = true) {d : Nat} (hx : x.op.dst = some d) (hy : y.op.dst = some d) : False := by
  simp only [okPair, Bool.and_eq_true, Bool.not_eq_true', sameDst, hx, hy] at h
  have := (natBeq_iff d d).2 rfl
  rw [this] at h
  exact absurd h.1.2 (by simp)
theorem memN_iff {l : List Nat} {n : Nat} : memN l n = true ↔ n ∈ l := by
  induction l with
  | nil => simp [memN]
  | cons x l ih =>
    simp only [memN]
    cases hb : Nat.beq x n with
    | true => simp [(natBeq_iff _ _).1 hb]
    | false =>
      have : x ≠ n := fun e => by rw [(natBeq_iff _ _).2 e] at hb; cases hb
      simp only [ih]
      constructor
      · intro h; exact List.mem_cons_of_mem _ h
      · intro h; rcases List.mem_cons.1 h with h | h
        · exact absurd h.symm this
        · exact h
theorem okPair_or {x y : DIt} (h : okPair x y = true) : Nat.testBit y.anc x.i = true ∨ ((∀ d, x.op.dst = some d → d ∉ y.op.uses) ∧ (∀ d, y.op.dst = some d → d ∉ x.op.uses) ∧ isB x.op.op = false) := by
  simp only [okPair, Bool.and_eq_true, Bool.or_eq_true, Bool.not_eq_true'] at h
  rcases h.2 with h | ⟨⟨h1, h2⟩, h3⟩
  · exact .inl h
  · refine .inr ⟨fun d hd hm => ?_, fun d hd hm => ?_, h3⟩
    · simp only [touches, hd] at h1; rw [memN_iff.2 hm] at h1; cases h1
    · simp only [touches, hd] at h2; rw [memN_iff.2 hm] at h2; cases h2
end Go.Sy

/-! The symbolic executor, part Uc: a drawn region's run, in whatever order: what holds at each point. -/
namespace Go.Sy
set_option linter.unusedVariables false
set_option linter.unusedSectionVars false
noncomputable section

structure HI where
  it : DIt
  t : Tmps
  v : AV
def tmAt (t0 : Tmps) (h : List HI) : Tmps := h.foldl (fun t x => putA x.it.op.dst x.v t) t0
theorem tmAt_snoc (t0 : Tmps) (h : List HI) (x : HI) : tmAt t0 (h ++ [x]) = putA x.it.op.dst x.v (tmAt t0 h) := by simp [tmAt]
theorem putA_get (dst : Option Nat) (v : AV) (t : Tmps) (m : Nat) : (putA dst v t).get (Nat.succ m) = if dst = some m then some v else t.get (Nat.succ m) := by
  cases dst with
  | none => simp [putA]
  | some d =>
    simp only [putA]
    rw [Tree.get_set _ _ _ _ (by omega) (by omega)]
    by_cases h : d = m
    · subst h; simp
    · rw [if_neg (by omega), if_neg (by simpa using h)]
theorem tmAt_get : ∀ (h : List HI) (t0 : Tmps) {m : Nat} {v : AV}, (tmAt t0 h).get (Nat.succ m) = some v → (∃ z ∈ h, z.it.op.dst = some m ∧ v = z.v) ∨ (t0.get (Nat.succ m) = some v ∧ ∀ z ∈ h, z.it.op.dst ≠ some m) := by
  intro h
  induction h with
  | nil => intro t0 m v hv; exact .inr ⟨hv, by simp⟩
  | cons x h ih =>
    intro t0 m v hv
    have hv : (tmAt (putA x.it.op.dst x.v t0) h).get (Nat.succ m) = some v := hv
    rcases ih _ hv with ⟨z, hz, h1, h2⟩ | ⟨h1, h2⟩
    · exact .inl ⟨z, List.mem_cons_of_mem _ hz, h1, h2⟩
    · rw [putA_get] at h1
      split at h1
      · rename_i e
        injection h1 with h1; subst h1
        exact .inl ⟨x, List.mem_cons_self .., e, rfl⟩
      · rename_i e
        refine .inr ⟨h1, fun z hz => ?_⟩
        rcases List.mem_cons.1 hz with rfl | hz
        · exact e
        · exact h2 z hz

def GuardV (g : Option (Nat × Bool)) (t : Tmps) (b : Bool) : Prop := match g with
  | none => b = true
  | some p => ∃ v, t.get (Nat.succ p.1) = some v ∧ guardA v p.2 = some b
theorem guardE_spec {g : Option (Nat × Bool)} {t : Tmps} {k : Bool → Bool} (h : guardE g t k = true) : ∃ b, GuardV g t b ∧ k b = true := by
  cases g with
  | none => exact ⟨true, rfl, h⟩
  | some p =>
    obtain ⟨v, hv, h1⟩ := optB_true (show optB (t.get (Nat.succ p.1)) _ = true from h)
    obtain ⟨x, hx, h2⟩ := optB_true h1
    exact ⟨x, ⟨v, hv, hx⟩, h2⟩

/-- some slots of a row -/
def restr (t : Tmps) (l : List Nat) : Tmps := l.foldr (fun m r => match t.get (Nat.succ m) with | some v => r.set (some v) (Nat.succ m) | none => r) .leaf
theorem restr_get (t : Tmps) : ∀ (l : List Nat) (m : Nat), (restr t l).get (Nat.succ m) = if m ∈ l then t.get (Nat.succ m) else none := by
  intro l
  induction l with
  | nil => intro m; simp [restr, Tree.get_leaf]
  | cons x l ih =>
    intro m
    have e : restr t (x :: l) = match t.get (Nat.succ x) with | some v => (restr t l).set (some v) (Nat.succ x) | none => restr t l := rfl
    rw [e]
    cases hx : t.get (Nat.succ x) with
    | none =>
      simp only []
      rw [ih]
      by_cases h : m = x
      · subst h; simp [hx]
      · simp [h]
    | some v =>
      simp only []
      rw [Tree.get_set _ _ _ _ (by omega) (by omega)]
      by_cases h : m = x
      · subst h; simp [hx]
      · rw [if_neg (by omega), ih]; simp [h]
theorem restr_agree (t : Tmps) (l : List Nat) : Agree t (restr t l) l := fun n hn => by rw [restr_get, if_pos hn]

/-- what is known of an operation that was worked out -/
def EvI (c0 : Cx) (base : Nat) (s : S) (pr : List PR) (pm : List PM) (L : Nat → Prop) (x : HI) : Prop := match x.it.op.op with
  | .p o => ∃ φ, Sat c0.σ φ ∧ pureOp φ x.t o = some x.v
  | .r o => L x.it.i ∨ ∃ l, (⟨x.it.i, o, x.t, x.v, l⟩ : PR) ∈ pr ∧ ∀ p ∈ l, Nat.testBit x.it.anc p.i = true
  | .m o => L x.it.i ∨ ∃ ob, makeOp x.t (base + x.it.off) o = some (ob, x.v) ∧ (⟨x.it.i, base + x.it.off, ob⟩ : PM) ∈ pm ∧ lall (slotIn (base + x.it.off) x.t) (usesM o) = true
  | .b _ => True

/-- what was read can be read still -/
def PrOk (s : S) (pm : List PM) (pr : List PR) : Prop := ∀ e ∈ pr, readOp e.t (rdOf e.l s) e.o = some e.v ∧ ∀ p ∈ e.l, p ∈ pm
theorem PrOk.mono {s : S} {pm pm' : List PM} {pr : List PR} (h : PrOk s pm pr) (hs : ∀ p ∈ pm, p ∈ pm') : PrOk s pm' pr := fun e he => ⟨(h e he).1, fun p hp => hs p ((h e he).2 p hp)⟩
structure DK where
  call : CallF
  plan : List DIt
  base : Nat
  k : KX
  c0 : Cx
  s0 : S
  w0 : World
  t0 : Tmps
  d : List Deferred
  n : Nat

structure Inv (D : DK) (pre suf : List DIt) (hist : List HI) (t : Tmps) (s : S) (pr : List PR) (pm : List PM) (N : Nat) (L : Nat → Prop) (c : Cx) (a : Act) (w : World) : Prop where
  plan : D.plan = pre ++ suf
  its : hist.map (·.it) = pre
  run : drawL D.call D.base D.k suf t s pr pm = true
  step : Step D.c0 c D.s0 s D.w0 w
  rel : Rel c s w
  nxN : s.nx ≤ N
  inPre : ∀ y ∈ D.plan, L y.i → y ∈ pre
  bars : ∀ y ∈ pre, isB y.op.op = true → L y.i
  closed : ∀ y ∈ D.plan, L y.i → ∀ k, Nat.testBit y.anc k = true → L k
  t0wf : ∀ m v, D.t0.get (Nat.succ m) = some v → v.wf D.c0 D.s0.nx
  tEq : t = tmAt D.t0 hist
  tAt : ∀ h1 x h2, hist = h1 ++ x :: h2 → x.t = tmAt D.t0 h1
  tm1 : ∀ x ∈ hist, ∀ m, x.it.op.dst = some m → L x.it.i → a.tmps.getD m undef = x.v.conc c
  tm2 : ∀ m v, D.t0.get (Nat.succ m) = some v → (∀ x ∈ hist, x.it.op.dst = some m → ¬ L x.it.i) → a.tmps.getD m undef = v.conc c
  vwf : ∀ x ∈ hist, L x.it.i → x.v.wf c N
  vin : ∀ x ∈ hist, InV (fun id => id < s.nx ∨ ∃ p ∈ pm, p.id = id ∧ (Nat.testBit x.it.anc p.i = true ∨ p.i = x.it.i)) x.v
  ev : ∀ x ∈ hist, ∃ b, GuardV x.it.op.guard x.t b ∧ (b = false → x.v = .undef) ∧ (b = true → EvI D.c0 D.base s pr pm L x)
  prok : PrOk s pm pr
  pmid : ∀ p ∈ pm, s.nx ≤ p.id ∧ p.id < N
  pmd : ∀ p ∈ pm, ∀ q ∈ pm, p.id = q.id → p = q
  pmn : pm.Pairwise fun p q => p.id ≠ q.id
  pmx : ∀ p ∈ pm, ∃ x ∈ hist, x.it.i = p.i ∧ (∃ o, x.it.op.op = .m o) ∧ GuardV x.it.op.guard x.t true
  pmu : ∀ p ∈ pm, ∀ q ∈ pm, p.i = q.i → p = q
  pmin : ∀ p ∈ pm, InO (fun id => id < s.nx ∨ ∃ q ∈ pm, q.id = id ∧ ∃ y ∈ pre, y.i = p.i ∧ Nat.testBit y.anc q.i = true) p.ob
  pmb : ∀ p ∈ pm, L p.i → D.w0.heap.size ≤ c.ι p.id ∧ c.ι p.id < w.heap.size ∧ ObjRel c p.id p.ob (w.heap[c.ι p.id]?) ∧ (∀ id o, s.at id = some o → c.ι id ≠ c.ι p.id) ∧ p.ob.wf c N
  pmj : ∀ p ∈ pm, ∀ q ∈ pm, L p.i → L q.i → p.id ≠ q.id → c.ι p.id ≠ c.ι q.id
  defs : a.defers = D.d
  size : a.tmps.size = D.n

section
variable {P : Program} {T : TyT} {ops : Array Oper} {D : DK} {pre suf : List DIt} {hist : List HI} {t : Tmps} {s : S} {pr : List PR} {pm : List PM} {N : Nat} {L : Nat → Prop} {c : Cx} {a : Act} {w : World}

theorem pair_split {plan : List DIt} (hp : plan.Pairwise fun x y => okPair x y = true) {a b : List DIt} (e : plan = a ++ b) {x y : DIt} (hx : x ∈ a) (hy : y ∈ b) : okPair x y = true := by
  subst e
  exact (List.pairwise_append.1 hp).2.2 x hx y hy
/-- operations of one number are one -/
theorem plan_inj {plan : List DIt} (hp : plan.Pairwise fun x y => okPair x y = true) {x y : DIt} (hx : x ∈ plan) (hy : y ∈ plan) (e : x.i = y.i) : x = y := by
  induction plan with
  | nil => cases hx
  | cons z l ih =>
    rw [List.pairwise_cons] at hp
    rcases List.mem_cons.1 hx with hx1 | hx1 <;> rcases List.mem_cons.1 hy with hy1 | hy1
    · rw [hx1, hy1]
    · rw [hx1] at e; exact absurd e (okPair_ne (hp.1 y hy1))
    · rw [hy1] at e; exact absurd e.symm (okPair_ne (hp.1 x hx1))
    · exact ih hp.2 hx1 hy1

theorem Inv.mem (I : Inv D pre suf hist t s pr pm N L c a w) {x : HI} (hx : x ∈ hist) : x.it ∈ D.plan := by
  rw [I.plan, ← I.its]
  exact List.mem_append_left _ (List.mem_map_of_mem hx)
theorem Inv.σ (I : Inv D pre suf hist t s pr pm N L c a w) : c.σ = D.c0.σ := I.step.ext.σ

/-- names that are read now -/
def Alw (s : S) (pm : List PM) (L : Nat → Prop) (id : Nat) : Prop := id < s.nx ∨ ∃ p ∈ pm, p.id = id ∧ L p.i
theorem Inv.alw (I : Inv D pre suf hist t s pr pm N L c a w) {x : HI} (hx : x ∈ hist) (hl : L x.it.i) : InV (Alw s pm L) x.v :=
  InV.mono (fun id h => by
    rcases h with h | ⟨p, hp, he, h⟩
    · exact .inl h
    · refine .inr ⟨p, hp, he, ?_⟩
      rcases h with h | h
      · exact I.closed _ (I.mem hx) hl _ h
      · rw [h]; exact hl) (I.vin x hx)

/-- what an operation that is next in no matter what order sees in its slots -/
theorem Inv.slot (hP : PlanOk T ops D.n D.plan) (I : Inv D pre suf hist t s pr pm N L c a w) {y : DIt} {h1 h2 : List HI} (he : hist = h1 ++ h2) (hy : y ∈ D.plan) (hl : ¬ L y.i) (hanc : ∀ k, Nat.testBit y.anc k = true → L k)
    (hb : ∀ z ∈ h1, okPair z.it y = true) (hf : ∀ z ∈ h2, z.it = y ∨ okPair y z.it = true) {m : Nat} (hm : m ∈ y.op.uses) {v : AV} (hv : (tmAt D.t0 h1).get (Nat.succ m) = some v) :
    a.tmps.getD m undef = v.conc c ∧ v.wf c N ∧ InV (Alw s pm L) v := by
  rcases tmAt_get h1 D.t0 hv with ⟨z, hz, hd, rfl⟩ | ⟨h0, hno⟩
  · have hzh : z ∈ hist := by rw [he]; exact List.mem_append_left _ hz
    have hzl : L z.it.i := by
      rcases okPair_or (hb z hz) with h | ⟨h, _, _⟩
      · exact hanc _ h
      · exact absurd hm (h m hd)
    exact ⟨I.tm1 z hzh m hd hzl, I.vwf z hzh hzl, I.alw hzh hzl⟩
  · have hw0 := I.t0wf m v h0
    have hw : v.wf c s.nx := AV.wf_ext I.step.ext I.step.nx hw0
    refine ⟨I.tm2 m v h0 ?_, AV.wf_mono hw I.nxN, InV.mono (fun id h => .inl h) hw.names⟩
    intro x hx hd hxl
    rw [he] at hx
    rcases List.mem_append.1 hx with hx | hx
    · exact hno x hx hd
    · rcases hf x hx with e | hp
      · rw [e] at hxl; exact hl hxl
      · rcases okPair_or hp with h | ⟨_, h, _⟩
        · exact hl (I.closed _ (I.mem (by rw [he]; exact List.mem_append_right _ hx)) hxl _ h)
        · exact h m hd hm

theorem uses_sub {o : AOper} {m : Nat} (h : m ∈ uses o.op) : m ∈ o.uses := by
  unfold AOper.uses
  cases o.guard with
  | none => exact h
  | some p => exact List.mem_cons_of_mem _ h

/-- is an operation wanted: as it was worked out -/
theorem wanted_of {n : Nat} {o : Oper} {ao : AOper} (h : compOper T ops n o = some ao) {t : Tmps} {b : Bool} (hg : GuardV ao.guard t b) (hdst : ∀ (j d : Nat), (ops[j]?).bind (·.dst) = some d → d < a.tmps.size)
    (hv : ∀ m ∈ ao.uses, ∀ v, t.get (Nat.succ m) = some v → a.tmps.getD m undef = v.conc c) : Region.wanted o (yielded ops a.tmps) = b := by
  obtain ⟨_, _, _, hg'⟩ := compOper_some h
  rcases hg' with ⟨h1, h2⟩ | ⟨j, want, d, h1, h2, h3⟩
  · rw [h2] at hg
    have : b = true := hg
    subst this
    simp [Region.wanted, h1]
  · rw [h3] at hg
    obtain ⟨v, g1, g2⟩ := hg
    have hd' := hv d (by simp [AOper.uses, h3]) _ g1
    have hl := hdst j d h2
    rcases guardA_spec g2 with ⟨x, e, g3⟩ | ⟨e, g3⟩
    rotate_left
    · subst e
      have hd' : a.tmps.getD d undef = .tuple #[] := hd'
      have e2 : a.tmps[d]? = some (.tuple #[]) := by
        rw [Array.getD_eq_getD_getElem?] at hd'
        cases hx : a.tmps[d]? with
        | none => exact absurd (Array.getElem?_eq_none_iff.1 hx) (Nat.not_le.2 hl)
        | some y => rw [hx] at hd'; exact congrArg some hd'
      have e1 : yielded ops a.tmps j = none := by
        unfold yielded
        rw [h2]
        simp [e2]
      rw [g3]
      simp only [Region.wanted, h1, e1]
      cases want <;> rfl
    subst e
    have hd' : a.tmps.getD d undef = .bool x := hd'
    have e2 : a.tmps[d]? = some (.bool x) := by
      rw [Array.getD_eq_getD_getElem?] at hd'
      cases hx : a.tmps[d]? with
      | none => exact absurd (Array.getElem?_eq_none_iff.1 hx) (Nat.not_le.2 hl)
      | some y => rw [hx] at hd'; exact congrArg some hd'
    have e1 : yielded ops a.tmps j = some x := by
      unfold yielded
      rw [h2]
      simp [e2]
    rw [g3]
    simp only [Region.wanted, h1, e1]
    cases x <;> cases want <;> rfl
end
end
end Go.Sy

/-! The symbolic executor, part Ud: a drawn region's run: what does not write is worked out ahead. -/
namespace Go.Sy
set_option linter.unusedVariables false
set_option linter.unusedSectionVars false

section
variable {P : Program} {T : TyT} {ops : Array Oper} {D : DK} {pre suf : List DIt} {hist : List HI} {t : Tmps} {s : S} {pr : List PR} {pm : List PM} {N : Nat} {L : Nat → Prop} {c : Cx} {a : Act} {w : World}

theorem snoc_split {α : Type} {h : List α} {x : α} {h1 h2 : List α} {z : α} (e : h ++ [x] = h1 ++ z :: h2) : (h = h1 ∧ x = z ∧ h2 = []) ∨ ∃ h2', h2 = h2' ++ [x] ∧ h = h1 ++ z :: h2' := by
  rcases List.eq_nil_or_concat h2 with rfl | ⟨h2', l, rfl⟩
  · have := List.append_inj' e rfl
    simp at this
    exact .inl ⟨this.1, this.2, rfl⟩
  · have e' : h ++ [x] = (h1 ++ z :: h2') ++ [l] := by simpa using e
    have := List.append_inj' e' rfl
    simp at this
    exact .inr ⟨h2', by rw [this.2]; simp, this.1⟩

theorem EvI.mono {c0 : Cx} {base : Nat} {pr' : List PR} {pm' : List PM} {x : HI} (h : EvI c0 base s pr pm L x) (h1 : ∀ e ∈ pr, e ∈ pr') (h2 : ∀ e ∈ pm, e ∈ pm') : EvI c0 base s pr' pm' L x := by
  unfold EvI at h ⊢
  split at h <;> rename_i o ho
  · exact h
  · exact h.imp id fun ⟨l, g1, g2⟩ => ⟨l, h1 _ g1, g2⟩
  · rcases h with h | ⟨ob, g1, g2, g3⟩
    · exact .inl h
    · exact .inr ⟨ob, g1, h2 _ g2, g3⟩
  · trivial

theorem Inv.out (hP : PlanOk T ops D.n D.plan) {y : DIt} (I : Inv D pre (y :: suf) hist t s pr pm N L c a w) : ¬ L y.i := by
  intro hl
  have hm : y ∈ D.plan := by rw [I.plan]; simp
  have h1 := I.inPre y hm hl
  exact okPair_ne (pair_split hP.pair I.plan h1 (List.mem_cons_self ..)) rfl

/-- one more operation is worked out -/
theorem Inv.grow (hP : PlanOk T ops D.n D.plan) {y : DIt} (I : Inv D pre (y :: suf) hist t s pr pm N L c a w) (hb : isB y.op.op = false) {v : AV} {pr' : List PR} {pm' : List PM} {N' : Nat}
    (hrun : drawL D.call D.base D.k suf (putA y.op.dst v t) s pr' pm' = true) (hN : N ≤ N') (hpr : ∀ e ∈ pr, e ∈ pr') (hprok : PrOk s pm' pr')
    (hpm : pm' = pm ∨ ∃ id ob, pm' = pm ++ [⟨y.i, id, ob⟩] ∧ s.nx ≤ id ∧ id < N' ∧ (∀ q ∈ pm, q.id ≠ id) ∧ InO (fun i => i < s.nx ∨ ∃ q ∈ pm, q.id = i ∧ Nat.testBit y.anc q.i = true) ob ∧ (∃ o, y.op.op = .m o) ∧ GuardV y.op.guard t true)
    (hvin : InV (fun id => id < s.nx ∨ ∃ p ∈ pm', p.id = id ∧ (Nat.testBit y.anc p.i = true ∨ p.i = y.i)) v)
    (hev : ∃ b, GuardV y.op.guard t b ∧ (b = false → v = .undef) ∧ (b = true → EvI D.c0 D.base s pr' pm' L ⟨y, t, v⟩)) :
    Inv D (pre ++ [y]) suf (hist ++ [⟨y, t, v⟩]) (putA y.op.dst v t) s pr' pm' N' L c a w := by
  have hly := I.out hP
  have hsub : ∀ p ∈ pm, p ∈ pm' := by
    rcases hpm with rfl | ⟨id, ob, rfl, _⟩
    · exact fun p h => h
    · exact fun p h => List.mem_append_left _ h
  have hold : ∀ p ∈ pm', L p.i → p ∈ pm := by
    intro p hp hl
    rcases hpm with rfl | ⟨id, ob, rfl, _⟩
    · exact hp
    · rcases List.mem_append.1 hp with hp | hp
      · exact hp
      · simp at hp; subst hp; exact absurd hl hly
  constructor
  · rw [I.plan]; simp
  · simp [I.its]
  · exact hrun
  · exact I.step
  · exact I.rel
  · exact Nat.le_trans I.nxN hN
  · exact fun z hz hl => List.mem_append_left _ (I.inPre z hz hl)
  · intro z hz hzb
    rcases List.mem_append.1 hz with hz | hz
    · exact I.bars z hz hzb
    · simp at hz; subst hz; rw [hb] at hzb; cases hzb
  · exact I.closed
  · exact I.t0wf
  · rw [tmAt_snoc, ← I.tEq]
  · intro h1 x h2 e
    rcases snoc_split e with ⟨rfl, rfl, _⟩ | ⟨h2', _, e'⟩
    · exact I.tEq
    · exact I.tAt h1 x h2' e'
  · intro x hx m hd hl
    rcases List.mem_append.1 hx with hx | hx
    · exact I.tm1 x hx m hd hl
    · simp at hx; subst hx; exact absurd hl hly
  · exact fun m v hv h => I.tm2 m v hv fun x hx => h x (List.mem_append_left _ hx)
  · intro x hx hl
    rcases List.mem_append.1 hx with hx | hx
    · exact AV.wf_mono (I.vwf x hx hl) hN
    · simp at hx; subst hx; exact absurd hl hly
  · intro x hx
    rcases List.mem_append.1 hx with hx | hx
    · exact InV.mono (fun _ h => h.imp (fun h => h) fun ⟨p, hp, h⟩ => ⟨p, hsub p hp, h⟩) (I.vin x hx)
    · simp at hx; subst hx; exact hvin
  · intro x hx
    rcases List.mem_append.1 hx with hx | hx
    · obtain ⟨b, g1, g2, g3⟩ := I.ev x hx
      exact ⟨b, g1, g2, fun h => (g3 h).mono hpr hsub⟩
    · simp at hx; subst hx; exact hev
  · exact hprok
  · intro p hp
    rcases hpm with rfl | ⟨id, ob, rfl, h1, h2, h3, h4, h5, h6⟩
    · exact ⟨(I.pmid p hp).1, Nat.lt_of_lt_of_le (I.pmid p hp).2 hN⟩
    · rcases List.mem_append.1 hp with hp | hp
      · exact ⟨(I.pmid p hp).1, Nat.lt_of_lt_of_le (I.pmid p hp).2 hN⟩
      · simp at hp; subst hp; exact ⟨h1, h2⟩
  · intro p hp q hq e
    rcases hpm with rfl | ⟨id, ob, rfl, h1, h2, h3, h4, h5, h6⟩
    · exact I.pmd p hp q hq e
    · rcases List.mem_append.1 hp with hp | hp <;> rcases List.mem_append.1 hq with hq | hq
      · exact I.pmd p hp q hq e
      · simp at hq; subst hq; exact absurd e (h3 p hp)
      · simp at hp; subst hp; exact absurd e.symm (h3 q hq)
      · simp at hp hq; rw [hp, hq]
  · rcases hpm with rfl | ⟨id, ob, rfl, h1, h2, h3, h4, h5, h6⟩
    · exact I.pmn
    · refine List.pairwise_append.2 ⟨I.pmn, by simp, fun p hp q hq => ?_⟩
      simp at hq; subst hq; exact h3 p hp
  · intro p hp
    rcases hpm with rfl | ⟨id, ob, rfl, h1, h2, h3, h4, h5, h6⟩
    · obtain ⟨z, hz, e⟩ := I.pmx p hp
      exact ⟨z, List.mem_append_left _ hz, e⟩
    · rcases List.mem_append.1 hp with hp | hp
      · obtain ⟨z, hz, e⟩ := I.pmx p hp
        exact ⟨z, List.mem_append_left _ hz, e⟩
      · simp at hp; subst hp; exact ⟨⟨y, t, v⟩, by simp, rfl, h5, h6⟩
  · intro p hp q hq e
    have hno : ∀ q ∈ pm, q.i ≠ y.i := by
      intro q hq e
      obtain ⟨z, hz, e1, _⟩ := I.pmx q hq
      have hz' : z.it ∈ pre := by rw [← I.its]; exact List.mem_map_of_mem hz
      exact okPair_ne (pair_split hP.pair I.plan hz' (List.mem_cons_self ..)) (e1.trans e)
    rcases hpm with rfl | ⟨id, ob, rfl, h1, h2, h3, h4, h5, h6⟩
    · exact I.pmu p hp q hq e
    · rcases List.mem_append.1 hp with hp | hp <;> rcases List.mem_append.1 hq with hq | hq
      · exact I.pmu p hp q hq e
      · simp at hq; subst hq; exact absurd e (hno p hp)
      · simp at hp; subst hp; exact absurd e.symm (hno q hq)
      · simp at hp hq; rw [hp, hq]
  · intro p hp
    have old : p ∈ pm → InO (fun id => id < s.nx ∨ ∃ q ∈ pm', q.id = id ∧ ∃ z ∈ pre ++ [y], z.i = p.i ∧ Nat.testBit z.anc q.i = true) p.ob := fun hp =>
      InO.mono (fun id h => h.imp (fun h => h) fun ⟨q, hq, e, z, hz, h⟩ => ⟨q, hsub q hq, e, z, List.mem_append_left _ hz, h⟩) (I.pmin p hp)
    rcases hpm with rfl | ⟨id, ob, rfl, h1, h2, h3, h4, h5, h6⟩
    · exact old hp
    · rcases List.mem_append.1 hp with hp | hp
      · exact old hp
      · simp at hp; subst hp
        exact InO.mono (fun id h => h.imp (fun h => h) fun ⟨q, hq, e, h⟩ => ⟨q, hsub q hq, e, y, by simp, rfl, h⟩) h4
  · intro p hp hl
    obtain ⟨g1, g2, g3, g4, g5⟩ := I.pmb p (hold p hp hl) hl
    exact ⟨g1, g2, g3, g4, AObj.wf_mono g5 hN⟩
  · exact fun p hp q hq h1 h2 => I.pmj p (hold p hp h1) q (hold q hq h2) h1 h2
  · exact I.defs
  · exact I.size

theorem okId_spec {nx anc : Nat} {pm : List PM} {id : Nat} (h : okId nx anc pm id = true) : id < nx ∨ ∃ p ∈ pm, p.id = id ∧ Nat.testBit anc p.i = true := by
  unfold okId at h
  split at h
  · rename_i hb; exact .inl ((natBle_iff _ _).1 hb)
  · obtain ⟨p, hp, h⟩ := (lanyM_iff _ _).1 h
    obtain ⟨h1, h2⟩ := and2_iff.1 h
    exact .inr ⟨p, hp, (natBeq_iff _ _).1 h1, h2⟩
theorem okId1_spec {nx anc me : Nat} {pm : List PM} {id : Nat} (h : okId1 nx anc me pm id = true) : id < nx ∨ (∃ p ∈ pm, p.id = id ∧ Nat.testBit anc p.i = true) ∨ id = me := by
  unfold okId1 at h
  split at h
  · rename_i hb; exact (okId_spec hb).imp (fun h => h) .inl
  · exact .inr (.inr ((natBeq_iff _ _).1 h))

theorem drawI_eq (call : CallF) (base i anc off : Nat) (dst : Option Nat) (o : AOp) (g : Option (Nat × Bool)) (t : Tmps) (s : S) (pr : List PR) (pm : List PM) (k : KX) (ih : KD) :
    drawI call base ⟨i, ⟨dst, o, g⟩, anc, off⟩ t s pr pm k ih = guardE g t fun b => match b with
      | false => putK dst .undef t fun t => ih t s pr pm
      | true => (match o with
        | .p o => drawP o dst anc t s pr pm ih
        | .r o => drawR i o dst anc t s pr pm ih
        | .m o => forceN (Nat.add base off) fun id => drawM i id o dst anc t s pr pm ih
        | .b o => drawB call o dst anc t s pr pm k ih) := rfl

theorem Inv.advance1 (hP : PlanOk T ops D.n D.plan) {y : DIt} (I : Inv D pre (y :: suf) hist t s pr pm N L c a w) (hb : isB y.op.op = false) :
    ∃ hist' t' pr' pm' N', Inv D (pre ++ [y]) suf hist' t' s pr' pm' N' L c a w := by
  obtain ⟨i, ⟨dst, op, g⟩, anc, off⟩ := y
  have hk := I.run
  rw [drawL_cons] at hk
  rw [drawI_eq] at hk
  obtain ⟨b, hg, hk1⟩ := guardE_spec hk
  have σe := I.σ
  obtain ⟨hh, nx, φ⟩ := s
  have hsat : Sat D.c0.σ φ := by rw [← σe]; exact I.rel.sat
  cases b with
  | false =>
    have hk2 : putK dst .undef t (fun t => drawL D.call D.base D.k suf t ⟨hh, nx, φ⟩ pr pm) = true := hk1
    rw [putK_eq] at hk2
    exact ⟨_, _, pr, pm, N, I.grow hP hb hk2 (Nat.le_refl _) (fun _ h => h) I.prok (.inl rfl) trivial ⟨false, hg, fun _ => rfl, fun h => by cases h⟩⟩
  | true =>
    cases op with
    | p o =>
      obtain ⟨v, hv, hk2⟩ := optB_true (show optB (pureOp φ t o) _ = true from hk1)
      obtain ⟨hin, hk3⟩ := ifB_true hk2
      rw [putK_eq] at hk3
      exact ⟨_, _, pr, pm, N, I.grow hP hb hk3 (Nat.le_refl _) (fun _ h => h) I.prok (.inl rfl) (InV.mono (fun id h => (okId_spec h).imp (fun h => h) fun ⟨p, hp, e, h⟩ => ⟨p, hp, e, .inl h⟩) (inV_spec hin))
        ⟨true, hg, fun h => (by cases h), fun _ => ⟨φ, hsat, hv⟩⟩⟩
    | r o =>
      have hk1 : drawR i o dst anc t ⟨hh, nx, φ⟩ pr pm (drawL D.call D.base D.k suf) = true := hk1
      rw [drawR_eq] at hk1
      obtain ⟨v, hv, hk2⟩ := optB_true (show optB (readOp t (rdOf (pendOf t o anc pm) ⟨hh, nx, φ⟩) o) _ = true from hk1)
      obtain ⟨hin, hk3⟩ := ifB_true hk2
      rw [forceV_eq, putK_eq] at hk3
      refine ⟨_, _, ⟨i, o, t, v, pendOf t o anc pm⟩ :: pr, pm, N, I.grow hP hb hk3 (Nat.le_refl _) (fun _ h => List.mem_cons_of_mem _ h) ?_ (.inl rfl) (InV.mono (fun id h => (okId_spec h).imp (fun h => h) fun ⟨p, hp, e, h⟩ => ⟨p, hp, e, .inl h⟩) (inV_spec hin))
        ⟨true, hg, fun h => (by cases h), fun _ => .inr ⟨_, List.mem_cons_self .., fun p hp => (pendOf_spec p hp).2⟩⟩⟩
      intro e he
      rcases List.mem_cons.1 he with rfl | he
      · exact ⟨hv, fun p hp => (pendOf_spec p hp).1⟩
      · exact I.prok e he
    | m o =>
      have hk2 : forceN (Nat.add D.base off) (fun id => drawM i id o dst anc t ⟨hh, nx, φ⟩ pr pm (drawL D.call D.base D.k suf)) = true := hk1
      rw [forceN_eq] at hk2
      have hk2 : drawM i (D.base + off) o dst anc t ⟨hh, nx, φ⟩ pr pm (drawL D.call D.base D.k suf) = true := hk2
      obtain ⟨h1, hk3⟩ := ifB_true (show ifB _ _ = true from hk2)
      obtain ⟨h1, h2⟩ := and2_iff.1 h1
      have h1 := (natBle_iff _ _).1 h1
      have h2 := (lall_iff _ _).1 h2
      obtain ⟨⟨ob, v⟩, hv, hk4⟩ := optB_true hk3
      obtain ⟨h3, hk5⟩ := ifB_true hk4
      obtain ⟨h3, h4⟩ := and2_iff.1 h3
      obtain ⟨h4, h5⟩ := and2_iff.1 h4
      rw [forceO_eq, putK_eq, lapp_eq] at hk5
      have hne : ∀ q ∈ pm, q.id ≠ D.base + off := by
        intro q hq e
        have := h2 q hq
        rw [(natBeq_iff _ _).2 e] at this
        cases this
      refine ⟨_, _, pr, pm ++ [⟨i, D.base + off, ob⟩], max N (D.base + off + 1), I.grow hP hb hk5 (Nat.le_max_left _ _) (fun _ h => h) (I.prok.mono fun p hp => List.mem_append_left _ hp) (.inr ⟨D.base + off, ob, rfl, h1, ?_, hne, ?_, ⟨o, rfl⟩, hg⟩) ?_
        ⟨true, hg, fun h => (by cases h), fun _ => .inr ⟨ob, hv, by simp, h3⟩⟩⟩
      · exact Nat.lt_of_lt_of_le (Nat.lt_succ_self _) (Nat.le_max_right _ _)
      · exact InO.mono (fun id h => okId_spec h) (inO_spec h5)
      · refine InV.mono (fun id h => ?_) (inV_spec h4)
        rcases okId1_spec h with h | ⟨p, hp, e, h⟩ | h
        · exact .inl h
        · exact .inr ⟨p, List.mem_append_left _ hp, e, .inl h⟩
        · exact .inr ⟨_, List.mem_append_right _ (List.mem_singleton.2 rfl), h.symm, .inr rfl⟩
    | b o => cases hb

/-- up to the next one that writes -/
theorem Inv.advance (hP : PlanOk T ops D.n D.plan) : ∀ (suf : List DIt) {pre : List DIt} {hist : List HI} {t : Tmps} {pr : List PR} {pm : List PM} {N : Nat}, Inv D pre suf hist t s pr pm N L c a w →
    ∃ pre' suf' hist' t' pr' pm' N', Inv D pre' suf' hist' t' s pr' pm' N' L c a w ∧ (suf' = [] ∨ ∃ y r, suf' = y :: r ∧ isB y.op.op = true) := by
  intro suf
  induction suf with
  | nil => intro pre hist t pr pm N I; exact ⟨_, _, _, _, _, _, _, I, .inl rfl⟩
  | cons y suf ih =>
    intro pre hist t pr pm N I
    cases hb : isB y.op.op with
    | true => exact ⟨_, _, _, _, _, _, _, I, .inr ⟨y, suf, rfl, hb⟩⟩
    | false =>
      obtain ⟨_, _, _, _, _, I'⟩ := I.advance1 hP hb
      exact ih I'
end
end Go.Sy

/-! The symbolic executor, part Ue: a drawn region's run: an operation that does not write, whenever it comes. -/
namespace Go.Sy
set_option linter.unusedVariables false
set_option linter.unusedSectionVars false

section
variable {P : Program} {T : TyT} {ops : Array Oper} {D : DK} {pre suf : List DIt} {hist : List HI} {t : Tmps} {s : S} {pr : List PR} {pm : List PM} {N : Nat} {L : Nat → Prop} {c : Cx} {a : Act} {w : World}

theorem put_defers_eq (a : Act) (dst : Option Tmp) (v : Value) : (a.put dst v).defers = a.defers := by cases dst <;> rfl
theorem put_size_eq (a : Act) (dst : Option Tmp) (v : Value) : (a.put dst v).tmps.size = a.tmps.size := by cases dst <;> simp [Act.put]
theorem put_ne {a : Act} {dst : Option Tmp} {v : Value} {m : Nat} (h : dst ≠ some m) : (a.put dst v).tmps.getD m undef = a.tmps.getD m undef := by
  cases dst with
  | none => rfl
  | some d =>
    have : d ≠ m := fun e => h (by rw [e])
    simp [Act.put, Array.getD_eq_getD_getElem?, Array.getElem?_setIfInBounds_ne this]
theorem put_eq {a : Act} {v : Value} {m : Nat} (h : m < a.tmps.size) : (a.put (some m) v).tmps.getD m undef = v := by
  simp [Act.put, Array.getD_eq_getD_getElem?, h]

theorem hist_inj (hP : PlanOk T ops D.n D.plan) (I : Inv D pre suf hist t s pr pm N L c a w) {x y : HI} (hx : x ∈ hist) (hy : y ∈ hist) (e : x.it.i = y.it.i) : x = y := by
  have hp : hist.Pairwise fun x y => okPair x.it y.it = true := by
    have h1 := hP.pair
    rw [I.plan, ← I.its] at h1
    exact List.pairwise_map.1 (List.pairwise_append.1 h1).1
  clear I
  induction hist with
  | nil => cases hx
  | cons z l ih =>
    rw [List.pairwise_cons] at hp
    rcases List.mem_cons.1 hx with hx1 | hx1 <;> rcases List.mem_cons.1 hy with hy1 | hy1
    · rw [hx1, hy1]
    · rw [hx1] at e; exact absurd e (okPair_ne (hp.1 y hy1))
    · rw [hy1] at e; exact absurd e.symm (okPair_ne (hp.1 x hx1))
    · exact ih hx1 hy1 hp.2
theorem dst_inj {plan : List DIt} (hp : plan.Pairwise fun x y => okPair x y = true) {x y : DIt} (hx : x ∈ plan) (hy : y ∈ plan) {d : Nat} (h1 : x.op.dst = some d) (h2 : y.op.dst = some d) : x = y := by
  induction plan with
  | nil => cases hx
  | cons z l ih =>
    rw [List.pairwise_cons] at hp
    rcases List.mem_cons.1 hx with hx1 | hx1 <;> rcases List.mem_cons.1 hy with hy1 | hy1
    · rw [hx1, hy1]
    · rw [hx1] at h1; exact (okPair_dst (hp.1 y hy1) h1 h2).elim
    · rw [hy1] at h2; exact (okPair_dst (hp.1 x hx1) h2 h1).elim
    · exact ih hp.2 hx1 hy1
theorem EvI.monoL {c0 : Cx} {base : Nat} {L' : Nat → Prop} {x : HI} (h : EvI c0 base s pr pm L x) (h1 : ∀ j, L j → L' j) : EvI c0 base s pr pm L' x := by
  unfold EvI at h ⊢
  split at h <;> rename_i o ho
  · exact h
  · exact h.imp (h1 _) id
  · exact h.imp (h1 _) id
  · trivial

theorem Inv.fired (hP : PlanOk T ops D.n D.plan) (I : Inv D pre suf hist t s pr pm N L c a w) {x : HI} (hx : x ∈ hist) (hl : ¬ L x.it.i) (hanc : ∀ k, Nat.testBit x.it.anc k = true → L k) {c' : Cx} {w' : World} {N' : Nat} (hN : N ≤ N')
    (hon : On (Alw s pm L) c c') (hst : Step D.c0 c' D.s0 s D.w0 w') (hrel : Rel c' s w') (hvw : x.v.wf c' N') (hdst : ∀ d, x.it.op.dst = some d → d < D.n)
    (hheap : ∀ b, b < w.heap.size → w'.heap[b]? = w.heap[b]?) (hsz : w.heap.size ≤ w'.heap.size)
    (hnew : ∀ p ∈ pm, p.i = x.it.i → D.w0.heap.size ≤ c'.ι p.id ∧ c'.ι p.id < w'.heap.size ∧ ObjRel c' p.id p.ob (w'.heap[c'.ι p.id]?) ∧ (∀ id o, s.at id = some o → c'.ι id ≠ c'.ι p.id) ∧ p.ob.wf c' N' ∧ ∀ q ∈ pm, L q.i → c'.ι q.id ≠ c'.ι p.id) :
    Inv D pre suf hist t s pr pm N' (fun j => L j ∨ j = x.it.i) c' (a.put x.it.op.dst (x.v.conc c')) w' := by
  have hxp := I.mem hx
  have hnx : ∀ id, id < s.nx → c'.ι id = c.ι id := fun id h => (hon.at_ id (.inl h)).1
  constructor
  · exact I.plan
  · exact I.its
  · exact I.run
  · exact hst
  · exact hrel
  · exact Nat.le_trans I.nxN hN
  · intro y hy h
    rcases h with h | h
    · exact I.inPre y hy h
    · rw [plan_inj hP.pair hy hxp h, ← I.its]
      exact List.mem_map_of_mem hx
  · exact fun y hy hb => .inl (I.bars y hy hb)
  · intro y hy h k hk
    rcases h with h | h
    · exact .inl (I.closed y hy h k hk)
    · rw [plan_inj hP.pair hy hxp h] at hk
      exact .inl (hanc k hk)
  · exact I.t0wf
  · exact I.tEq
  · exact I.tAt
  · intro z hz m hd h
    by_cases hzx : z = x
    · subst hzx
      rw [hd, put_eq (by rw [I.size]; exact hdst m hd)]
    · have h : L z.it.i := h.resolve_right fun e => hzx (hist_inj hP I hz hx e)
      rw [put_ne, I.tm1 z hz m hd h, hon.v (I.alw hz h)]
      intro hd'
      exact hzx (hist_inj hP I hz hx (by rw [dst_inj hP.pair (I.mem hz) hxp hd hd']))
  · intro m v hv h
    have hw : v.wf c s.nx := AV.wf_ext I.step.ext I.step.nx (I.t0wf m v hv)
    rw [put_ne (fun e => h x hx e (.inr rfl)), I.tm2 m v hv fun z hz hd hl => h z hz hd (.inl hl)]
    rw [hon.v (InV.mono (fun id h => .inl h) hw.names)]
  · intro z hz h
    by_cases hzx : z = x
    · subst hzx; exact hvw
    · have h : L z.it.i := h.resolve_right fun e => hzx (hist_inj hP I hz hx e)
      exact AV.wf_mono (hon.v_wf (I.alw hz h) (I.vwf z hz h)) hN
  · exact I.vin
  · intro z hz
    obtain ⟨b, h1, h2, h3⟩ := I.ev z hz
    exact ⟨b, h1, h2, fun h => (h3 h).monoL fun _ h => .inl h⟩
  · exact I.prok
  · exact fun p hp => ⟨(I.pmid p hp).1, Nat.lt_of_lt_of_le (I.pmid p hp).2 hN⟩
  · exact I.pmd
  · exact I.pmn
  · exact I.pmx
  · exact I.pmu
  · exact I.pmin
  · intro p hp h
    rcases h with h | h
    · obtain ⟨g1, g2, g3, g4, g5⟩ := I.pmb p hp h
      have hid : Alw s pm L p.id := .inr ⟨p, hp, rfl, h⟩
      have e := (hon.at_ p.id hid).1
      rw [e]
      have hob : InO (Alw s pm L) p.ob := InO.mono (fun id hh => by
        rcases hh with hh | ⟨q, hq, e1, y, hy, e2, hb⟩
        · exact .inl hh
        · refine .inr ⟨q, hq, e1, I.closed y (by rw [I.plan]; exact List.mem_append_left _ hy) (by rw [e2]; exact h) _ hb⟩) (I.pmin p hp)
      refine ⟨g1, Nat.lt_of_lt_of_le g2 hsz, ?_, ?_, AObj.wf_mono (hon.o_wf hob g5) hN⟩
      · rw [hheap _ g2]; exact hon.obj hid hob g3
      · intro id o ho
        rw [hnx id (I.rel.lt id o ho)]
        exact g4 id o ho
    · obtain ⟨g1, g2, g3, g4, g5, _⟩ := hnew p hp h
      exact ⟨g1, g2, g3, g4, g5⟩
  · intro p hp q hq h1 h2 hne
    rcases h1 with h1 | h1 <;> rcases h2 with h2 | h2
    · rw [(hon.at_ p.id (.inr ⟨p, hp, rfl, h1⟩)).1, (hon.at_ q.id (.inr ⟨q, hq, rfl, h2⟩)).1]
      exact I.pmj p hp q hq h1 h2 hne
    · exact (hnew q hq h2).2.2.2.2.2 p hp h1
    · exact fun e => (hnew p hp h1).2.2.2.2.2 q hq h2 e.symm
    · exact absurd (by rw [I.pmu p hp q hq (h1.trans h2.symm)]) hne
  · rw [put_defers_eq]; exact I.defs
  · rw [put_size_eq]; exact I.size

theorem On.refl {p : Nat → Prop} (c : Cx) : On p c c := ⟨rfl, fun _ _ => ⟨rfl, rfl⟩⟩

theorem GuardV.inj {g : Option (Nat × Bool)} {t : Tmps} {b b' : Bool} (h : GuardV g t b) (h' : GuardV g t b') : b = b' := by
  cases g with
  | none => have h : b = true := h; have h' : b' = true := h'; rw [h, h']
  | some p =>
    obtain ⟨v, h1, h2⟩ := h
    obtain ⟨v', h1', h2'⟩ := h'
    rw [h1] at h1'; injection h1' with h1'; subst h1'
    rw [h2] at h2'; injection h2' with h2'

theorem compOp_p {T : TyT} {o : Op} {p : POp} (h : compOp T o = some (.p p)) : compP T o = some p ∨ p = .stuck := by
  unfold compOp at h
  split at h
  · rename_i q hq; injection h with h; injection h with h; subst h; exact .inl hq
  · right
    (repeat' split at h) <;> simp at h
    exact h.symm
theorem compOp_r {T : TyT} {o : Op} {p : ROp} (h : compOp T o = some (.r p)) : compR T o = some p := by
  unfold compOp at h
  (repeat' split at h) <;> simp_all
theorem compOp_m {T : TyT} {o : Op} {p : MOp} (h : compOp T o = some (.m p)) : compM T o = some p := by
  unfold compOp at h
  (repeat' split at h) <;> simp_all
theorem compOp_b {T : TyT} {o : Op} {p : BOp} (h : compOp T o = some (.b p)) : compB T o = some p := by
  unfold compOp at h
  (repeat' split at h) <;> simp_all

theorem View.mono {c : Cx} {s : S} {w : World} (h : Rel c s w) {N : Nat} (hN : s.nx ≤ N) : View c N s w :=
  ⟨h.sat, fun id o ho => AObj.wf_mono (h.wf id o ho) hN, h.obj⟩

theorem extT_get : ∀ {l : List PM} {id : Nat} {o : AObj}, (extT l).get (Nat.succ id) = some o → ∃ p ∈ l, p.id = id ∧ p.ob = o := by
  intro l
  induction l with
  | nil => intro id o h; cases h
  | cons p l ih =>
    intro id o h
    rw [extT_cons, Tree.get_set _ _ _ _ (by omega) (by omega)] at h
    split at h
    · rename_i e
      injection h with h
      exact ⟨p, List.mem_cons_self .., by omega, h⟩
    · obtain ⟨q, hq, e⟩ := ih h
      exact ⟨q, List.mem_cons_of_mem _ hq, e⟩
theorem View.ext {c : Cx} {N : Nat} {w : World} {l : List PM} (hl : ∀ p ∈ l, ObjRel c p.id p.ob (w.heap[c.ι p.id]?) ∧ p.ob.wf c N) : View c N (extS l) w := by
  refine ⟨⟨?_, fun i lo hi h => (by cases h), fun c hc => (by cases hc)⟩, ?_, ?_⟩
  · have e : (extS l).φ.mask = List.replicate 16 true := rfl
    rw [e, List.getElem?_replicate, if_pos c.σ.f_lt]
  · intro id o ho
    obtain ⟨p, hp, _, e⟩ := extT_get (show (extT l).get (Nat.succ id) = some o from ho)
    rw [← e]; exact (hl p hp).2
  · intro id o ho
    obtain ⟨p, hp, e1, e⟩ := extT_get (show (extT l).get (Nat.succ id) = some o from ho)
    rw [← e, ← e1]; exact (hl p hp).1

/-- An operation that was worked out ahead comes to its turn. -/
theorem Inv.fire (hT : TOk P T) (hP : PlanOk T ops D.n D.plan) (hdst : ∀ (j d : Nat), (ops[j]?).bind (·.dst) = some d → d < D.n) (I : Inv D pre suf hist t s pr pm N L c a w) {x : HI} (hx : x ∈ hist) (hl : ¬ L x.it.i)
    (hanc : ∀ k, Nat.testBit x.it.anc k = true → L k) {K : Act → World → Prop} {Q : Exit → Act → World → Prop}
    (hK : ∀ c' a' w' N', Inv D pre suf hist t s pr pm N' (fun j => L j ∨ j = x.it.i) c' a' w' → K a' w') : wpOp P ops Q x.it.i K a w := by
  have hxp := I.mem hx
  obtain ⟨o, ho, hc⟩ := hP.op _ hxp
  obtain ⟨hcop, hdo, hdlt, _⟩ := compOper_some hc
  obtain ⟨h1, h2, eh⟩ := List.append_of_mem hx
  have hpw : hist.Pairwise fun x y => okPair x.it y.it = true := by
    have h1 := hP.pair
    rw [I.plan, ← I.its] at h1
    exact List.pairwise_map.1 (List.pairwise_append.1 h1).1
  rw [eh] at hpw
  obtain ⟨_, hpw2, hpw3⟩ := List.pairwise_append.1 hpw
  rw [List.pairwise_cons] at hpw2
  have hxt := I.tAt h1 x h2 eh
  have star : ∀ m ∈ x.it.op.uses, ∀ v, x.t.get (Nat.succ m) = some v → a.tmps.getD m undef = v.conc c ∧ v.wf c N ∧ InV (Alw s pm L) v := by
    intro m hm v hv
    rw [hxt] at hv
    refine I.slot hP (h2 := x :: h2) eh hxp hl hanc (fun z hz => hpw3 z hz x (List.mem_cons_self ..)) ?_ hm hv
    intro z hz
    rcases List.mem_cons.1 hz with rfl | hz
    · exact .inl rfl
    · exact .inr (hpw2.1 z hz)
  have hd : ∀ d, x.it.op.dst = some d → d < D.n := by
    intro d hd
    rw [hdo] at hd
    rw [hd] at hdlt
    exact (natBle_iff _ _).1 hdlt
  obtain ⟨b, hg, hb1, hb2⟩ := I.ev x hx
  have hw := wanted_of (c := c) hc hg (fun j d h => by rw [I.size]; exact hdst j d h) (fun m hm v hv => (star m hm v hv).1)
  have stay : ∀ {v : Value}, v = x.v.conc c → (∀ p ∈ pm, p.i ≠ x.it.i) → x.v.wf c N → K (a.put o.dst v) w := by
    intro v hv hno hvw
    rw [hv, ← hdo]
    exact hK c _ w N (I.fired hP hx hl hanc (Nat.le_refl _) (On.refl c) I.step I.rel hvw hd (fun _ _ => rfl) (Nat.le_refl _) (fun p hp e => absurd e (hno p hp)))
  have hno : (∀ o', x.it.op.op ≠ .m o') ∨ b = false → ∀ p ∈ pm, p.i ≠ x.it.i := by
    intro h p hp e
    obtain ⟨z, hz, e1, ⟨o', e2⟩, e3⟩ := I.pmx p hp
    have hzx := hist_inj hP I hz hx (e1.trans e)
    subst hzx
    rcases h with h | h
    · exact h o' e2
    · subst h; have := hg.inj e3; cases this
  unfold wpOp
  simp only [ho]
  cases b with
  | false =>
    simp only [hw, Bool.false_eq_true, if_false]
    have hv : x.v = .undef := hb1 rfl
    exact stay (by rw [hv]; rfl) (hno (.inr rfl)) (by rw [hv]; trivial)
  | true =>
    simp only [hw, if_true]
    refine .inl ?_
    have hev := hb2 rfl
    unfold EvI at hev
    unfold Oper.wp
    have trel : TRel c N (restr x.t (uses x.it.op.op)) a.tmps := by
      intro m v hv
      rw [restr_get] at hv
      split at hv
      · rename_i hm
        have := star m (uses_sub hm) v hv
        exact ⟨this.1, this.2.1⟩
      · cases hv
    split at hev
    · rename_i po hop
      rw [hop] at hcop trel hno
      obtain ⟨φ, hs, hp⟩ := hev
      rw [pureOp_congr (t' := restr x.t (usesP po)) (restr_agree _ _)] at hp
      have hs' : Sat c.σ φ := by rw [I.σ]; exact hs
      rcases compOp_p hcop with hcp | hcp
      rotate_left
      · subst hcp; cases hp
      obtain ⟨e1, e2⟩ := pure_sound hT hcp trel hs' hp
      rw [show Sem.run P (execOp a.eval o) w = .ok (.value (x.v.conc c)) w from e1 w, Oper.upon_value]
      exact stay rfl (hno (.inl (by simp))) e2
    · rename_i ro hop
      rw [hop] at hcop trel hno
      rcases hev with h | ⟨l, hev, hla⟩
      · exact absurd h hl
      obtain ⟨hp, hpl⟩ := I.prok _ hev
      have hp : readOp x.t (rdOf l s) ro = some x.v := hp
      have hpl : ∀ p ∈ l, p ∈ pm := hpl
      have hview : View c N (rdOf l s) w := by
        cases l with
        | nil => exact View.mono I.rel I.nxN
        | cons q l => exact View.ext fun p hp => have g := I.pmb p (hpl p hp) (hanc _ (hla p hp)); ⟨g.2.2.1, g.2.2.2.2⟩
      rw [readOp_congr (t' := restr x.t (usesR ro)) (restr_agree _ _)] at hp
      obtain ⟨e1, e2⟩ := read_sound hT (compOp_r hcop) trel hview hp
      rw [e1, Oper.upon_value]
      exact stay rfl (hno (.inl (by simp))) e2
    · rename_i mo hop
      rw [hop] at hcop
      rcases hev with h | ⟨ob, hmk, hpm, hsl⟩
      · exact absurd h hl
      have hid := I.pmid _ hpm
      have hid1 : s.nx ≤ D.base + x.it.off := hid.1
      have hid2 : D.base + x.it.off < N := hid.2
      have trel' : TRel c (D.base + x.it.off) (restr x.t (usesM mo)) a.tmps := by
        intro m v hv
        rw [restr_get] at hv
        split at hv
        · rename_i hm
          have h1 := star m (uses_sub (by rw [hop]; exact hm)) v hv
          have h2 := (lall_iff _ _).1 hsl m hm
          simp only [slotIn, hv] at h2
          have h3 := inV_spec h2
          exact ⟨h1.1, InV.wf (InV.mono (fun id h => (natBle_iff _ _).1 h) h3) h1.2.1⟩
        · cases hv
      rw [makeOp_congr (t' := restr x.t (usesM mo)) (restr_agree _ _)] at hmk
      obtain ⟨obj, e1, e2, e3, e4⟩ := make_sound (s := ⟨s.h, D.base + x.it.off, s.φ⟩) (w := w) hT (compOp_m hcop) trel' hmk
      have e1 : Sem.run P (execOp a.eval o) w = .ok (.value (x.v.conc (c.set2 (D.base + x.it.off) w.heap.size 0))) (w.alloc obj) := e1
      have e2 : x.v.wf (c.set2 (D.base + x.it.off) w.heap.size 0) (D.base + x.it.off + 1) := e2
      have e3 : ob.wf (c.set2 (D.base + x.it.off) w.heap.size 0) (D.base + x.it.off + 1) := e3
      have e4 : ObjRel (c.set2 (D.base + x.it.off) w.heap.size 0) (D.base + x.it.off) ob (some obj) := e4
      rw [e1, Oper.upon_value, ← hdo]
      have hne : ∀ id, Alw s pm L id → id ≠ D.base + x.it.off := by
        rintro id (h | ⟨p, hp, rfl, hpl⟩) e
        · omega
        · have := I.pmd p hp _ hpm e
          subst this
          exact hl hpl
      have hon : On (Alw s pm L) c (c.set2 (D.base + x.it.off) w.heap.size 0) := ⟨rfl, fun id h => by simp [Cx.set2, hne id h]⟩
      have hself : (c.set2 (D.base + x.it.off) w.heap.size 0).ι (D.base + x.it.off) = w.heap.size := by simp [Cx.set2]
      refine hK _ _ _ N (I.fired hP hx hl hanc (Nat.le_refl _) hon (I.step.early I.rel hid1 obj) (I.rel.early hid1 obj) (AV.wf_mono e2 (by omega)) hd (fun b hb => heap_alloc_old w obj hb) (by simp) ?_)
      intro p hp e
      have := I.pmu p hp _ hpm e
      subst this
      show _ ≤ (c.set2 (D.base + x.it.off) w.heap.size 0).ι (D.base + x.it.off) ∧ _
      simp only [hself]
      refine ⟨I.step.size, by simp, ?_, ?_, AObj.wf_mono e3 (by omega), ?_⟩
      · rw [heap_alloc_new w obj]; exact e4
      · intro id o' ho'
        rw [(hon.at_ id (.inl (I.rel.lt id o' ho'))).1]
        have := I.rel.ι_lt ho'
        omega
      · intro q hq hql
        rw [(hon.at_ q.id (.inr ⟨q, hq, rfl, hql⟩)).1]
        have := (I.pmb q hq hql).2.1
        omega
    · rename_i bo hop
      exact absurd (I.bars x.it (by rw [← I.its]; exact List.mem_map_of_mem hx) (by rw [hop]; rfl)) hl
end
end Go.Sy

