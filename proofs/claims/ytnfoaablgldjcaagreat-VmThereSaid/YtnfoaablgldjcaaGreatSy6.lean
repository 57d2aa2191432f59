/- The symbolic executor: parts Zb, Zc, Ze, Zf, Zg, Zh, Zi, Zj, Zk. Sound by one theorem (callA_ok). No condition. -/
import Derived.Test.YtnfoaablgldjcaaGreatSy5
import Derived.Laws.IdiomRangeMap
import Derived.LoopN
set_option linter.unusedVariables false
set_option linter.unusedSimpArgs false
set_option linter.unusedSectionVars false
/-! The symbolic executor, part Zb: pieces of printed functions; the run of a law over a small input. -/
namespace Go.Sy
set_option linter.unusedVariables false
set_option linter.unusedSectionVars false
noncomputable section

theorem Tree.allLeaf {α : Type} {p : Nat → α → Prop} : (Tree.leaf : Tree α).AllP p := trivial
theorem Tree.allNode {α : Type} {p : Nat → α → Prop} {l r : Tree α} {v : Option α} (h2 : l.AllP fun m => p (2 * m)) (h1 : ∀ x, v = some x → p 1 x) (h3 : r.AllP fun m => p (2 * m + 1)) : (Tree.node l v r).AllP p := ⟨h1, h2, h3⟩

def seqL : Code → Code
  | .seq a _ => a
  | c => c
def seqR : Code → Code
  | .seq _ b => b
  | c => c
def blkB : Code → Code
  | .block _ b => b
  | c => c
def loopB : Code → Code
  | .loop b => b
  | c => c
def regId : Code → Nat
  | .region i _ _ => i
  | _ => 0
def regOps : Code → Array Oper
  | .region _ o _ => o
  | _ => #[]
def noOper : Oper := ⟨none, .panic (.func 0), 0, "", #[], none⟩
def operAt (c : Code) (i : Nat) : Oper := ((regOps c).toList[i]?).getD noOper
def callOf : Op → Call
  | .defer c => c
  | .call c => c
  | _ => ⟨.value (.func 0), #[], #[]⟩
def operTail (c : Code) : List Oper := (regOps c).toList.drop 1

theorem xD_ok {P : Program} {T : TyT} (hT : TOk P T) (hm : P.follows .mixedOrders = true) {f0 : Nat} {x : ADef} {func cf : Func} {A B C : Code} {id cid : Nat} {o1 o2 r : Oper} {c2 cr : Call} {cops : Array Oper} {rest : List Oper} {hint chint : Nat → List (Nat × Nat)}
    (hx : DefOk P T f0 x func cf A B C id cid o1 o2 r c2 cr cops rest hint chint) (call : CallF) (hcall : CallOk P call) : XOk1 P f0 (runD call x) :=
  fun args s k hk c w h hw => .inl ⟨hx.call _ w, runD_sound hT hcall hm hx hk h hw⟩

theorem via_ok {P : Program} {T : TyT} (hT : TOk P T) (hm : P.follows .mixedOrders = true) {f : Nat} {fn : AFunc} (hf : ∃ func code hint, FnOk P T f fn func code hint) {conv : AV → Phi → Option (AV × Phi)} (hc : ConvOk conv)
    (call : CallF) (hcall : CallOk P call) : XOk1 P f (xVia fn conv call) := by
  obtain ⟨func, code, hint, hf⟩ := hf
  exact xVia_ok hT hm hf hc call hcall

/-- the numbers and the bytes of an input -/
def cutN (x : Int) (m : Nat) : Int := (x.tmod m + m).tmod m
def forkOf (x : Int) : Nat := (cutN x 16).toNat
theorem forkOf_lt (x : Int) : forkOf x < 16 := by
  have := cut_range x 16 (by omega)
  unfold forkOf cutN
  omega
def envOf (x : Nat → Int) (o : Value) (ho : o.oneCell' = true) : Env where
  f := forkOf (x 0)
  v := fun i => if i < 1000 then x i else cutN (x 1) (i - 1000)
  o := fun _ => o
  one := fun _ => ho
  f_lt := forkOf_lt _
  f_eq := by
    have h : 0 ≤ cutN (x 0) 16 := (cut_range (x 0) 16 (by omega)).1
    have e : cutN (x 0) 16 = (((x 0).tmod 16) + 16).tmod 16 := rfl
    show ((cutN (x 0) 16).toNat : Int) = (((x 0).tmod 16) + 16).tmod 16
    rw [← e]
    omega
  n_eq := fun m => by
    rw [if_neg (by omega), if_pos (by omega)]
    have : 1000 + m - 1000 = m := by omega
    rw [this]; rfl

def i64R (φ : Phi) (i : Nat) : Phi := setRng φ i (.negSucc 9223372036854775807) (.ofNat 9223372036854775807)
def u64R (φ : Phi) (i : Nat) : Phi := setRng φ i (.ofNat 0) (.ofNat 18446744073709551615)
def phi0 (m : List Bool) : Phi := ⟨m, .leaf, []⟩
/-- a fork, a number, eight words: what is known of them ahead -/
def phiSmall (m : List Bool) : Phi := u64R (u64R (u64R (u64R (u64R (u64R (u64R (u64R (i64R (i64R (phi0 m) 0) 1) 2) 3) 4) 5) 6) 7) 8) 9
def argSmall : AV := .w (.agg [.int .i64 (.var 0), .int .i64 (.var 1), .int .u64 (.var 2), .int .u64 (.var 3), .int .u64 (.var 4), .int .u64 (.var 5), .int .u64 (.var 6), .int .u64 (.var 7), .int .u64 (.var 8), .int .u64 (.var 9), .opq 0])
def kTrue : KC := fun r _ => match r with
  | .val v => vEq v (vBool true)
  | .panic _ => false
def inI64 (x : Int) : Prop := -9223372036854775808 ≤ x ∧ x ≤ 9223372036854775807
def inU64 (x : Int) : Prop := 0 ≤ x ∧ x ≤ 18446744073709551615

theorem phi0_sat {σ : Env} {m : List Bool} (h : m[σ.f]? = some true) : Sat σ (phi0 m) := ⟨h, fun i lo hi h => (by cases h), fun c hc => (by cases hc)⟩
theorem i64R_sat {σ : Env} {φ : Phi} {i : Nat} (hs : Sat σ φ) (h : inI64 (σ.v i)) : Sat σ (i64R φ i) := setRng_sat hs h
theorem u64R_sat {σ : Env} {φ : Phi} {i : Nat} (hs : Sat σ φ) (h : inU64 (σ.v i)) : Sat σ (u64R φ i) := setRng_sat hs h
theorem phiSmall_sat {σ : Env} {m : List Bool} (h : m[σ.f]? = some true) (h0 : inI64 (σ.v 0)) (h1 : inI64 (σ.v 1)) (h2 : inU64 (σ.v 2)) (h3 : inU64 (σ.v 3)) (h4 : inU64 (σ.v 4)) (h5 : inU64 (σ.v 5)) (h6 : inU64 (σ.v 6)) (h7 : inU64 (σ.v 7)) (h8 : inU64 (σ.v 8)) (h9 : inU64 (σ.v 9)) : Sat σ (phiSmall m) :=
  u64R_sat (u64R_sat (u64R_sat (u64R_sat (u64R_sat (u64R_sat (u64R_sat (u64R_sat (i64R_sat (i64R_sat (phi0_sat h) h0) h1) h2) h3) h4) h5) h6) h7) h8) h9

/-- the mask of one fork -/
def maskOf (i : Nat) : List Bool := lmap (fun j => Nat.beq i j) [0, 1, 2, 3, 4, 5, 6, 7, 8, 9, 10, 11, 12, 13, 14, 15]

theorem kTrue_spec {r : Ret} {s : S} (h : kTrue r s = true) : r = .val (vBool true) := by
  cases r with
  | val v => exact congrArg Ret.val (vEq_spec _ _ h)
  | panic v => cases h

/-- the law's answer is true in every world -/
def SaysTrue (P : Program) (f : Nat) (args : Array Value) (w : World) : Prop :=
  CallRuns P f args w fun e w' => match e with
    | .returned u => u = .bool true ∧ Go.RowKit.Below w.heap.size w w'
    | .panicked _ => False
    | .outgrown => False

theorem says_of_run {P : Program} {call : CallF} (hcall : CallOk P call) {f : Nat} {args : List AV} {φ : Phi} (hrun : call f args ⟨.leaf, 0, φ⟩ kTrue = true) {σ : Env} (hs : Sat σ φ)
    (hw : ∀ c : Cx, ∀ v ∈ args, v.wf c 0) (w : World) : SaysTrue P f (args.map (AV.conc ⟨fun _ => 0, fun _ => 0, σ⟩)).toArray w := by
  have hrel : Rel ⟨fun _ => 0, fun _ => 0, σ⟩ ⟨.leaf, 0, φ⟩ w := ⟨hs, fun id o h => (by cases h), fun id o h => (by cases h), fun id o h => (by cases h), fun id id' o o' h => (by cases h)⟩
  have := hcall f args _ _ hrun _ w hrel (hw _)
  have key : ∀ e w', CPost ⟨fun _ => 0, fun _ => 0, σ⟩ ⟨.leaf, 0, φ⟩ w kTrue e w' → (match e with
    | .returned u => u = .bool true ∧ Go.RowKit.Below w.heap.size w w'
    | .panicked _ => False
    | .outgrown => False : Prop) := by
    intro e w' h
    cases e with
    | returned u =>
      obtain ⟨c', v, s', e1, e2, e3, e4, e5⟩ := h
      have hv := kTrue_spec e5
      injection hv with hv
      subst hv
      exact ⟨e1, e3.below fun id => rfl⟩
    | panicked ch =>
      obtain ⟨c', v, s', e1, e2, e3, e4, e5⟩ := h
      cases e5
    | outgrown => exact h.elim
  rcases this with ⟨h1, h2⟩ | ⟨v, w', h1, h2⟩
  · exact .inl ⟨h1, Calls.mono h2 fun e w' h => key e w' h⟩
  · exact .inr ⟨v, w', h1, key (.returned v) w' h2⟩

theorem SaysTrue.calls {P : Program} {f : Nat} {args : Array Value} {w : World} (hc : (callFunc f args).run P w = .ok (.enter f args) w) (h : SaysTrue P f args w) :
    Calls P f args w fun e w' => e = .returned (.bool true) ∧ Go.RowKit.Below w.heap.size w w' := by
  rcases h with ⟨_, h⟩ | ⟨v, w', h, _⟩
  · refine Calls.mono h fun e w' h => ?_
    cases e with
    | returned u => exact ⟨by rw [h.1], h.2⟩
    | panicked ch => exact h.elim
    | outgrown => exact h.elim
  · rw [hc] at h
    injection h with h
    cases h

theorem maskOf_at (i : Nat) (h : i < 16) : (maskOf i)[i]? = some true := by
  have : ∀ i, i < 16 → (maskOf i)[i]? = some true := by
    intro i h
    have e : maskOf i = [0, 1, 2, 3, 4, 5, 6, 7, 8, 9, 10, 11, 12, 13, 14, 15].map fun j => Nat.beq i j := lmap_eq ..
    rw [e, List.getElem?_map]
    have e2 : [0, 1, 2, 3, 4, 5, 6, 7, 8, 9, 10, 11, 12, 13, 14, 15] = List.range 16 := rfl
    rw [e2, List.getElem?_range h]
    simp
  exact this i h

/-- A law over a small input, run fork by fork: its answer is true in every world. -/
theorem law_small {P : Program} {call : CallF} (hcall : CallOk P call) {f : Nat} (hc : ∀ args w, (callFunc f args).run P w = .ok (.enter f args) w) (hrun : ∀ i, i < 16 → call f [argSmall] ⟨.leaf, 0, phiSmall (maskOf i)⟩ kTrue = true)
    (x : Nat → Int) (o : Value) (ho : o.oneCell' = true) (h0 : inI64 (x 0)) (h1 : inI64 (x 1)) (h2 : inU64 (x 2)) (h3 : inU64 (x 3)) (h4 : inU64 (x 4)) (h5 : inU64 (x 5)) (h6 : inU64 (x 6)) (h7 : inU64 (x 7)) (h8 : inU64 (x 8)) (h9 : inU64 (x 9)) (w : World) :
    Calls P f #[.agg #[.int .i64 (x 0), .int .i64 (x 1), .int .u64 (x 2), .int .u64 (x 3), .int .u64 (x 4), .int .u64 (x 5), .int .u64 (x 6), .int .u64 (x 7), .int .u64 (x 8), .int .u64 (x 9), o]] w fun e w' => e = .returned (.bool true) ∧ Go.RowKit.Below w.heap.size w w' := by
  have hs : Sat (envOf x o ho) (phiSmall (maskOf (forkOf (x 0)))) := phiSmall_sat (maskOf_at _ (forkOf_lt _)) h0 h1 h2 h3 h4 h5 h6 h7 h8 h9
  have := says_of_run hcall (hrun _ (forkOf_lt (x 0))) hs (by
    intro c v hv
    rcases List.mem_cons.1 hv with rfl | hv
    · intro y hy
      simp only [List.mem_cons, List.not_mem_nil, or_false] at hy
      rcases hy with rfl | rfl | rfl | rfl | rfl | rfl | rfl | rfl | rfl | rfl | rfl <;> trivial
    · cases hv) w
  exact this.calls (hc _ _)
end
end Go.Sy

/-! The symbolic executor, part Zc: what a function answers to given numbers, found once. -/
namespace Go.Sy
set_option linter.unusedVariables false
set_option linter.unusedSectionVars false
noncomputable section

def kIs (r : AV) : KC := fun q _ => match q with
  | .val v => vEq v r
  | .panic _ => false
def allF : List Bool := [true, true, true, true, true, true, true, true, true, true, true, true, true, true, true, true]
theorem allF_at (i : Nat) (h : i < 16) : allF[i]? = some true := by
  have e : allF = List.replicate 16 true := rfl
  rw [e, List.getElem?_replicate, if_pos h]
def sAll : S := ⟨.leaf, 0, phi0 allF⟩
def xMemo (tab : List AV → Option AV) : CallX := fun args s k => optB (tab args) fun r => k (.val r) s

theorem memo_ok {P : Program} {call0 : CallF} (h0 : CallOk P call0) {f : Nat} {tab : List AV → Option AV}
    (htab : ∀ args r, tab args = some r → call0 f args sAll (kIs r) = true ∧ (∀ c : Cx, ∀ v ∈ args, v.wf c 0) ∧ (∀ c : Cx, r.wf c 0)) : XOk1 P f (xMemo tab) := by
  intro args s k hk c w h hw
  obtain ⟨r, hr, hk⟩ := optB_true (show optB (tab args) _ = true from hk)
  obtain ⟨h1, h2, h3⟩ := htab args r hr
  have hrel : Rel c sAll w := ⟨phi0_sat (allF_at _ c.σ.f_lt), fun id o h => (by cases h), fun id o h => (by cases h), fun id o h => (by cases h), fun id id' o o' h => (by cases h)⟩
  have key : ∀ e w', CPost c sAll w (kIs r) e w' → CPost c s w k e w' := by
    intro e w' he
    cases e with
    | returned u =>
      obtain ⟨c', v, s', e1, e2, e3, e4, e5⟩ := he
      have hv : v = r := vEq_spec _ _ e5
      subst hv
      have hcc : v.conc c' = v.conc c := AV.conc_ext (nx := 0) e3.ext (h3 c)
      have hfr : ∀ b, b < w.heap.size → w'.heap[b]? = w.heap[b]? := fun b hb => e3.frame b hb fun id o h => by cases h
      exact ⟨c, v, s, by rw [e1, hcc], AV.wf_ext (Cx.Ext.refl 0 c) (Nat.zero_le _) (h3 c),
        ⟨.refl _ _, Nat.le_refl _, e3.os, e3.tape, e3.output, e3.size, fun b hb _ => hfr b hb, fun id o h => .inr ⟨id, o, h, rfl⟩⟩,
        ⟨h.sat, h.lt, h.wf, fun id o ho => by rw [hfr _ (h.ι_lt ho)]; exact h.obj id o ho, h.inj⟩, hk⟩
    | panicked ch =>
      obtain ⟨c', v, s', e1, e2, e3, e4, e5⟩ := he
      cases e5
    | outgrown => exact he.elim
  rcases h0 f args _ _ h1 c w hrel (h2 c) with ⟨g1, g2⟩ | ⟨v, w', g1, g2⟩
  · exact .inl ⟨g1, Calls.mono g2 fun e w' h => key e w' h⟩
  · exact .inr ⟨v, w', g1, key (.returned v) w' g2⟩

/-- a function of no argument that says yes -/
def yesTab : List AV → Option AV := fun args => match args with
  | [] => some (vBool true)
  | _ => none
theorem yes_ok {P : Program} {call0 : CallF} (h0 : CallOk P call0) {f : Nat} (h : call0 f [] sAll (kIs (vBool true)) = true) : XOk1 P f (xMemo yesTab) := by
  refine memo_ok h0 fun args r hr => ?_
  unfold yesTab at hr
  split at hr <;> try (simp at hr; done)
  injection hr with hr; subst hr
  exact ⟨h, fun c v hv => (by cases hv), fun c => trivial⟩

/-- a number's range cut at places, smallest first; each piece goes its own way -/
def cutsK (i : Nat) (l : List Int) : Phi → (Phi → Bool) → Bool :=
  List.rec (fun φ k => k φ) (fun b _ ih φ k => brc φ (.le (.var i) (.lit b)) fun e φ => match e with | true => k φ | false => ih φ k) l
theorem cutsK_cons (i : Nat) (b : Int) (l : List Int) (φ : Phi) (k : Phi → Bool) : cutsK i (b :: l) φ k = brc φ (.le (.var i) (.lit b)) fun e φ => match e with | true => k φ | false => cutsK i l φ k := rfl
theorem cutsK_spec {σ : Env} (i : Nat) : ∀ (l : List Int) {φ : Phi} {k : Phi → Bool}, Sat σ φ → cutsK i l φ k = true → ∃ φ', Sat σ φ' ∧ k φ' = true := by
  intro l
  induction l with
  | nil => intro φ k hs h; exact ⟨φ, hs, h⟩
  | cons b l ih =>
    intro φ k hs h
    rw [cutsK_cons] at h
    obtain ⟨φ', hs', h'⟩ := brc_spec hs h
    split at h'
    · exact ⟨φ', hs', h'⟩
    · exact ih hs' h'
/-- a function, run with a number's range cut ahead -/
def xCut (fn : AFunc) (i : Nat) (l : List Int) : CallY := fun call args s k => match s with
  | .mk h nx φ => cutsK i l φ fun φ => runF call fn args ⟨h, nx, φ⟩ k
theorem cut_ok {P : Program} {T : TyT} (hT : TOk P T) (hm : P.follows .mixedOrders = true) {f : Nat} {fn : AFunc} (hf : ∃ func code hint, FnOk P T f fn func code hint) {i : Nat} {l : List Int}
    (call : CallF) (hcall : CallOk P call) : XOk1 P f (xCut fn i l call) := by
  obtain ⟨func, code, hint, hf⟩ := hf
  intro args s k hk c w h hw
  obtain ⟨hh, nx, φ⟩ := s
  obtain ⟨φ', hs', hk'⟩ := cutsK_spec i l h.sat (show cutsK i l φ _ = true from hk)
  refine .inl ⟨hf.call _ w, Calls.mono (runF_sound hT hcall hm hf hk' (h.facts hs') hw) fun e w' he => ?_⟩
  have hst := Step.facts c ⟨hh, nx, φ⟩ w φ'
  cases e with
  | returned u =>
    obtain ⟨c', v, s', e1, e2, e3, e4, e5⟩ := he
    exact ⟨c', v, s', e1, e2, hst.trans e3, e4, e5⟩
  | panicked ch =>
    obtain ⟨c', v, s', e1, e2, e3, e4, e5⟩ := he
    exact ⟨c', v, s', e1, e2, hst.trans e3, e4, e5⟩
  | outgrown => exact he.elim
end
end Go.Sy

/-! The symbolic executor, part Ze: 'delete what a test names' on a map without entries. -/
namespace Go.Sy
set_option linter.unusedVariables false
set_option linter.unusedSectionVars false
noncomputable section

section
variable {P : Program} {ops : Array Oper} {Q : Exit → Act → World → Prop} {a : Act} {w : World}
theorem wpList_val {rest : List Oper} {o : Oper} {v : Value} {w' : World} (hg : o.guard = none) (hr : (execOp a.eval o).run P w = .ok (.value v) w') (h : wpList P ops Q rest (a.put o.dst v) w') : wpList P ops Q (o :: rest) a w := by
  unfold wpList
  rw [if_pos (by simp [Region.wanted, hg])]
  refine .inl ?_
  show o.upon P a _ Q _
  rw [hr, Oper.upon_value]; exact h
theorem eval_put {d : Nat} {v : Value} (h : d < a.tmps.size) : (a.put (some d) v).eval (.tmp d) = v := by
  simp [Act.put, Act.eval, h]
theorem put_size {d : Option Nat} {v : Value} : (a.put d v).tmps.size = a.tmps.size := by
  cases d <;> simp [Act.put]
theorem put_defers {d : Option Nat} {v : Value} : (a.put d v).defers = a.defers := by
  cases d <;> simp [Act.put]

structure DelOk (P : Program) (f : Nat) (func : Func) (ty kt vt : TypeId) (i0 i1 : Nat) (o0 o1 n0 n1 : Oper) (B : Code) : Prop where
  at_ : P.funcs[f]? = some func
  call : ∀ args w, (callFunc f args).run P w = .ok (.enter f args) w
  body : func.body = some (.seq (.region i0 #[o0, o1] false) (.block 0 (.loop (.seq (.region i1 #[n0, n1] false) (.seq (.cond (.tmp 9) .skip (.exit 0)) B)))))
  ntmps : func.ntmps = 19
  res : func.results = #[]
  und : P.underlying ty = some (.map kt vt)
  p0 : o0.op = .move (.tmp 0)
  d0 : o0.dst = some 6
  g0 : o0.guard = none
  p1 : o1.op = .range ty (.tmp 6)
  d1 : o1.dst = some 7
  g1 : o1.guard = none
  p2 : n0.op = .next (.tmp 7) false
  d2 : n0.dst = some 8
  g2 : n0.guard = none
  p3 : n1.op = .extract (.tmp 8) 0
  d3 : n1.dst = some 9
  g3 : n1.guard = none

theorem del_calls {f : Nat} {func : Func} {ty kt vt : TypeId} {i0 i1 : Nat} {o0 o1 n0 n1 : Oper} {B : Code} (h : DelOk P f func ty kt vt i0 i1 o0 o1 n0 n1 B) {m c : Value} {it : Obj}
    (hrange : (Instr.range ty m).run P w = .ok (.pointer (some ⟨w.heap.size, 0, none⟩)) (w.alloc it)) (hnext : ∀ t, (Instr.next (.pointer (some ⟨w.heap.size, 0, none⟩)) false t).run P (w.alloc it) = .ok (.tuple #[.bool false]) (w.alloc it)) :
    Calls P f #[m, c] w fun e w' => e = .returned (.tuple #[]) ∧ w' = w.alloc it := by
  obtain ⟨hat, hcall, hb, hn, hres, hund, p0, d0, g0, p1, d1, g1, p2, d2, g2, p3, d3, g3⟩ := h
  refine calls_of_wp hat hb ?_
  rw [hn]
  have hsz : (#[m, c] ++ Array.replicate (19 - (#[m, c] : Array Value).size) undef).size = 19 := by simp
  have h0 : (#[m, c] ++ Array.replicate (19 - (#[m, c] : Array Value).size) undef).getD 0 undef = m := by rw [Array.getD_eq_getD_getElem?, Array.getElem?_append_left (by simp)]; rfl
  generalize #[m, c] ++ Array.replicate (19 - (#[m, c] : Array Value).size) undef = T at hsz h0
  refine wp_seq (wp_region_list ?_)
  show wpList P _ _ [o0, o1] _ _
  refine wpList_val g0 (v := m) (w' := w) ?_ ?_
  · obtain ⟨dst, op, t, pos, af, g⟩ := o0
    have p0 : op = _ := p0
    subst p0
    have : (⟨T, []⟩ : Act).eval (.tmp 0) = m := h0
    simp [execOp, this]
  rw [d0]
  generalize ha1 : (⟨T, []⟩ : Act).put (some 6) m = a1
  have s1 : a1.tmps.size = 19 := by rw [← ha1, put_size]; exact hsz
  have f1 : a1.defers = [] := by rw [← ha1, put_defers]
  have e1 : a1.eval (.tmp 6) = m := by rw [← ha1]; exact eval_put (by show 6 < T.size; omega)
  clear ha1
  refine wpList_val g1 (v := .pointer (some ⟨w.heap.size, 0, none⟩)) (w' := w.alloc it) ?_ ?_
  · obtain ⟨dst, op, t, pos, af, g⟩ := o1
    have p1 : op = _ := p1
    subst p1
    simp [execOp, e1, hrange]
  rw [d1]
  generalize ha2 : a1.put (some 7) (.pointer (some ⟨w.heap.size, 0, none⟩)) = a2
  have s2 : a2.tmps.size = 19 := by rw [← ha2, put_size]; exact s1
  have f2 : a2.defers = [] := by rw [← ha2, put_defers]; exact f1
  have e2 : a2.eval (.tmp 7) = .pointer (some ⟨w.heap.size, 0, none⟩) := by rw [← ha2]; exact eval_put (by omega)
  clear ha2
  show (Code.block 0 _).wp P _ a2 (w.alloc it)
  refine wp_block (wp_loop_rounds 1 ?_)
  rw [rounds_succ]
  refine wp_seq (wp_region_list ?_)
  show wpList P _ _ [n0, n1] _ _
  refine wpList_val g2 (v := .tuple #[.bool false]) (w' := w.alloc it) ?_ ?_
  · obtain ⟨dst, op, t, pos, af, g⟩ := n0
    have p2 : op = _ := p2
    subst p2
    simp [execOp, e2, hnext]
  rw [d2]
  generalize ha3 : a2.put (some 8) (.tuple #[.bool false]) = a3
  have s3 : a3.tmps.size = 19 := by rw [← ha3, put_size]; exact s2
  have f3 : a3.defers = [] := by rw [← ha3, put_defers]; exact f2
  have e3 : a3.eval (.tmp 8) = .tuple #[.bool false] := by rw [← ha3]; exact eval_put (by omega)
  clear ha3
  refine wpList_val g3 (v := .bool false) (w' := w.alloc it) ?_ ?_
  · obtain ⟨dst, op, t, pos, af, g⟩ := n1
    have p3 : op = _ := p3
    subst p3
    simp [execOp, e3, Instr.extract]
  rw [d3]
  generalize ha4 : a3.put (some 9) (.bool false) = a4
  have f4 : a4.defers = [] := by rw [← ha4, put_defers]; exact f3
  have e4 : a4.eval (.tmp 9) = .bool false := by rw [← ha4]; exact eval_put (by omega)
  clear ha4
  show (Code.seq _ B).wp P _ a4 (w.alloc it)
  refine wp_seq (wp_cond_false e4 (wp_exit ?_))
  simp only [Exit.then, Exit.inBlock, if_true]
  exact ⟨f4, .tuple #[], by simp [results, hres], rfl, rfl⟩
end

def xDel : CallX := fun args s k => match args with
  | [a, _] => (match a with
    | .w x => (match x with
      | .s y => (match y with
        | .map id => optB (s.get id) fun o => (match o with
          | .map es _ => (match es with | [] => k (.val (.tup [])) s | _ => false)
          | _ => false)
        | .nilm => k (.val (.tup [])) s
        | _ => false)
      | _ => false)
    | _ => false)
  | _ => false

theorem Step.garbage {c : Cx} {s : S} {w : World} (h : Rel c s w) (it : Obj) : Step c c s s w (w.alloc it) ∧ Rel c s (w.alloc it) := by
  have hfr : ∀ b, b < w.heap.size → (w.alloc it).heap[b]? = w.heap[b]? := fun b hb => heap_alloc_old w it hb
  refine ⟨⟨.refl _ _, Nat.le_refl _, rfl, rfl, rfl, ?_, fun b hb _ => hfr b hb, fun id o h => .inr ⟨id, o, h, rfl⟩⟩, ⟨h.sat, h.lt, h.wf, fun id o ho => by rw [hfr _ (h.ι_lt ho)]; exact h.obj id o ho, h.inj⟩⟩
  show w.heap.size ≤ (w.heap.push it).size
  simp

theorem xDel_ok {P : Program} {f : Nat} {func : Func} {ty kt vt : TypeId} {i0 i1 : Nat} {o0 o1 n0 n1 : Oper} {B : Code} (hd : DelOk P f func ty kt vt i0 i1 o0 o1 n0 n1 B) : XOk1 P f xDel := by
  intro args s k hk c w h hw
  refine .inl ⟨hd.call _ w, ?_⟩
  have fin : ∀ (it : Obj) (hk1 : k (.val (.tup [])) s = true) {m x : Value}, (Instr.range ty m).run P w = .ok (.pointer (some ⟨w.heap.size, 0, none⟩)) (w.alloc it) → (∀ t, (Instr.next (.pointer (some ⟨w.heap.size, 0, none⟩)) false t).run P (w.alloc it) = .ok (.tuple #[.bool false]) (w.alloc it)) →
      Calls P f #[m, x] w (CPost c s w k) := by
    intro it hk1 m x hr hn
    refine Calls.mono (del_calls hd hr hn) fun e w' he => ?_
    obtain ⟨rfl, rfl⟩ := he
    obtain ⟨q1, q2⟩ := Step.garbage h it
    exact ⟨c, .tup [], s, rfl, (by intro x hx; cases hx), q1, q2, hk1⟩
  unfold xDel at hk
  split at hk <;> try (simp at hk; done)
  rename_i u x'
  split at hk <;> try (simp at hk; done)
  rename_i y
  split at hk <;> try (simp at hk; done)
  rename_i z
  split at hk <;> try (simp at hk; done)
  · rename_i id
    obtain ⟨o, ho, hk1⟩ := optB_true hk
    split at hk1 <;> try (simp at hk1; done)
    rename_i es cl
    split at hk1 <;> try (simp at hk1; done)
    rw [S.get_eq] at ho
    have hob : w.heap[c.ι id]? = some (.map #[] cl) := h.obj id _ ho
    refine fin _ hk1 (run_range_map w ty kt vt (c.ι id) #[] cl hd.und hob) fun t => ?_
    rcases run_next_map (P := P) w t (c.ι id) cl cl #[] #[] cl hob (by simp) (Nat.le_refl _) with ⟨_, h2⟩ | ⟨e, he, _⟩
    · exact h2
    · simp [leftOf] at he
  · exact fin _ hk (run_range_nilMap w ty kt vt hd.und) fun t => run_next_nilMap w t _ _ _
end
end Go.Sy

/-! The symbolic executor, part Zf: what a function answers at each fork, found once for all of them. -/
namespace Go.Sy
set_option linter.unusedVariables false
set_option linter.unusedSectionVars false
noncomputable section

/-- numbers that tell of one fork -/
def forkX (i : Nat) : Nat → Int := fun j => match j with
  | 0 => (i : Int)
  | _ => 0
theorem forkOf_fork : ∀ i : Nat, i < 16 → forkOf (i : Int) = i := by
  intro i hi
  have h1 : ((i : Int)).tmod 16 = i := Int.tmod_eq_of_lt (by omega) (by omega)
  have h2 : ((i : Int) + 16).tmod 16 = i := by
    rw [Int.tmod_eq_emod_of_nonneg (by omega)]; omega
  have h3 : cutN (i : Int) 16 = i := by
    show (((i : Int)).tmod 16 + 16).tmod 16 = i
    rw [h1, h2]
  unfold forkOf
  rw [h3]; rfl
def envF (i : Nat) : Env := envOf (forkX i) (.bool false) rfl
theorem envF_f {i : Nat} (h : i < 16) : (envF i).f = i := forkOf_fork i h

theorem memoF_ok {P : Program} {call0 : CallF} (h0 : CallOk P call0) {f : Nat} {tab : List AV → Option AV}
    (htab : ∀ args r, tab args = some r → ∃ i, i < 16 ∧ ∃ (args0 : List AV) (k0 : KC), call0 f args0 sAll k0 = true ∧ (∀ c : Cx, ∀ v ∈ args0, v.wf c 0) ∧ (∀ c : Cx, r.wf c 0) ∧
      (∀ c c' : Cx, c'.σ.f = i → args0.map (AV.conc c') = args.map (AV.conc c)) ∧
      (∀ q s', k0 q s' = true → ∀ c c' : Cx, Sat c'.σ s'.φ → c'.σ.f = i → ∃ v, q = .val v ∧ v.conc c' = r.conc c)) : XOk1 P f (xMemo tab) := by
  intro args s k hk c w h hw
  obtain ⟨r, hr, hk⟩ := optB_true (show optB (tab args) _ = true from hk)
  obtain ⟨i, hi, args0, k0, h1, h2, h3, h4, h5⟩ := htab args r hr
  have hrel : Rel ⟨c.ι, c.κ, envF i⟩ sAll w := ⟨phi0_sat (allF_at _ (envF i).f_lt), fun id o h => (by cases h), fun id o h => (by cases h), fun id o h => (by cases h), fun id id' o o' h => (by cases h)⟩
  have key : ∀ e w', CPost ⟨c.ι, c.κ, envF i⟩ sAll w k0 e w' → CPost c s w k e w' := by
    intro e w' he
    cases e with
    | returned u =>
      obtain ⟨c', v, s', e1, e2, e3, e4, e5⟩ := he
      have hσ : c'.σ = envF i := e3.ext.σ
      obtain ⟨v', ev, hv⟩ := h5 _ _ e5 c c' e4.sat (by rw [hσ]; exact envF_f hi)
      injection ev with ev; subst ev
      have hfr : ∀ b, b < w.heap.size → w'.heap[b]? = w.heap[b]? := fun b hb => e3.frame b hb fun id o h => (by cases h)
      exact ⟨c, r, s, by rw [e1, hv], AV.wf_ext (Cx.Ext.refl 0 c) (Nat.zero_le _) (h3 c),
        ⟨.refl _ _, Nat.le_refl _, e3.os, e3.tape, e3.output, e3.size, fun b hb _ => hfr b hb, fun id o h => .inr ⟨id, o, h, rfl⟩⟩,
        ⟨h.sat, h.lt, h.wf, fun id o ho => by rw [hfr _ (h.ι_lt ho)]; exact h.obj id o ho, h.inj⟩, hk⟩
    | panicked ch =>
      obtain ⟨c', v, s', e1, e2, e3, e4, e5⟩ := he
      have hσ : c'.σ = envF i := e3.ext.σ
      obtain ⟨v', ev, hv⟩ := h5 _ _ e5 c c' e4.sat (by rw [hσ]; exact envF_f hi)
      cases ev
    | outgrown => exact he.elim
  have ea := h4 c ⟨c.ι, c.κ, envF i⟩ (envF_f hi)
  have hc := h0 f args0 _ _ h1 ⟨c.ι, c.κ, envF i⟩ w hrel (h2 _)
  rw [ea] at hc
  rcases hc with ⟨g1, g2⟩ | ⟨v, w', g1, g2⟩
  · exact .inl ⟨g1, Calls.mono g2 fun e w' h => key e w' h⟩
  · exact .inr ⟨v, w', g1, key (.returned v) w' g2⟩

/-- of all forks that are left -/
def allFrom (l : List Bool) : Nat → (Nat → Bool) → Bool :=
  List.rec (fun _ _ => true) (fun b _ ih j p => forceN (Nat.add j 1) fun j' => match b with | true => and2 (p j) (ih j' p) | false => ih j' p) l
def treeAll {α : Type} (t : Tree α) : (Nat → α → Bool) → Bool :=
  Tree.rec (fun _ => true) (fun _ v _ il ir p => and2 (match v with | none => true | some x => p 1 x) (and2 (il fun m => p (Nat.mul 2 m)) (ir fun m => p (Nat.add (Nat.mul 2 m) 1)))) t
theorem allFrom_cons (b : Bool) (l : List Bool) (j : Nat) (p : Nat → Bool) : allFrom (b :: l) j p = match b with | true => and2 (p j) (allFrom l (j + 1) p) | false => allFrom l (j + 1) p := by
  show forceN (Nat.add j 1) (fun j' => match b with | true => and2 (p j) (allFrom l j' p) | false => allFrom l j' p) = _
  rw [forceN_eq]
theorem allFrom_spec : ∀ {l : List Bool} {j : Nat} {p : Nat → Bool}, allFrom l j p = true → ∀ f, l[f]? = some true → p (j + f) = true := by
  intro l
  induction l with
  | nil => intro j p _ f hf; simp at hf
  | cons b l ih =>
    intro j p h f hf
    rw [allFrom_cons] at h
    cases f with
    | zero =>
      simp at hf; subst hf
      exact (and2_iff.1 h).1
    | succ f =>
      have h' : allFrom l (j + 1) p = true := by
        cases b with
        | true => exact (and2_iff.1 h).2
        | false => exact h
      have := ih h' f (by simpa using hf)
      rw [show j + (f + 1) = j + 1 + f by omega]; exact this
theorem treeAll_node {α : Type} (l r : Tree α) (v : Option α) (p : Nat → α → Bool) : treeAll (.node l v r) p = and2 (match v with | none => true | some x => p 1 x) (and2 (treeAll l fun m => p (Nat.mul 2 m)) (treeAll r fun m => p (Nat.add (Nat.mul 2 m) 1))) := rfl
theorem treeAll_spec {α : Type} : ∀ {t : Tree α} {p : Nat → α → Bool}, treeAll t p = true → t.AllP fun m x => p m x = true := by
  intro t
  induction t with
  | leaf => intro p _; trivial
  | node l v r ihl ihr =>
    intro p h
    rw [treeAll_node] at h
    obtain ⟨h1, h2⟩ := and2_iff.1 h
    obtain ⟨h2, h3⟩ := and2_iff.1 h2
    refine ⟨fun x hx => ?_, ihl h2, ihr h3⟩
    subst hx; exact h1

def forksT : Tm := .tab [0, 1, 2, 3, 4, 5, 6, 7, 8, 9, 10, 11, 12, 13, 14, 15]
theorem forksT_at {σ : Env} {i : Nat} (h : σ.f = i) (hi : i < 16) : forksT.eval σ = (i : Int) := by
  subst h
  have e : ([0, 1, 2, 3, 4, 5, 6, 7, 8, 9, 10, 11, 12, 13, 14, 15] : List Int) = (List.range 16).map fun j : Nat => (j : Int) := rfl
  unfold forksT
  rw [Tm.eval, e, List.getD_eq_getElem?_getD, List.getElem?_map, List.getElem?_range σ.f_lt]
  rfl
def i64N (n : Nat) : AV := .w (.s (.int .i64 (.lit (.ofNat n))))
def asI64 (v : AV) : Option Nat := match v with | .w (.s (.int .i64 (.lit (.ofNat n)))) => some n | _ => none
theorem asI64_spec {v : AV} {n : Nat} (h : asI64 v = some n) : v = i64N n := by
  unfold asI64 at h
  split at h <;> try (simp at h; done)
  injection h with h; subst h; rfl

/-! a function of fork and number that answers two numbers and a yes or no -/
def popR (e : List Bool × Nat × Nat) (i : Nat) : AV := match lget e.1 i with
  | some true => .tup [.s (.int .i64 (.lit (.ofNat e.2.1))), .s (.int .i64 (.lit (.ofNat e.2.2))), .s (.bool true)]
  | _ => .tup [.s (.int .i64 (.lit (.ofNat 0))), .s (.int .i64 (.lit (.ofNat 0))), .s (.bool false)]
theorem popR_conc (e : List Bool × Nat × Nat) (i : Nat) (c c' : Cx) : (popR e i).conc c = (popR e i).conc c' := by
  unfold popR
  split <;> rfl
theorem popR_wf (e : List Bool × Nat × Nat) (i : Nat) (c : Cx) : (popR e i).wf c 0 := by
  unfold popR
  split <;> (intro x hx; simp only [List.mem_cons, List.not_mem_nil, or_false] at hx; rcases hx with rfl | rfl | rfl <;> trivial)
def kPop (e : List Bool × Nat × Nat) : KC := fun q s => match q with
  | .val v => (match s with | .mk _ _ φ => (match φ with | .mk m _ _ => allFrom m 0 fun i => vEq v (popR e i)))
  | .panic _ => false
def popTab (t : Tree (List Bool × Nat × Nat)) : List AV → Option AV := fun args => match args with
  | [a, b] => optP (asI64 a) none fun i => optP (asI64 b) none fun op => ckB (Nat.ble (Nat.succ i) 16) none (optP (t.get (Nat.succ op)) none fun e => some (popR e i))
  | _ => none
def popRun (call : CallF) (f : Nat) : Nat → List Bool × Nat × Nat → Bool := fun m e => forceN (Nat.sub m 1) fun op => call f [.w (.s (.int .i64 forksT)), i64N op] sAll (kPop e)
theorem pop_ok {P : Program} {call0 : CallF} (h0 : CallOk P call0) {f : Nat} {t : Tree (List Bool × Nat × Nat)} (h : treeAll t (popRun call0 f) = true) : XOk1 P f (xMemo (popTab t)) := by
  refine memoF_ok h0 fun args r hr => ?_
  unfold popTab at hr
  split at hr <;> try (simp at hr; done)
  rename_i a b
  obtain ⟨i, h1, g1⟩ := optP_some hr
  obtain ⟨op, h2, g2⟩ := optP_some g1
  obtain ⟨h3, g3⟩ := ckB_some g2
  obtain ⟨e, h4, g4⟩ := optP_some g3
  injection g4 with g4
  have hi : i < 16 := (natBle_iff _ _).1 h3
  have hrun := (treeAll_spec h).get (by omega) h4
  unfold popRun at hrun
  rw [forceN_eq] at hrun
  have e1 : Nat.sub (Nat.succ op) 1 = op := rfl
  rw [e1] at hrun
  rw [asI64_spec h1, asI64_spec h2, ← g4]
  refine ⟨i, hi, _, _, hrun, ?_, popR_wf e i, ?_, ?_⟩
  · intro c v hv
    simp only [List.mem_cons, List.not_mem_nil, or_false] at hv
    rcases hv with rfl | rfl <;> trivial
  · intro c c' hc
    have := forksT_at hc hi
    simp only [List.map_cons, List.map_nil, AV.conc, AW.conc, AS.conc, i64N, this]
    rfl
  · intro q s' hk c c' hs hc
    unfold kPop at hk
    split at hk <;> try (simp at hk; done)
    rename_i v
    split at hk
    split at hk
    rename_i m rr aa
    have hm : m[c'.σ.f]? = some true := hs.mask
    have := allFrom_spec hk _ hm
    rw [hc, Nat.zero_add] at this
    have := vEq_spec _ _ this
    subst this
    exact ⟨_, rfl, popR_conc e i c' c⟩

/-! a function of the fork's rules and a number that answers a number -/
def numAt (t : Tm) (i : Nat) : Option Int := match t with
  | .lit n => some n
  | .tab l => lget l i
  | _ => none
theorem numAt_spec {t : Tm} {i : Nat} {n : Int} (h : numAt t i = some n) {σ : Env} (hf : σ.f = i) : t.eval σ = n := by
  subst hf
  unfold numAt at h
  split at h <;> try (simp at h; done)
  · injection h with h
  · rename_i l
    rw [lget_eq] at h
    rw [Tm.eval, List.getD_eq_getElem?_getD, h]; rfl
def asAt (i : Nat) (x : AS) : AS := match x with
  | .int k t => (match numAt t i with | some n => .int k (.lit n) | none => .int k t)
  | y => y
theorem asAt_conc {i : Nat} (x : AS) (hx : ∃ k t n, x = .int k t ∧ numAt t i = some n) {c c' : Cx} (hc : c'.σ.f = i) : x.conc c' = (asAt i x).conc c := by
  obtain ⟨k, t, n, rfl, h⟩ := hx
  simp only [asAt, h, AS.conc]
  rw [numAt_spec h hc]; rfl
/-- are they numbers that each fork has? -/
def tabOk (x : AS) : Bool := match x with
  | .int _ (.tab l) => Nat.beq (llen l) 16
  | .int _ (.lit _) => true
  | _ => false
theorem tabOk_spec {x : AS} (h : tabOk x = true) {i : Nat} (hi : i < 16) : ∃ k t n, x = .int k t ∧ numAt t i = some n := by
  unfold tabOk at h
  split at h <;> try (simp at h; done)
  · rename_i k l
    have hl := (natBeq_iff _ _).1 h
    rw [llen_eq] at hl
    refine ⟨k, .tab l, l[i], rfl, ?_⟩
    show lget l i = _
    rw [lget_eq]
    exact List.getElem?_eq_getElem (by omega)
  · exact ⟨_, _, _, rfl, rfl⟩
def u64N (n : Nat) : AV := .w (.s (.int .u64 (.lit (.ofNat n))))
def kBase (e : List Nat) : KC := fun q s => match q with
  | .val v => optB (asIntA v) fun p => ifB (kindEq p.1 .u64) (match s with | .mk _ _ φ => (match φ with | .mk m _ _ => allFrom m 0 fun i => optB (numAt p.2 i) fun n => optB (lget e i) fun r => intEq n (.ofNat r)))
  | .panic _ => false
def baseTab (rules : List AS) (t : Tree (List Nat)) : List AV → Option AV := fun args => match args with
  | [a, b] => optP (asAggA a) none fun l => optP (lget l 0) none fun x => optP (asI64 (.w (.s x))) none fun i => ckB (and2 (Nat.ble (Nat.succ i) 16) (wEq (.agg l) (.agg (lmap (asAt i) rules)))) none
      (optP (asI64 b) none fun op => optP (t.get (Nat.succ op)) none fun e => optP (lget e i) none fun r => some (u64N r))
  | _ => none
def baseRun (call : CallF) (f : Nat) (rules : List AS) : Nat → List Nat → Bool := fun m e => forceN (Nat.sub m 1) fun op => call f [.w (.agg rules), i64N op] sAll (kBase e)
theorem base_ok {P : Program} {call0 : CallF} (h0 : CallOk P call0) {f : Nat} {rules : List AS} {t : Tree (List Nat)} (hr : lall tabOk rules = true) (h : treeAll t (baseRun call0 f rules) = true) : XOk1 P f (xMemo (baseTab rules t)) := by
  have hrules := (lall_iff _ _).1 hr
  refine memoF_ok h0 fun args r hr => ?_
  unfold baseTab at hr
  split at hr <;> try (simp at hr; done)
  rename_i a b
  obtain ⟨l, h1, g1⟩ := optP_some hr
  obtain ⟨x, h2, g2⟩ := optP_some g1
  obtain ⟨i, h3, g3⟩ := optP_some g2
  obtain ⟨h4, g4⟩ := ckB_some g3
  obtain ⟨op, h5, g5⟩ := optP_some g4
  obtain ⟨e, h6, g6⟩ := optP_some g5
  obtain ⟨n, h7, g7⟩ := optP_some g6
  injection g7 with g7
  obtain ⟨h8, h9⟩ := and2_iff.1 h4
  have hi : i < 16 := (natBle_iff _ _).1 h8
  have hl := wEq_spec _ _ h9
  injection hl with hl
  have hrun := (treeAll_spec h).get (by omega) h6
  unfold baseRun at hrun
  rw [forceN_eq] at hrun
  have e1 : Nat.sub (Nat.succ op) 1 = op := rfl
  rw [e1] at hrun
  have ha : a = .w (.agg l) := by
    unfold asAggA at h1
    split at h1 <;> try (simp at h1; done)
    injection h1 with h1; subst h1; rfl
  rw [ha, asI64_spec h5, ← g7, hl]
  refine ⟨i, hi, _, _, hrun, ?_, fun c => trivial, ?_, ?_⟩
  · intro c v hv
    simp only [List.mem_cons, List.not_mem_nil, or_false] at hv
    rcases hv with rfl | rfl
    · intro y hy
      obtain ⟨k, t, n, rfl, _⟩ := tabOk_spec (hrules y hy) hi
      trivial
    · trivial
  · intro c c' hc
    have : rules.map (AS.conc c') = (lmap (asAt i) rules).map (AS.conc c) := by
      rw [lmap_eq, List.map_map]
      exact List.map_congr_left fun y hy => asAt_conc y (tabOk_spec (hrules y hy) hi) hc
    simp only [List.map_cons, List.map_nil, AV.conc, AW.conc, i64N, this]
    rfl
  · intro q s' hk c c' hs hc
    unfold kBase at hk
    split at hk <;> try (simp at hk; done)
    rename_i v
    obtain ⟨p, hp, hk1⟩ := optB_true hk
    obtain ⟨hq, hk2⟩ := ifB_true hk1
    have ev := asIntA_spec hp
    have ek := kindEq_eq hq
    split at hk2
    split at hk2
    rename_i m rr aa
    have hm : m[c'.σ.f]? = some true := hs.mask
    have := allFrom_spec hk2 _ hm
    rw [hc, Nat.zero_add] at this
    obtain ⟨n', hn, g1⟩ := optB_true this
    obtain ⟨r', hr', g2⟩ := optB_true g1
    have g2 := (intEq_iff _ _).1 g2
    rw [h7] at hr'
    injection hr' with hr'
    subst hr'
    refine ⟨v, rfl, ?_⟩
    rw [ev, ek]
    have := numAt_spec hn hc
    simp only [AV.conc, AW.conc, AS.conc, u64N, this, g2]
    rfl
end
end Go.Sy

/-! The symbolic executor, part Zg: small numbers, one by one. -/
namespace Go.Sy
set_option linter.unusedVariables false
set_option linter.unusedSectionVars false
noncomputable section

def upFrom (n : Nat) : Nat → List Int := Nat.rec (fun _ => []) (fun _ ih j => Int.ofNat j :: ih (Nat.add j 1)) n
/-- where a number below a small bound is cut -/
def splitN (i : Nat) : List Int := match Nat.ble i 1016 with
  | true => upFrom (Nat.sub i 1001) 0
  | false => []
def varOf (v : AV) : Option Nat := match v with | .w (.s (.int .i64 (.var i))) => some i | _ => none
theorem varOf_spec {v : AV} {i : Nat} (h : varOf v = some i) : v = .w (.s (.int .i64 (.var i))) := by
  unfold varOf at h
  split at h <;> try (simp at h; done)
  injection h with h; subst h; rfl
/-- what is known ahead of a number's range is kept -/
def keepR (φ ψ : Phi) (i : Nat) : Phi := match φ with
  | .mk m r a => (match r.get (Nat.succ i) with | some _ => .mk m r a | none => ψ)
theorem keepR_sat {σ : Env} {φ ψ : Phi} (h1 : Sat σ φ) (h2 : Sat σ ψ) (i : Nat) : Sat σ (keepR φ ψ i) := by
  unfold keepR
  split
  split
  · exact h1
  · exact h2
def xN (fn : AFunc) : CallY := fun call args s k => runF call fn args s fun r s => match r with
  | .val v => (match s with | .mk h nx φ => optB (convN v φ) fun p => optB (varOf p.1) fun i => cutsK i (splitN i) (keepR φ p.2 i) fun φ' => k (.val (vInt .i64 (sq φ' (.var i)))) ⟨h, nx, φ'⟩)
  | .panic v => k (.panic v) s
theorem xN_ok {P : Program} {T : TyT} (hT : TOk P T) (hm : P.follows .mixedOrders = true) {f : Nat} {fn : AFunc} (hf : ∃ func code hint, FnOk P T f fn func code hint) (call : CallF) (hcall : CallOk P call) : XOk1 P f (xN fn call) := by
  obtain ⟨func, code, hint, hf⟩ := hf
  intro args s k hk c w h hw
  refine .inl ⟨hf.call _ w, Calls.mono (runF_sound hT hcall hm hf hk h hw) fun e w' he => ?_⟩
  cases e with
  | returned u =>
    obtain ⟨c', v, s', e1, e2, e3, e4, e5⟩ := he
    obtain ⟨hh, nx, φ⟩ := s'
    obtain ⟨p, hp, e6⟩ := optB_true (show optB (convN v φ) _ = true from e5)
    obtain ⟨i, hi, e7⟩ := optB_true e6
    obtain ⟨g1, g2, g3⟩ := convN_ok v φ p hp c' e4.sat
    obtain ⟨φ', hs', e8⟩ := cutsK_spec i _ (keepR_sat e4.sat g3 i) e7
    have ep := varOf_spec hi
    refine ⟨c', .w (.s (.int .i64 (sq φ' (.var i)))), ⟨hh, nx, φ'⟩, ?_, trivial, ⟨e3.ext, e3.nx, e3.os, e3.tape, e3.output, e3.size, e3.frame, e3.anew⟩, e4.facts hs', e8⟩
    rw [e1, ← g1, ep]
    show Value.int .i64 ((Tm.var i).eval c'.σ) = Value.int .i64 ((sq φ' (.var i)).eval c'.σ)
    rw [sq_spec hs']
  | panicked ch =>
    obtain ⟨c', v, s', e1, e2, e3, e4, e5⟩ := he
    exact ⟨c', v, s', e1, e2, e3, e4, e5⟩
  | outgrown => exact he.elim

/-- a fork, and a number that is cut to a size below n, known -/
def phiAt (m : List Bool) (i k : Nat) : Phi := setRng (phiSmall m) i (.ofNat k) (.ofNat k)
/-- A law over a small input, run fork by fork and number by number. -/
theorem law_small_at {P : Program} {call : CallF} (hcall : CallOk P call) {f : Nat} (hc : ∀ args w, (callFunc f args).run P w = .ok (.enter f args) w) (n : Nat) (hn : 0 < n)
    (hrun : ∀ i, i < 16 → ∀ k, k < n → call f [argSmall] ⟨.leaf, 0, phiAt (maskOf i) (1000 + n) k⟩ kTrue = true)
    (x : Nat → Int) (o : Value) (ho : o.oneCell' = true) (h0 : inI64 (x 0)) (h1 : inI64 (x 1)) (h2 : inU64 (x 2)) (h3 : inU64 (x 3)) (h4 : inU64 (x 4)) (h5 : inU64 (x 5)) (h6 : inU64 (x 6)) (h7 : inU64 (x 7)) (h8 : inU64 (x 8)) (h9 : inU64 (x 9)) (w : World) :
    Calls P f #[.agg #[.int .i64 (x 0), .int .i64 (x 1), .int .u64 (x 2), .int .u64 (x 3), .int .u64 (x 4), .int .u64 (x 5), .int .u64 (x 6), .int .u64 (x 7), .int .u64 (x 8), .int .u64 (x 9), o]] w fun e w' => e = .returned (.bool true) ∧ Go.RowKit.Below w.heap.size w w' := by
  have hs : Sat (envOf x o ho) (phiSmall (maskOf (forkOf (x 0)))) := phiSmall_sat (maskOf_at _ (forkOf_lt _)) h0 h1 h2 h3 h4 h5 h6 h7 h8 h9
  have hv : (envOf x o ho).v (1000 + n) = cutN (x 1) n := by
    show (if 1000 + n < 1000 then x (1000 + n) else cutN (x 1) (1000 + n - 1000)) = _
    rw [if_neg (by omega), show 1000 + n - 1000 = n by omega]
  have hr : 0 ≤ cutN (x 1) n ∧ cutN (x 1) n ≤ (n : Int) - 1 := cut_range (x 1) n hn
  have hk : (cutN (x 1) n).toNat < n := by omega
  have hs' : Sat (envOf x o ho) (phiAt (maskOf (forkOf (x 0))) (1000 + n) (cutN (x 1) n).toNat) := by
    refine setRng_sat hs ?_
    rw [hv]
    simp only [Int.ofNat_eq_natCast]
    omega
  have := says_of_run hcall (hrun _ (forkOf_lt (x 0)) _ hk) hs' (by
    intro c v hv
    rcases List.mem_cons.1 hv with rfl | hv
    · intro y hy
      simp only [List.mem_cons, List.not_mem_nil, or_false] at hy
      rcases hy with rfl | rfl | rfl | rfl | rfl | rfl | rfl | rfl | rfl | rfl | rfl <;> trivial
    · cases hv) w
  exact this.calls (hc _ _)
end
end Go.Sy

/-! The symbolic executor, part Zh: a function whose argument is of small range, run value by value. -/
namespace Go.Sy
set_option linter.unusedVariables false
set_option linter.unusedSectionVars false
noncomputable section

theorem upFrom_succ (n j : Nat) : upFrom (n + 1) j = Int.ofNat j :: upFrom n (j + 1) := rfl
theorem mem_upFrom : ∀ (n j : Nat) (x : Int), (j : Int) ≤ x → x < j + n → x ∈ upFrom n j := by
  intro n
  induction n with
  | zero => intro j x h1 h2; omega
  | succ n ih =>
    intro j x h1 h2
    rw [upFrom_succ]
    by_cases e : x = j
    · subst e; exact List.mem_cons_self ..
    · exact List.mem_cons_of_mem _ (ih (j + 1) x (by omega) (by omega))
/-- from where to where a number goes, if that is little -/
def smallR (φ : Phi) (t : Tm) : Option (Nat × Nat) := match t with
  | .lit _ => none
  | t => (match range φ t with
    | none => none
    | some (a, b) => (match a with
      | .negSucc _ => none
      | .ofNat lo => (match b with
        | .negSucc _ => none
        | .ofNat hi => (match and2 (Nat.ble lo hi) (Nat.ble hi (Nat.add lo 15)) with | true => some (lo, hi) | false => none))))
theorem smallR_spec {σ : Env} {φ : Phi} (hs : Sat σ φ) {t : Tm} {p : Nat × Nat} (h : smallR φ t = some p) : (p.1 : Int) ≤ t.eval σ ∧ t.eval σ ≤ p.2 := by
  unfold smallR at h
  split at h <;> try (simp at h; done)
  split at h <;> try (simp at h; done)
  rename_i a b hr
  split at h <;> try (simp at h; done)
  split at h <;> try (simp at h; done)
  split at h <;> try (simp at h; done)
  injection h with h; subst h
  exact range_sound hs _ _ _ hr
def xEnum (fn : AFunc) : CallY := fun call args s k => match args with
  | [a] => (match asIntA a with
    | none => runF call fn [a] s k
    | some p => (match s with
      | .mk h nx φ => (match smallR φ p.2 with
        | none => runF call fn [a] ⟨h, nx, φ⟩ k
        | some q => lall (fun j => runF call fn [.w (.s (.int p.1 (.lit j)))] ⟨h, nx, assume φ true (.eq p.2 (.lit j))⟩ k) (upFrom (Nat.succ (Nat.sub q.2 q.1)) q.1))))
  | _ => false
theorem xEnum_ok {P : Program} {T : TyT} (hT : TOk P T) (hm : P.follows .mixedOrders = true) {f : Nat} {fn : AFunc} (hf : ∃ func code hint, FnOk P T f fn func code hint) (call : CallF) (hcall : CallOk P call) : XOk1 P f (xEnum fn call) := by
  obtain ⟨func, code, hint, hf⟩ := hf
  intro args s k hk c w h hw
  unfold xEnum at hk
  split at hk <;> try (simp at hk; done)
  rename_i a
  split at hk
  · exact .inl ⟨hf.call _ w, runF_sound hT hcall hm hf hk h hw⟩
  · rename_i p hp
    obtain ⟨hh, nx, φ⟩ := s
    have hk : (match smallR φ p.2 with
        | none => runF call fn [a] ⟨hh, nx, φ⟩ k
        | some q => lall (fun j => runF call fn [.w (.s (.int p.1 (.lit j)))] ⟨hh, nx, assume φ true (.eq p.2 (.lit j))⟩ k) (upFrom (Nat.succ (Nat.sub q.2 q.1)) q.1)) = true := hk
    split at hk
    · exact .inl ⟨hf.call _ w, runF_sound hT hcall hm hf hk h hw⟩
    · rename_i q hq
      have hs : Sat c.σ φ := h.sat
      obtain ⟨b1, b2⟩ := smallR_spec hs hq
      have hsub : Nat.succ (Nat.sub q.2 q.1) = q.2 - q.1 + 1 := rfl
      have hmem := mem_upFrom (Nat.succ (Nat.sub q.2 q.1)) q.1 (p.2.eval c.σ) b1 (by rw [hsub]; omega)
      have hk' := (lall_iff _ _).1 hk _ hmem
      have hs' : Sat c.σ (assume φ true (.eq p.2 (.lit (p.2.eval c.σ)))) := assume_sat hs (by simp [Cond.eval, Tm.eval])
      have ea := asIntA_spec hp
      have hconc : (AV.w (.s (.int p.1 (.lit (p.2.eval c.σ))))).conc c = a.conc c := by rw [ea]; rfl
      have hr := runF_sound hT hcall hm hf hk' (h.facts hs') (by
        intro v hv
        rcases List.mem_cons.1 hv with rfl | hv
        · trivial
        · cases hv)
      have e : ([AV.w (.s (.int p.1 (.lit (p.2.eval c.σ))))].map (AV.conc c)).toArray = ([a].map (AV.conc c)).toArray := by simp [hconc]
      rw [e] at hr
      refine .inl ⟨hf.call _ w, Calls.mono hr fun e w' he => ?_⟩
      have hst := Step.facts c ⟨hh, nx, φ⟩ w (assume φ true (.eq p.2 (.lit (p.2.eval c.σ))))
      cases e with
      | returned u =>
        obtain ⟨c', v, s', e1, e2, e3, e4, e5⟩ := he
        exact ⟨c', v, s', e1, e2, hst.trans e3, e4, e5⟩
      | panicked ch =>
        obtain ⟨c', v, s', e1, e2, e3, e4, e5⟩ := he
        exact ⟨c', v, s', e1, e2, hst.trans e3, e4, e5⟩
      | outgrown => exact he.elim
end
end Go.Sy

/-! The symbolic executor, part Zi: a law over a small input, one number of it cut at a place. -/
namespace Go.Sy
set_option linter.unusedVariables false
set_option linter.unusedSectionVars false
noncomputable section

def phiCut (m : List Bool) (j : Nat) (b : Int) (e : Bool) : Phi := assume (phiSmall m) e (.le (.var j) (.lit b))
theorem law_small_cut {P : Program} {call : CallF} (hcall : CallOk P call) {f : Nat} (hc : ∀ args w, (callFunc f args).run P w = .ok (.enter f args) w) (j : Nat) (b : Int)
    (hrun : ∀ i, i < 16 → ∀ e : Bool, call f [argSmall] ⟨.leaf, 0, phiCut (maskOf i) j b e⟩ kTrue = true)
    (x : Nat → Int) (o : Value) (ho : o.oneCell' = true) (h0 : inI64 (x 0)) (h1 : inI64 (x 1)) (h2 : inU64 (x 2)) (h3 : inU64 (x 3)) (h4 : inU64 (x 4)) (h5 : inU64 (x 5)) (h6 : inU64 (x 6)) (h7 : inU64 (x 7)) (h8 : inU64 (x 8)) (h9 : inU64 (x 9)) (w : World) :
    Calls P f #[.agg #[.int .i64 (x 0), .int .i64 (x 1), .int .u64 (x 2), .int .u64 (x 3), .int .u64 (x 4), .int .u64 (x 5), .int .u64 (x 6), .int .u64 (x 7), .int .u64 (x 8), .int .u64 (x 9), o]] w fun e w' => e = .returned (.bool true) ∧ Go.RowKit.Below w.heap.size w w' := by
  have hs : Sat (envOf x o ho) (phiSmall (maskOf (forkOf (x 0)))) := phiSmall_sat (maskOf_at _ (forkOf_lt _)) h0 h1 h2 h3 h4 h5 h6 h7 h8 h9
  have hs' : Sat (envOf x o ho) (phiCut (maskOf (forkOf (x 0))) j b ((Cond.le (.var j) (.lit b)).eval (envOf x o ho))) := assume_sat hs rfl
  have := says_of_run hcall (hrun _ (forkOf_lt (x 0)) _) hs' (by
    intro c v hv
    rcases List.mem_cons.1 hv with rfl | hv
    · intro y hy
      simp only [List.mem_cons, List.not_mem_nil, or_false] at hy
      rcases hy with rfl | rfl | rfl | rfl | rfl | rfl | rfl | rfl | rfl | rfl | rfl <;> trivial
    · cases hv) w
  exact this.calls (hc _ _)
end
end Go.Sy

/-! The symbolic executor, part Zj: an argument of some range taken value by value at a call; arguments squeezed ahead of a table; a law over a small input, one number of it by pieces. -/
namespace Go.Sy
set_option linter.unusedVariables false
set_option linter.unusedSectionVars false
noncomputable section

/-- from where to where a number goes, if that is no more than m -/
def rangeR (m : Nat) (φ : Phi) (t : Tm) : Option (Nat × Nat) := match t with
  | .lit _ => none
  | t => (match range φ t with
    | none => none
    | some (a, b) => (match a with
      | .negSucc _ => none
      | .ofNat lo => (match b with
        | .negSucc _ => none
        | .ofNat hi => (match and2 (Nat.ble lo hi) (Nat.ble hi (Nat.add lo m)) with | true => some (lo, hi) | false => none))))
theorem rangeR_spec {σ : Env} {m : Nat} {φ : Phi} (hs : Sat σ φ) {t : Tm} {p : Nat × Nat} (h : rangeR m φ t = some p) : (p.1 : Int) ≤ t.eval σ ∧ t.eval σ ≤ p.2 := by
  unfold rangeR at h
  split at h <;> try (simp at h; done)
  split at h <;> try (simp at h; done)
  rename_i a b hr
  split at h <;> try (simp at h; done)
  split at h <;> try (simp at h; done)
  split at h <;> try (simp at h; done)
  injection h with h; subst h
  exact range_sound hs _ _ _ hr
/-- a function whose argument behind the first is of some range, run value by value -/
def xEnum2 (m : Nat) (fn : AFunc) : CallY := fun call args s k => match args with
  | [b, a] => (match asIntA a with
    | none => runF call fn [b, a] s k
    | some p => (match s with
      | .mk h nx φ => (match rangeR m φ p.2 with
        | none => runF call fn [b, a] ⟨h, nx, φ⟩ k
        | some q => lall (fun j => runF call fn [b, .w (.s (.int p.1 (.lit j)))] ⟨h, nx, assume φ true (.eq p.2 (.lit j))⟩ k) (upFrom (Nat.succ (Nat.sub q.2 q.1)) q.1))))
  | _ => false
theorem xEnum2_ok (m : Nat) {P : Program} {T : TyT} (hT : TOk P T) (hm : P.follows .mixedOrders = true) {f : Nat} {fn : AFunc} (hf : ∃ func code hint, FnOk P T f fn func code hint) (call : CallF) (hcall : CallOk P call) : XOk1 P f (xEnum2 m fn call) := by
  obtain ⟨func, code, hint, hf⟩ := hf
  intro args s k hk c w h hw
  unfold xEnum2 at hk
  split at hk <;> try (simp at hk; done)
  rename_i b a
  split at hk
  · exact .inl ⟨hf.call _ w, runF_sound hT hcall hm hf hk h hw⟩
  · rename_i p hp
    obtain ⟨hh, nx, φ⟩ := s
    have hk : (match rangeR m φ p.2 with
        | none => runF call fn [b, a] ⟨hh, nx, φ⟩ k
        | some q => lall (fun j => runF call fn [b, .w (.s (.int p.1 (.lit j)))] ⟨hh, nx, assume φ true (.eq p.2 (.lit j))⟩ k) (upFrom (Nat.succ (Nat.sub q.2 q.1)) q.1)) = true := hk
    split at hk
    · exact .inl ⟨hf.call _ w, runF_sound hT hcall hm hf hk h hw⟩
    · rename_i q hq
      have hs : Sat c.σ φ := h.sat
      obtain ⟨b1, b2⟩ := rangeR_spec hs hq
      have hsub : Nat.succ (Nat.sub q.2 q.1) = q.2 - q.1 + 1 := rfl
      have hmem := mem_upFrom (Nat.succ (Nat.sub q.2 q.1)) q.1 (p.2.eval c.σ) b1 (by rw [hsub]; omega)
      have hk' := (lall_iff _ _).1 hk _ hmem
      have hs' : Sat c.σ (assume φ true (.eq p.2 (.lit (p.2.eval c.σ)))) := assume_sat hs (by simp [Cond.eval, Tm.eval])
      have ea := asIntA_spec hp
      have hconc : (AV.w (.s (.int p.1 (.lit (p.2.eval c.σ))))).conc c = a.conc c := by rw [ea]; rfl
      have hr := runF_sound hT hcall hm hf hk' (h.facts hs') (by
        intro v hv
        rcases List.mem_cons.1 hv with rfl | hv
        · exact hw _ (List.mem_cons_self ..)
        · rcases List.mem_cons.1 hv with rfl | hv
          · trivial
          · cases hv)
      have e : ([b, AV.w (.s (.int p.1 (.lit (p.2.eval c.σ))))].map (AV.conc c)).toArray = ([b, a].map (AV.conc c)).toArray := by simp [hconc]
      rw [e] at hr
      refine .inl ⟨hf.call _ w, Calls.mono hr fun e w' he => ?_⟩
      have hst := Step.facts c ⟨hh, nx, φ⟩ w (assume φ true (.eq p.2 (.lit (p.2.eval c.σ))))
      cases e with
      | returned u =>
        obtain ⟨c', v, s', e1, e2, e3, e4, e5⟩ := he
        exact ⟨c', v, s', e1, e2, hst.trans e3, e4, e5⟩
      | panicked ch =>
        obtain ⟨c', v, s', e1, e2, e3, e4, e5⟩ := he
        exact ⟨c', v, s', e1, e2, hst.trans e3, e4, e5⟩
      | outgrown => exact he.elim

/-- a number whose range is a point, as this number -/
def sqV (φ : Phi) (v : AV) : AV := match v with
  | .w (.s (.int k t)) => .w (.s (.int k (sqL φ t)))
  | v => v
theorem sqV_conc {c : Cx} {φ : Phi} (hs : Sat c.σ φ) (v : AV) : (sqV φ v).conc c = v.conc c := by
  unfold sqV
  split
  · rename_i k t
    show Value.int k ((sqL φ t).eval c.σ) = Value.int k (t.eval c.σ)
    rw [sqL_spec hs]
  · rfl
theorem sqV_wf {c : Cx} {φ : Phi} {nx : Nat} {v : AV} (h : v.wf c nx) : (sqV φ v).wf c nx := by
  unfold sqV
  split
  · trivial
  · exact h
def xSq (g : CallX) : CallX := fun args s k => match s with
  | .mk h nx φ => g (lmap (sqV φ) args) ⟨h, nx, φ⟩ k
theorem xSq_ok {P : Program} {f : Nat} {g : CallX} (hg : XOk1 P f g) : XOk1 P f (xSq g) := by
  intro args s k hk c w h hw
  obtain ⟨hh, nx, φ⟩ := s
  have hs : Sat c.σ φ := h.sat
  have := hg (lmap (sqV φ) args) ⟨hh, nx, φ⟩ k hk c w h (by
    intro v hv
    rw [lmap_eq] at hv
    obtain ⟨u, hu, rfl⟩ := List.mem_map.1 hv
    exact sqV_wf (hw u hu))
  have e : (lmap (sqV φ) args).map (AV.conc c) = args.map (AV.conc c) := by
    rw [lmap_eq, List.map_map]
    exact List.map_congr_left fun v _ => sqV_conc hs v
  rw [e] at this
  exact this

/-- a fork, and a number that is cut to a size, between two -/
def phiIn (m : List Bool) (i a b : Nat) : Phi := setRng (phiSmall m) i (.ofNat a) (.ofNat b)
/-- do pieces cover what is below n? -/
def coverN (l : List (Nat × Nat)) : Nat → Nat → Bool := List.rec (fun at_ n => Nat.ble n at_) (fun p _ ih at_ n => and2 (Nat.ble p.1 at_) (ih (Nat.add p.2 1) n)) l
theorem coverN_cons (p : Nat × Nat) (l : List (Nat × Nat)) (at_ n : Nat) : coverN (p :: l) at_ n = and2 (Nat.ble p.1 at_) (coverN l (Nat.add p.2 1) n) := rfl
theorem coverN_spec : ∀ {l : List (Nat × Nat)} {at_ n : Nat}, coverN l at_ n = true → ∀ k, at_ ≤ k → k < n → ∃ p ∈ l, p.1 ≤ k ∧ k ≤ p.2 := by
  intro l
  induction l with
  | nil => intro at_ n h k h1 h2; have := (natBle_iff n at_).1 h; omega
  | cons p l ih =>
    intro at_ n h k h1 h2
    rw [coverN_cons] at h
    obtain ⟨h3, h4⟩ := and2_iff.1 h
    have h3 := (natBle_iff _ _).1 h3
    by_cases hk : k ≤ p.2
    · exact ⟨p, List.mem_cons_self .., by omega, hk⟩
    · obtain ⟨q, hq, h5⟩ := ih h4 k (by show p.2 + 1 ≤ k; omega) h2
      exact ⟨q, List.mem_cons_of_mem _ hq, h5⟩
/-- A law over a small input, run fork by fork, one number of it by pieces. -/
theorem law_small_in {P : Program} {call : CallF} (hcall : CallOk P call) {f : Nat} (hc : ∀ args w, (callFunc f args).run P w = .ok (.enter f args) w) (n : Nat) (hn : 0 < n) (l : Nat → List (Nat × Nat))
    (hl : ∀ i, i < 16 → coverN (l i) 0 n = true)
    (hrun : ∀ i, i < 16 → ∀ p ∈ l i, call f [argSmall] ⟨.leaf, 0, phiIn (maskOf i) (1000 + n) p.1 p.2⟩ kTrue = true)
    (x : Nat → Int) (o : Value) (ho : o.oneCell' = true) (h0 : inI64 (x 0)) (h1 : inI64 (x 1)) (h2 : inU64 (x 2)) (h3 : inU64 (x 3)) (h4 : inU64 (x 4)) (h5 : inU64 (x 5)) (h6 : inU64 (x 6)) (h7 : inU64 (x 7)) (h8 : inU64 (x 8)) (h9 : inU64 (x 9)) (w : World) :
    Calls P f #[.agg #[.int .i64 (x 0), .int .i64 (x 1), .int .u64 (x 2), .int .u64 (x 3), .int .u64 (x 4), .int .u64 (x 5), .int .u64 (x 6), .int .u64 (x 7), .int .u64 (x 8), .int .u64 (x 9), o]] w fun e w' => e = .returned (.bool true) ∧ Go.RowKit.Below w.heap.size w w' := by
  have hs : Sat (envOf x o ho) (phiSmall (maskOf (forkOf (x 0)))) := phiSmall_sat (maskOf_at _ (forkOf_lt _)) h0 h1 h2 h3 h4 h5 h6 h7 h8 h9
  have hv : (envOf x o ho).v (1000 + n) = cutN (x 1) n := by
    show (if 1000 + n < 1000 then x (1000 + n) else cutN (x 1) (1000 + n - 1000)) = _
    rw [if_neg (by omega), show 1000 + n - 1000 = n by omega]
  have hr : 0 ≤ cutN (x 1) n ∧ cutN (x 1) n ≤ (n : Int) - 1 := cut_range (x 1) n hn
  obtain ⟨p, hp, hp1, hp2⟩ := coverN_spec (hl _ (forkOf_lt (x 0))) (cutN (x 1) n).toNat (Nat.zero_le _) (by omega)
  have hs' : Sat (envOf x o ho) (phiIn (maskOf (forkOf (x 0))) (1000 + n) p.1 p.2) := by
    refine setRng_sat hs ?_
    rw [hv]
    simp only [Int.ofNat_eq_natCast]
    omega
  have := says_of_run hcall (hrun _ (forkOf_lt (x 0)) p hp) hs' (by
    intro c v hv
    rcases List.mem_cons.1 hv with rfl | hv
    · intro y hy
      simp only [List.mem_cons, List.not_mem_nil, or_false] at hy
      rcases hy with rfl | rfl | rfl | rfl | rfl | rfl | rfl | rfl | rfl | rfl | rfl <;> trivial
    · cases hv) w
  exact this.calls (hc _ _)
end
end Go.Sy

/-! The symbolic executor, part Zk: the same run, fast: operations as functions of their own, slots by their way in the tree. -/
namespace Go.Sy
set_option linter.unusedVariables false
set_option linter.unusedSectionVars false
noncomputable section

/-! slots by their way -/
abbrev G := Tmps → Option AV
def gV : G := fun t => Tree.rec none (fun _ v _ _ _ => v) t
def gL (g : G) : G := fun t => Tree.rec none (fun l _ _ _ _ => g l) t
def gR (g : G) : G := fun t => Tree.rec none (fun _ _ r _ _ => g r) t
def gC (v : AV) : G := fun _ => some v
def gOf (f : Nat) : Nat → G := Nat.rec (fun _ => gV) (fun _ ih n => Bool.rec (Bool.rec (gR (ih (Nat.div n 2))) (gL (ih (Nat.div n 2))) (Nat.beq (Nat.mod n 2) 0)) gV (Nat.ble n 1)) f
abbrev W := AV → Tmps → (Tmps → Bool) → Bool
def wZ : W := fun _ t k => k t
def wV : W := fun v t k => Tree.rec (k (.node .leaf (some v) .leaf)) (fun l _ r _ _ => k (.node l (some v) r)) t
def wL (w : W) : W := fun v t k => Tree.rec (w v .leaf fun l => k (.node l none .leaf)) (fun l x r _ _ => w v l fun l => k (.node l x r)) t
def wR (w : W) : W := fun v t k => Tree.rec (w v .leaf fun r => k (.node .leaf none r)) (fun l x r _ _ => w v r fun r => k (.node l x r)) t
def wOf (f : Nat) : Nat → W := Nat.rec (fun _ => wV) (fun _ ih n => Bool.rec (Bool.rec (wR (ih (Nat.div n 2))) (wL (ih (Nat.div n 2))) (Nat.beq (Nat.mod n 2) 0)) wV (Nat.ble n 1)) f
theorem gOf_succ (f n : Nat) : gOf (f + 1) n = if n ≤ 1 then gV else if n % 2 = 0 then gL (gOf f (n / 2)) else gR (gOf f (n / 2)) := by
  have e : gOf (f + 1) n = match Nat.ble n 1 with | true => gV | false => (match Nat.beq (Nat.mod n 2) 0 with | true => gL (gOf f (Nat.div n 2)) | false => gR (gOf f (Nat.div n 2))) := by
    cases h : Nat.ble n 1 <;> cases h2 : Nat.beq (Nat.mod n 2) 0 <;> simp [gOf, h, h2]
  rw [e]
  by_cases h : n ≤ 1
  · simp [h, Nat.ble_eq_true_of_le h]
  · have hb : Nat.ble n 1 = false := by
      cases hh : Nat.ble n 1 with
      | false => rfl
      | true => exact absurd (Nat.le_of_ble_eq_true hh) h
    simp only [hb, h, if_false]
    by_cases h2 : n % 2 = 0
    · have : Nat.beq (Nat.mod n 2) 0 = true := by show Nat.beq (n % 2) 0 = true; rw [h2]; rfl
      simp only [this, h2, if_true]; rfl
    · have : Nat.beq (Nat.mod n 2) 0 = false := by
        cases hh : Nat.beq (Nat.mod n 2) 0 with
        | false => rfl
        | true => exact absurd (Nat.eq_of_beq_eq_true hh) h2
      simp only [this, h2, if_false]; rfl
theorem wOf_succ (f n : Nat) : wOf (f + 1) n = if n ≤ 1 then wV else if n % 2 = 0 then wL (wOf f (n / 2)) else wR (wOf f (n / 2)) := by
  have e : wOf (f + 1) n = match Nat.ble n 1 with | true => wV | false => (match Nat.beq (Nat.mod n 2) 0 with | true => wL (wOf f (Nat.div n 2)) | false => wR (wOf f (Nat.div n 2))) := by
    cases h : Nat.ble n 1 <;> cases h2 : Nat.beq (Nat.mod n 2) 0 <;> simp [wOf, h, h2]
  rw [e]
  by_cases h : n ≤ 1
  · simp [h, Nat.ble_eq_true_of_le h]
  · have hb : Nat.ble n 1 = false := by
      cases hh : Nat.ble n 1 with
      | false => rfl
      | true => exact absurd (Nat.le_of_ble_eq_true hh) h
    simp only [hb, h, if_false]
    by_cases h2 : n % 2 = 0
    · have : Nat.beq (Nat.mod n 2) 0 = true := by show Nat.beq (n % 2) 0 = true; rw [h2]; rfl
      simp only [this, h2, if_true]; rfl
    · have : Nat.beq (Nat.mod n 2) 0 = false := by
        cases hh : Nat.beq (Nat.mod n 2) 0 with
        | false => rfl
        | true => exact absurd (Nat.eq_of_beq_eq_true hh) h2
      simp only [this, h2, if_false]; rfl
theorem gOf_spec : ∀ (f n : Nat), 1 ≤ n → n ≤ f → ∀ t : Tmps, gOf f n t = t.get n := by
  intro f
  induction f with
  | zero => intro n h1 h2; omega
  | succ f ih =>
    intro n h1 h2 t
    rw [gOf_succ]
    cases t with
    | leaf => rw [Tree.get_leaf]; split <;> (try split) <;> rfl
    | node l v r =>
      rw [Tree.get_node]
      split
      · rfl
      · split
        · exact ih (n / 2) (by omega) (by omega) l
        · exact ih (n / 2) (by omega) (by omega) r
theorem wOf_spec : ∀ (f n : Nat), 1 ≤ n → n ≤ f → ∀ (v : AV) (t : Tmps) (k : Tmps → Bool), wOf f n v t k = k (t.set (some v) n) := by
  intro f
  induction f with
  | zero => intro n h1 h2; omega
  | succ f ih =>
    intro n h1 h2 v t k
    rw [wOf_succ]
    cases t with
    | leaf =>
      rw [Tree.set_leaf]
      obtain ⟨m, rfl⟩ : ∃ m, n = m + 1 := ⟨n - 1, by omega⟩
      rw [Tree.one_succ]
      split
      · rfl
      · rename_i hn
        have e : ∀ p, 1 ≤ p → p ≤ m → Tree.one (some v) m p = Tree.one (some v) p p := by
          have key : ∀ (f p : Nat), 1 ≤ p → p ≤ f → Tree.one (some v) f p = Tree.one (some v) p p := by
            intro f
            induction f using Nat.strongRecOn with
            | _ f ihf =>
              intro p hp1 hp2
              obtain ⟨g, rfl⟩ : ∃ g, f = g + 1 := ⟨f - 1, by omega⟩
              obtain ⟨q, rfl⟩ : ∃ q, p = q + 1 := ⟨p - 1, by omega⟩
              rw [Tree.one_succ, Tree.one_succ]
              split
              · rfl
              · have e1 := ihf g (by omega) ((q + 1) / 2) (by omega) (by omega)
                have e2 : Tree.one (some v) q ((q + 1) / 2) = Tree.one (some v) ((q + 1) / 2) ((q + 1) / 2) := by
                  by_cases hq : q = g
                  · rw [hq] at e1 ⊢; exact e1
                  · exact ihf q (by omega) ((q + 1) / 2) (by omega) (by omega)
                rw [e1, e2]
          exact key m
        have e2 := e ((m + 1) / 2) (by omega) (by omega)
        split
        · show wOf f ((m + 1) / 2) v .leaf (fun l => k (.node l none .leaf)) = _
          rw [ih _ (by omega) (by omega), Tree.set_leaf, e2]
        · show wOf f ((m + 1) / 2) v .leaf (fun r => k (.node .leaf none r)) = _
          rw [ih _ (by omega) (by omega), Tree.set_leaf, e2]
    | node l x r =>
      rw [Tree.set_node]
      split
      · rfl
      · split
        · show wOf f (n / 2) v l (fun l => k (.node l x r)) = _
          rw [ih _ (by omega) (by omega)]
        · show wOf f (n / 2) v r (fun r => k (.node l x r)) = _
          rw [ih _ (by omega) (by omega)]
def gS (n : Nat) : G := gOf (Nat.succ n) (Nat.succ n)
def wS (n : Nat) : W := wOf (Nat.succ n) (Nat.succ n)
def gX (x : AX) : G := match x with | .t n => gS n | .c v => gC v
def wD (d : Option Nat) : W := match d with | none => wZ | some d => wS d
theorem gX_eq (x : AX) (t : Tmps) : gX x t = ev t x := by
  cases x with
  | t n => exact gOf_spec (Nat.succ n) (Nat.succ n) (Nat.succ_le_succ (Nat.zero_le n)) (Nat.le_refl _) t
  | c v => rfl
theorem wD_eq (d : Option Nat) (v : AV) (t : Tmps) (k : Tmps → Bool) : wD d v t k = k (putA d v t) := by
  cases d with
  | none => rfl
  | some d => exact wOf_spec (Nat.succ d) (Nat.succ d) (Nat.succ_le_succ (Nat.zero_le d)) (Nat.le_refl _) v t k

/-! small tools, by recursors -/
def oB {α : Type} (o : Option α) (k : α → Bool) : Bool := Option.rec false (fun x => k x) o
theorem oB_eq {α : Type} (o : Option α) (k : α → Bool) : oB o k = optB o k := by cases o <;> rfl
def bB (b k : Bool) : Bool := Bool.rec false k b
theorem bB_eq (b k : Bool) : bB b k = ifB b k := by cases b <;> rfl
def dS (v : AV) (k : AS → Bool) : Bool := AV.rec (fun x => AW.rec (fun y => k y) (fun _ => false) x) (fun _ => false) (fun _ => false) false v
theorem dS_eq (v : AV) (k : AS → Bool) : dS v k = optB (asS v) k := by cases v with | w x => cases x <;> rfl | _ => rfl
def sInt (x : AS) (k : IntKind → Tm → Bool) : Bool := AS.rec (fun q t => k q t) (fun _ => false) (fun _ _ => false) false (fun _ _ _ _ => false) false (fun _ => false) false (fun _ _ => false) false (fun _ => false) false (fun _ => false) false x
def sPtr (x : AS) (k : Nat → Nat → Bool) : Bool := AS.rec (fun _ _ => false) (fun _ => false) (fun a b => k a b) false (fun _ _ _ _ => false) false (fun _ => false) false (fun _ _ => false) false (fun _ => false) false (fun _ => false) false x
def sSlc (x : AS) (k : Nat → Nat → Nat → ACap → Bool) : Bool := AS.rec (fun _ _ => false) (fun _ => false) (fun _ _ => false) false (fun a b c d => k a b c d) false (fun _ => false) false (fun _ _ => false) false (fun _ => false) false (fun _ => false) false x
def sBool (x : AS) (k : Bool → Bool) : Bool := AS.rec (fun _ _ => false) (fun b => k b) (fun _ _ => false) false (fun _ _ _ _ => false) false (fun _ => false) false (fun _ _ => false) false (fun _ => false) false (fun _ => false) false x
def tLit (t : Tm) (k : Int → Bool) (d : Bool) : Bool :=
  Tm.rec (fun n => k n) (fun _ => d) (fun _ => d) (fun _ _ _ => d) (fun _ _ _ _ => d) (fun _ _ _ _ => d) (fun _ _ _ _ => d) (fun _ _ _ _ => d) (fun _ _ _ _ => d) (fun _ _ _ _ _ _ => d) (fun _ _ _ => d) (fun _ _ _ => d) (fun _ _ _ _ => d) t
def iNat (n : Int) (k : Nat → Bool) : Bool := Int.rec (fun m => k m) (fun _ => false) n
def dInt (v : AV) (k : IntKind → Tm → Bool) : Bool := dS v fun x => sInt x k
def dPtr (v : AV) (k : Nat → Nat → Bool) : Bool := dS v fun x => sPtr x k
def dSlc (v : AV) (k : Nat → Nat → Nat → ACap → Bool) : Bool := dS v fun x => sSlc x k
def dBool (v : AV) (k : Bool → Bool) : Bool := dS v fun x => sBool x k
def dNat (v : AV) (k : Nat → Bool) : Bool := dS v fun x => sInt x fun _ t => tLit t (fun n => iNat n k) false
def dAgg (v : AV) (k : List AS → Bool) : Bool := AV.rec (fun x => AW.rec (fun _ => false) (fun l => k l) x) (fun _ => false) (fun _ => false) false v
def dTup (v : AV) (k : List AW → Bool) : Bool := AV.rec (fun _ => false) (fun _ => false) (fun l => k l) false v
def dCls (v : AV) (k : List AS → Bool) : Bool := AV.rec (fun x => AW.rec (fun y => k (.cons y .nil)) (fun l => k l) x) (fun _ => false) (fun _ => false) false v
theorem dInt_eq (v : AV) (k : IntKind → Tm → Bool) : dInt v k = optB (asIntA v) fun p => k p.1 p.2 := by cases v with | w x => (cases x with | s y => cases y <;> rfl | agg l => rfl) | _ => rfl
theorem dPtr_eq (v : AV) (k : Nat → Nat → Bool) : dPtr v k = optB (asPtrA v) fun p => k p.1 p.2 := by cases v with | w x => (cases x with | s y => cases y <;> rfl | agg l => rfl) | _ => rfl
theorem dBool_eq (v : AV) (k : Bool → Bool) : dBool v k = optB (asBoolA v) k := by cases v with | w x => (cases x with | s y => cases y <;> rfl | agg l => rfl) | _ => rfl
theorem dNat_eq (v : AV) (k : Nat → Bool) : dNat v k = optB (asNatA v) k := by
  cases v with
  | w x => (cases x with
    | s y => (cases y with
      | int q t => (cases t with
        | lit n => cases n <;> rfl
        | _ => rfl)
      | _ => rfl)
    | agg l => rfl)
  | _ => rfl
theorem dAgg_eq (v : AV) (k : List AS → Bool) : dAgg v k = optB (asAggA v) k := by cases v with | w x => cases x <;> rfl | _ => rfl
theorem dCls_eq (v : AV) (k : List AS → Bool) : dCls v k = optB (cellsA v) k := by cases v with | w x => cases x <;> rfl | _ => rfl
theorem tLit_eq (t : Tm) (k : Int → Bool) (d : Bool) : tLit t k d = match t with | .lit n => k n | _ => d := by cases t <;> rfl

/-! forcing no more than is wanted -/
def fT (t : Tm) (k : Tm → Bool) : Bool := tLit t (fun n => forceI n fun n => k (.lit n)) (forceT t k)
theorem fT_eq (t : Tm) (k : Tm → Bool) : fT t k = k t := by
  unfold fT
  rw [tLit_eq]
  split
  · rw [forceI_eq]
  · rw [forceT_eq]
/-- a row of values: its spine and its single ones -/
def forceTs (l : List AW) : (List AW → Bool) → Bool := List.rec (fun k => k []) (fun x _ ih k => AW.rec (fun y => forceS y fun y => ih fun l => k (.s y :: l)) (fun m => ih fun l => k (.agg m :: l)) x) l
theorem forceTs_eq : ∀ (l : List AW) (k : List AW → Bool), forceTs l k = k l := by
  intro l
  induction l with
  | nil => intro k; rfl
  | cons x l ih =>
    intro k
    cases x with
    | s y => show forceS y (fun y => forceTs l fun l => k (.s y :: l)) = _; rw [forceS_eq, ih]
    | agg m => show forceTs l (fun l => k (.agg m :: l)) = _; rw [ih]
/-- a value that a call answers -/
def forceR (v : AV) (k : AV → Bool) : Bool := AV.rec (fun x => AW.rec (fun y => forceS y fun y => k (.w (.s y))) (fun l => k (.w (.agg l))) x) (fun l => k (.str l)) (fun l => forceTs l fun l => k (.tup l)) (k .undef) v
theorem forceR_eq (v : AV) (k : AV → Bool) : forceR v k = k v := by
  cases v with
  | w x => (cases x with | s y => exact forceS_eq y fun y => k (.w (.s y)) | agg l => rfl)
  | str l => rfl
  | tup l => exact forceTs_eq l fun l => k (.tup l)
  | undef => rfl

/-! rows of cells -/
def getK (l : List AS) (n : Nat) (k : AS → Bool) : Bool := oB (lget l n) k
/-- so many from the head, or no -/
def tkK (l : List AS) : Nat → (List AS → Bool) → Bool := List.rec (fun n k => Nat.rec (k []) (fun _ _ => false) n) (fun x _ ih n k => Nat.rec (k []) (fun n _ => ih n fun r => k (x :: r)) n) l
theorem tkK_eq : ∀ (l : List AS) (n : Nat) (k : List AS → Bool), tkK l n k = ifB (Nat.ble n (llen l)) (k (ltake l n)) := by
  intro l
  induction l with
  | nil =>
    intro n k
    cases n with
    | zero => rfl
    | succ n => rfl
  | cons x l ih =>
    intro n k
    cases n with
    | zero => rfl
    | succ n =>
      show tkK l n (fun r => k (x :: r)) = _
      rw [ih]
      rfl
def takeK (l : List AS) (off n : Nat) (k : List AS → Bool) : Bool := Nat.rec (optB (takeN l off 0) k) (fun m _ => tkK (ldrop l off) (Nat.succ m) k) n
theorem takeK_eq (l : List AS) (off n : Nat) (k : List AS → Bool) : takeK l off n k = optB (takeN l off n) k := by
  cases n with
  | zero => rfl
  | succ m =>
    show tkK (ldrop l off) (m + 1) k = _
    rw [tkK_eq]
    unfold takeN
    have e : Nat.ble (m + 1) (llen (ldrop l off)) = Nat.ble (Nat.add off (m + 1)) (llen l) := by
      rw [llen_eq, llen_eq, ldrop_eq, List.length_drop]
      apply Bool.eq_iff_iff.2
      rw [natBle_iff, natBle_iff]
      show m + 1 ≤ l.length - off ↔ off + (m + 1) ≤ l.length
      omega
    rw [e]
    cases Nat.ble (Nat.add off (m + 1)) (llen l) <;> rfl
/-- over a row, from a place on; no, if they do not fit -/
def lsK (l : List AS) : Nat → List AS → (List AS → Bool) → Bool :=
  List.rec (fun n xs k => List.rec (Nat.rec (k []) (fun _ _ => false) n) (fun _ _ _ => false) xs)
    (fun x l ih n xs k => Nat.rec (List.rec (k (x :: l)) (fun y ys _ => ih 0 ys fun l' => k (y :: l')) xs) (fun n _ => ih n xs fun l' => k (x :: l')) n) l
theorem lsK_eq : ∀ (l : List AS) (n : Nat) (xs : List AS) (k : List AS → Bool), lsK l n xs k = ifB (Nat.ble (Nat.add n (llen xs)) (llen l)) (lsetK l n xs k) := by
  intro l
  induction l with
  | nil =>
    intro n xs k
    rw [lsetK_eq, lset_nil]
    cases xs with
    | nil => cases n <;> rfl
    | cons y ys =>
      show false = _
      have e : Nat.ble (Nat.add n (llen (y :: ys))) (llen ([] : List AS)) = false := by
        cases h : Nat.ble (Nat.add n (llen (y :: ys))) (llen ([] : List AS)) with
        | false => rfl
        | true =>
          have h := (natBle_iff _ _).1 h
          rw [llen_eq] at h
          simp [llen_eq] at h
      rw [e]; rfl
  | cons x l ih =>
    intro n xs k
    cases n with
    | zero =>
      cases xs with
      | nil => rw [lsetK_eq, lset_zero_nil]; rfl
      | cons y ys =>
        show lsK l 0 ys (fun l' => k (y :: l')) = _
        rw [ih, lsetK_eq, lsetK_eq, lset_zero_cons]
        have e : Nat.ble (Nat.add 0 (llen (y :: ys))) (llen (x :: l)) = Nat.ble (Nat.add 0 (llen ys)) (llen l) := by
          simp only [llen_eq]
          apply Bool.eq_iff_iff.2
          rw [natBle_iff, natBle_iff]
          show 0 + (y :: ys).length ≤ (x :: l).length ↔ 0 + ys.length ≤ l.length
          simp
        rw [e]
    | succ n =>
      show lsK l n xs (fun l' => k (x :: l')) = _
      rw [ih, lsetK_eq, lsetK_eq, lset_succ]
      have e : Nat.ble (Nat.add (n + 1) (llen xs)) (llen (x :: l)) = Nat.ble (Nat.add n (llen xs)) (llen l) := by
        simp only [llen_eq]
        apply Bool.eq_iff_iff.2
        rw [natBle_iff, natBle_iff]
        show n + 1 + xs.length ≤ (x :: l).length ↔ n + xs.length ≤ l.length
        simp only [List.length_cons]; omega
      rw [e]
/-- so many from a place on, or as many as there are -/
def pkK (l : List AS) : Nat → (List AS → Bool) → Bool := List.rec (fun _ k => k []) (fun x _ ih n k => Nat.rec (k []) (fun n _ => ih n fun r => k (x :: r)) n) l
theorem pkK_eq : ∀ (l : List AS) (n : Nat) (k : List AS → Bool), pkK l n k = k (ltake l n) := by
  intro l
  induction l with
  | nil => intro n k; cases n <;> rfl
  | cons x l ih =>
    intro n k
    cases n with
    | zero => rfl
    | succ n => show pkK l n (fun r => k (x :: r)) = _; rw [ih]; rfl

end
end Go.Sy

