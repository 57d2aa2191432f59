/- The symbolic executor: parts O, Na, P, Q, R. Sound by one theorem (callA_ok). No condition. -/
import Derived.Test.YtnfoaablgldjcaaGreatSy2
import Derived.Maps.RangeRun
set_option linter.unusedVariables false
set_option linter.unusedSimpArgs false
set_option linter.unusedSectionVars false
/-! The symbolic executor, part O: append and copy. -/
namespace Go.Sy
set_option linter.unusedVariables false
set_option linter.unusedSectionVars false
noncomputable section

/-- the first n, then others -/
def tappK (l : List AS) : Nat → List AS → (List AS → Bool) → Bool :=
  List.rec (fun _ xs k => k xs) (fun x _ ih n xs k => Nat.casesOn n (k xs) fun n => ih n xs fun l' => k (x :: l')) l
theorem tappK_eq : ∀ (l : List AS) (n : Nat) (xs : List AS) (k : List AS → Bool), tappK l n xs k = k (l.take n ++ xs) := by
  intro l
  induction l with
  | nil => intro n xs k; show k xs = _; simp
  | cons x l ih =>
    intro n xs k
    cases n with
    | zero => rfl
    | succ n => show tappK l n xs (fun l' => k (x :: l')) = _; rw [ih]; rfl
def srcA (xv : AV) (s : S) (z : Nat) : Option (Nat × List AS) := optP (asS xv) none fun q => match q with
  | .nils => some (0, [])
  | .slice id off m _ => optP (s.get id) none fun o => optP (cellsOfObj o) none fun l => optP (takeN l off (Nat.mul m z)) none fun xs => some (m, xs)
  | _ => none
def fitsA (n bytes : Nat) : Bool := and2 (Nat.ble n 9223372036854775807) (Nat.ble (Nat.mul n bytes) 140737488355328)
def rowOf (o : AObj) (e : TypeId) (z : Nat) : Option (List AS) := match o with | .row l e' z' => (match and2 (Nat.beq e e') (Nat.beq z z') with | true => some l | false => none) | _ => none
def S.next (s : S) : Nat := match s with | .mk _ nx _ => nx
def aIn (id len m : Nat) (cap : ACap) (o : AObj) (l xs : List AS) (z : Nat) (s : S) (k : BK) : Bool :=
  ifB (Nat.ble (Nat.add (Nat.mul len z) (llen xs)) (llen l)) (lsetK l (Nat.mul len z) xs fun l' => setCellsK o l' fun o' => s.updK id o' fun s => forceN (Nat.add len m) fun n => k (.w (.s (.slice id 0 n cap))) s)
def aNew (need : Nat) (l : List AS) (e : TypeId) (z bytes : Nat) (s : S) (k : BK) : Bool :=
  ifB (fitsA need bytes) (s.newK (.row l e z) fun s' => forceN need fun n => k (.w (.s (.slice s.next 0 n (.op 0)))) s')
def aMove (id need : Nat) (l : List AS) (e : TypeId) (z bytes : Nat) (s : S) (k : BK) : Bool :=
  ifB (fitsA need bytes) (s.moveK id (.row l e z) fun s' => forceN need fun n => k (.w (.s (.slice s.next 0 n (.op 0)))) s')
def aSlice (e : TypeId) (z bytes id off len : Nat) (cap : ACap) (m : Nat) (xs : List AS) (o : AObj) (l : List AS) (s : S) (k : BK) : Bool := match cap with
  | .ex n => (match Nat.ble (Nat.add len m) n with
    | true => ifB (Nat.beq off 0) (aIn id len m (.ex n) o l xs z s k)
    | false => optB (takeN l off (Nat.mul len z)) fun olds => tappK olds (llen olds) xs fun r => aNew (Nat.add len m) r e z bytes s k)
  | .op d => ifB (and2 (Nat.beq off 0) (Nat.beq d 0)) (optB (rowOf o e z) fun _ => match Nat.ble (Nat.mul (Nat.add len m) z) (llen l) with
    | true => aIn id len m (.op 0) o l xs z s k
    | false => ifB (Nat.ble (Nat.mul len z) (llen l)) (tappK l (Nat.mul len z) xs fun r => aMove id (Nat.add len m) r e z bytes s k))
def appCore (e : TypeId) (z bytes : Nat) (q : AS) (m : Nat) (xs : List AS) (s : S) (k : BK) : Bool := match q with
  | .nils => (match m with | 0 => k (.w (.s .nils)) s | n + 1 => aNew (Nat.succ n) xs e z bytes s k)
  | .slice id off len cap => optB (s.get id) fun o => optB (cellsOfObj o) fun l => aSlice e z bytes id off len cap m xs o l s k
  | _ => false
def bAppend (e : TypeId) (z bytes : Nat) (sv xv : AV) (s : S) (k : BK) : Bool := optB (asS sv) fun q => optB (srcA xv s z) fun p => appCore e z bytes q p.1 p.2 s k
/-- append of a make: so many zeros -/
def bAppendz (e : TypeId) (z bytes : Nat) (zero : List AS) (sv nv : AV) (s : S) (k : BK) : Bool := optB (asS sv) fun q => optB (asNatA nv) fun n => ifB (and2 (Nat.ble n 16777216) (Nat.ble bytes 1048576)) (appCore e z bytes q n (repA zero n) s k)
def bCopy (z : Nat) (dv xv : AV) (s : S) (k : BK) : Bool := optB (asS dv) fun q => match q with
  | .slice id off dl _ => optB (asS xv) fun y => (match y with
    | .nils => k (vInt .i64 (.lit (.ofNat 0))) s
    | .slice id2 off2 sl _ => optB (s.get id2) fun o2 => optB (cellsOfObj o2) fun l2 => forceN (natMin sl dl) fun n => optB (takeN l2 off2 (Nat.mul n z)) fun xs =>
        optB (s.get id) fun o => optB (cellsOfObj o) fun l => ifB (Nat.ble (Nat.add off (llen xs)) (llen l)) (lsetK l off xs fun l' => setCellsK o l' fun o' => s.updK id o' fun s => k (vInt .i64 (.lit (.ofNat n))) s)
    | _ => false)
  | .nils => optB (asS xv) fun y => (match y with
    | .nils => k (vInt .i64 (.lit (.ofNat 0))) s
    | .slice _ _ _ _ => k (vInt .i64 (.lit (.ofNat 0))) s
    | _ => false)
  | _ => false

section
variable {P : Program} {T : TyT} {c : Cx} {s : S} {w : World}

/-- what an append takes from its second operand -/
theorem src_run {e : TypeId} {ie : TyA} (hie : TyOk P e ie) (h : Rel c s w) {xv : AV} {m : Nat} {xs : List AS} (hs : srcA xv s ie.size = some (m, xs)) (hx : xv.wf c s.nx) :
    xs.length = m * ie.size ∧ (∀ x ∈ xs, x.wf c s.nx) ∧
    ((xv.conc c = .slice none 0 0 ∧ m = 0) ∨ ∃ a cp, xv.conc c = .slice (some a) m cp ∧ ∀ j v, (xs.map (AS.conc c))[j]? = some v → w.cell? (a.add j) = some v) := by
  unfold srcA at hs
  obtain ⟨q, h1, g1⟩ := optP_some hs
  have e1 := asS_spec h1
  subst e1
  split at g1 <;> try (simp at g1; done)
  · injection g1 with g1; injection g1 with g1 g2; subst g1; subst g2
    exact ⟨by simp, by simp, .inl ⟨rfl, rfl⟩⟩
  · rename_i id off m' cap
    obtain ⟨o, h2, g2⟩ := optP_some g1
    obtain ⟨l, h3, g3⟩ := optP_some g2
    obtain ⟨ys, h4, g4⟩ := optP_some g3
    injection g4 with g4; injection g4 with e1 e2; subst e1; subst e2
    rw [S.get_eq] at h2
    obtain ⟨hc, hl, hm⟩ := obj_cells (h.obj id o h2) h3 h4
    have hw := h.wf id o h2
    have hlw : ∀ y ∈ l, y.wf c s.nx := by
      cases o with
      | map => cases h3
      | iter => cases h3
      | cells m e => injection h3 with h3; subst h3; exact hw
      | row m e z => injection h3 with h3; subst h3; exact hw
    exact ⟨hl, fun x hx => hlw x (hm x hx), .inr ⟨_, _, rfl, hc⟩⟩

theorem AS.oneL (c : Cx) (xs : List AS) : ∀ u ∈ xs.map (AS.conc c), u.oneCell' = true := by
  intro u hu
  simp only [List.mem_map] at hu
  obtain ⟨x, _, rfl⟩ := hu
  exact AS.oneCell c x

/-- an append within what there is -/
theorem run_append_in {t ty e : TypeId} {i : TyA} {ie : TyA} (hi : TyOk P t i) (hd : i.desc = .slice e) (hie : TyOk P e ie) (g len cap : Nat) (cur : Array Value) (te : TypeId)
    (hg : w.heap[g]? = some (.cells cur te (0, 0))) {xv : Value} {m : Nat} {news : List Value} (hl : news.length = m * ie.size)
    (hx : (xv = .slice none 0 0 ∧ m = 0) ∨ ∃ a cp, xv = .slice (some a) m cp ∧ ∀ j v, news[j]? = some v → w.cell? (a.add j) = some v) (h1 : ∀ u ∈ news, u.oneCell' = true)
    (hroom : len + m ≤ cap) (hfit : len * ie.size + news.length ≤ cur.size) :
    (Builtin.append_ #[t, t] ty #[.slice (some ⟨g, 0, none⟩) len cap, xv]).run P w =
      .ok (.slice (some ⟨g, 0, none⟩) (len + m) cap) (w.setRow g (cur.toList.take (len * ie.size) ++ news ++ cur.toList.drop (len * ie.size + news.length)).toArray) := by
  obtain ⟨inf, hinf, hsz, _⟩ := hie.info
  have hund : P.underlying t = some (.slice e) := by rw [hi.und, hd]
  have hst := run_storeCells_at P g (len * ie.size) te news 0 cur w hg (by simpa using hfit) h1
  simp only [Nat.add_zero] at hst
  rcases hx with ⟨rfl, rfl⟩ | ⟨a, cp, rfl, hc⟩
  · have hn : news = [] := List.eq_nil_of_length_eq_zero (by simpa using hl)
    subst hn
    simp [Builtin.append_, run_underlying hund, sizeOf, typeInfo, hinf, hsz, Builtin.lenOf, show len ≤ cap from hroom, run_firstCells_none, addr_add]
    simp at hst
    simp [hst]
  · have hf := run_firstCells_some (P := P) w ie.size m a m cp news hl hc
    simp [Builtin.append_, run_underlying hund, sizeOf, typeInfo, hinf, hsz, Builtin.lenOf, hroom, hf, addr_add, hst]

theorem fitsA_spec {n b : Nat} (h : fitsA n b = true) : n ≤ 9223372036854775807 ∧ n * b ≤ 140737488355328 := by
  obtain ⟨h1, h2⟩ := and2_iff.1 h
  exact ⟨(natBle_iff _ _).1 h1, (natBle_iff _ _).1 h2⟩

theorem new_row (h : Rel c s w) {l : List AS} (hl : ∀ x ∈ l, x.wf c s.nx) (e : TypeId) (z cap : Nat) (rest : List Value) (hcap : cap ≤ maxLen) (hsz : l.length + rest.length = cap * z) :
    Rel (c.set2 s.nx w.heap.size cap) (s.new (.row l e z)) (w.drew.alloc (.cells (l.map (AS.conc c) ++ rest).toArray e)) ∧
    Step c (c.set2 s.nx w.heap.size cap) s (s.new (.row l e z)) w (w.drew.alloc (.cells (l.map (AS.conc c) ++ rest).toArray e)) := by
  have he := Cx.set2_ext c s.nx w.heap.size cap
  have hd : Rel c s w.drew := h.drewBy (w.drawn + 1)
  have h1 : Rel (c.set2 s.nx w.drew.heap.size cap) (s.new (.row l e z)) (w.drew.alloc (.cells (l.map (AS.conc c) ++ rest).toArray e)) := by
    refine hd.new (fun x hx => AS.wf_ext he (by omega) (hl x hx)) ?_
    refine ⟨_, rfl, ?_, ?_, ?_⟩
    · simpa [Cx.set2] using hcap
    · simp [Cx.set2]; omega
    · have : l.map (AS.conc (c.set2 s.nx w.drew.heap.size cap)) = l.map (AS.conc c) := concL_ext he hl
      rw [this]; simp
  have h2 : Step c (c.set2 s.nx w.drew.heap.size cap) s (s.new (.row l e z)) w.drew (w.drew.alloc (.cells (l.map (AS.conc c) ++ rest).toArray e)) := Step.new _ _ _
  exact ⟨h1, (Step.drewBy c s w (w.drawn + 1)).trans h2⟩

/-- a slice that was appended to and may have moved -/
theorem S.at_move (s : S) (id : Nat) (o : AObj) (hid : id ≠ s.nx) (id' : Nat) : (s.move id o).at id' = if id' = s.nx then some o else if id' = id then none else s.at id' := by
  simp only [S.at, S.move]
  rw [Tree.get_set _ _ _ _ (by omega) (by omega)]
  by_cases h1 : id' = s.nx
  · simp [h1]
  · rw [if_neg (by omega), if_neg h1, Tree.get_set _ _ _ _ (by omega) (by omega)]
    by_cases h2 : id' = id
    · simp [h2]
    · rw [if_neg (by omega), if_neg h2]
theorem move_step (h : Rel c s w) {id : Nat} {o0 : AObj} (h0 : s.at id = some o0) {l : List AS} (hl : ∀ x ∈ l, x.wf c s.nx) (e : TypeId) (z cap g : Nat) {w' : World} (cur : Array Value)
    (hg : w'.heap[g]? = some (.cells cur e (0, 0))) (hcap : cap ≤ maxLen) (hsz : cur.size = cap * z) (htk : cur.toList.take l.length = l.map (AS.conc c))
    (hor : g = c.ι id ∨ g = w.heap.size) (hos : w'.os = w.os) (ht : w'.tape = w.tape) (hou : w'.output = w.output) (hs : w.heap.size ≤ w'.heap.size)
    (hother : ∀ b, b < w.heap.size → b ≠ g → w'.heap[b]? = w.heap[b]?) :
    Rel (c.set2 s.nx g cap) (s.move id (.row l e z)) w' ∧ Step c (c.set2 s.nx g cap) s (s.move id (.row l e z)) w w' := by
  have he := Cx.set2_ext c s.nx g cap
  have hlt := h.lt id o0 h0
  have hin : (c.set2 s.nx g cap).ι s.nx = g := by simp [Cx.set2]
  have hne : id ≠ s.nx := by omega
  have old : ∀ id' o', (s.move id (.row l e z)).at id' = some o' → id' ≠ s.nx → s.at id' = some o' ∧ id' ≠ id := by
    intro id' o' ho hn
    rw [S.at_move _ _ _ hne, if_neg hn] at ho
    by_cases h2 : id' = id
    · rw [if_pos h2] at ho; cases ho
    · rw [if_neg h2] at ho; exact ⟨ho, h2⟩
  have new : ∀ o', (s.move id (.row l e z)).at s.nx = some o' → o' = .row l e z := by
    intro o' ho
    rw [S.at_move _ _ _ hne, if_pos rfl] at ho
    injection ho with ho; exact ho.symm
  have gne : ∀ id' o', s.at id' = some o' → id' ≠ id → c.ι id' ≠ g := by
    intro id' o' ho hn hg'
    rcases hor with hor | hor
    · exact hn (h.inj _ _ _ _ ho h0 (hg'.trans hor))
    · have := h.ι_lt ho; omega
  refine ⟨⟨h.sat, ?_, ?_, ?_, ?_⟩, ⟨he, by show s.nx ≤ s.nx + 1; omega, hos, ht, hou, hs, ?_, ?_⟩⟩
  · intro id' o' ho
    by_cases hn : id' = s.nx
    · subst hn; show s.nx < s.nx + 1; omega
    · have := h.lt id' o' (old id' o' ho hn).1; show id' < s.nx + 1; omega
  · intro id' o' ho
    by_cases hn : id' = s.nx
    · subst hn; rw [new o' ho]; exact fun x hx => AS.wf_ext he (by show s.nx ≤ s.nx + 1; omega) (hl x hx)
    · exact AObj.wf_ext he (by show s.nx ≤ s.nx + 1; omega) (h.wf id' o' (old id' o' ho hn).1)
  · intro id' o' ho
    by_cases hn : id' = s.nx
    · subst hn; rw [new o' ho, hin, hg]
      refine ⟨cur, rfl, ?_, ?_, ?_⟩
      · simpa [Cx.set2] using hcap
      · simpa [Cx.set2] using hsz
      · rw [concL_ext he hl]; exact htk
    · obtain ⟨h1, h2⟩ := old id' o' ho hn
      have hl' := h.lt id' o' h1
      rw [he.ι id' hl', hother _ (h.ι_lt h1) (gne id' o' h1 h2)]
      exact ObjRel.ext he hl' (h.wf id' o' h1) (h.obj id' o' h1)
  · intro id1 id2 o1 o2 h1 h2 heq
    by_cases n1 : id1 = s.nx <;> by_cases n2 : id2 = s.nx
    · omega
    · exfalso
      subst n1
      obtain ⟨a1, a2⟩ := old id2 o2 h2 n2
      rw [hin, he.ι id2 (h.lt id2 o2 a1)] at heq
      exact gne id2 o2 a1 a2 heq.symm
    · exfalso
      subst n2
      obtain ⟨a1, a2⟩ := old id1 o1 h1 n1
      rw [hin, he.ι id1 (h.lt id1 o1 a1)] at heq
      exact gne id1 o1 a1 a2 heq
    · obtain ⟨a1, _⟩ := old id1 o1 h1 n1
      obtain ⟨b1, _⟩ := old id2 o2 h2 n2
      rw [he.ι id1 (h.lt id1 o1 a1), he.ι id2 (h.lt id2 o2 b1)] at heq
      exact h.inj _ _ _ _ a1 b1 heq
  · intro b hb hnot
    refine hother b hb ?_
    rintro rfl
    rcases hor with hor | hor
    · exact hnot id o0 h0 hor.symm
    · omega
  · intro id' o' ho
    by_cases hn : id' = s.nx
    · subst hn
      rw [hin]
      rcases hor with hor | hor
      · exact .inr ⟨id, o0, h0, hor.symm⟩
      · exact .inl (by omega)
    · obtain ⟨a1, _⟩ := old id' o' ho hn
      exact .inr ⟨id', o', a1, (he.ι id' (h.lt id' o' a1)).symm⟩

theorem wf_obj_cells {o : AObj} {l : List AS} (h : cellsOfObj o = some l) {nx : Nat} (hw : o.wf c nx) : ∀ x ∈ l, x.wf c nx := by
  cases o with
  | map => cases h
  | iter => cases h
  | cells m e => injection h with h; subst h; exact hw
  | row m e z => injection h with h; subst h; exact hw

/-- How an append runs: x bears m elements, of which the cells are news. -/
structure AppRun (P : Program) (w : World) (t t2 ty e : TypeId) (size bytes : Nat) (zc : Array Value) (x : Value) (m : Nat) (news : List Value) : Prop where
  room : ∀ (g len cap : Nat) (cur : Array Value) (te : TypeId), w.heap[g]? = some (.cells cur te (0, 0)) → len + m ≤ cap → len * size + news.length ≤ cur.size →
    (Builtin.append_ #[t, t2] ty #[.slice (some ⟨g, 0, none⟩) len cap, x]).run P w =
      .ok (.slice (some ⟨g, 0, none⟩) (len + m) cap) (w.setRow g (cur.toList.take (len * size) ++ news ++ cur.toList.drop (len * size + news.length)).toArray)
  grow : ∀ (b : Addr) (len cap : Nat) (olds : List Value), olds.length = len * size → (∀ j v, olds[j]? = some v → w.cell? (b.add j) = some v) → len ≤ cap → cap < len + m → len + m ≤ 9223372036854775807 →
    (len + m) * bytes ≤ 140737488355328 →
    (Builtin.append_ #[t, t2] ty #[.slice (some b) len cap, x]).run P w =
      .ok (.slice (some ⟨w.heap.size, 0, none⟩) (len + m) (grownCap w (len + m) cap e))
        (w.drew.alloc (.cells (olds.toArray ++ news.toArray ++ Builtin.zeroCells zc (grownCap w (len + m) cap e - (len + m))) e))
  nil0 : m = 0 → (Builtin.append_ #[t, t2] ty #[.slice none 0 0, x]).run P w = .ok (.slice none 0 0) w
  nil : 0 < m → m ≤ 9223372036854775807 → m * bytes ≤ 140737488355328 → (Builtin.append_ #[t, t2] ty #[.slice none 0 0, x]).run P w =
      .ok (.slice (some ⟨w.heap.size, 0, none⟩) m (grownCap w m 0 e)) (w.drew.alloc (.cells (news.toArray ++ Builtin.zeroCells zc (grownCap w m 0 e - m)) e))

theorem src_appRun {t ty e : TypeId} {i ie : TyA} (hi : TyOk P t i) (hd : i.desc = .slice e) (hie : TyOk P e ie) {x : Value} {m : Nat} {news : List Value} (hl : news.length = m * ie.size)
    (hx : (x = .slice none 0 0 ∧ m = 0) ∨ ∃ a cp, x = .slice (some a) m cp ∧ ∀ j v, news[j]? = some v → w.cell? (a.add j) = some v) (h1 : ∀ u ∈ news, u.oneCell' = true) (hz : 0 < ie.size) :
    AppRun P w t t ty e ie.size ie.bytes (ie.zero.conc c).cells x m news := by
  obtain ⟨inf, hinf, hsz, hby, zv, hzv, hzc⟩ := hie.info
  have hund : P.underlying t = some (.slice e) := by rw [hi.und, hd]
  refine ⟨?_, ?_, ?_, ?_⟩
  · intro g len cap cur te hg hroom hfit
    exact run_append_in hi hd hie g len cap cur te hg hl hx h1 hroom hfit
  · intro b len cap olds hol hoc hlc hlt h63 hb
    rcases hx with ⟨_, hm⟩ | ⟨a, cp, rfl, hc⟩
    · omega
    · rw [hzc c]
      exact run_append_grow (P := P) w t ty e inf zv hund hinf hzv b len cap olds (by rw [hsz]; exact hol) hoc a m cp news (by rw [hsz]; exact hl) hc hlt (by omega) (by rw [hby]; exact growslice_fits hlt hb)
  · intro hm
    rcases hx with ⟨rfl, _⟩ | ⟨a, cp, rfl, hc⟩
    · simp [Builtin.append_, run_underlying hund, sizeOf, typeInfo, hinf, Builtin.lenOf, run_firstCells_none]
    · subst hm
      have hne : news = [] := List.eq_nil_of_length_eq_zero (by simpa using hl)
      have hf := run_firstCells_some (P := P) w ie.size 0 a 0 cp [] (by simp) (by simp)
      simp [Builtin.append_, run_underlying hund, sizeOf, typeInfo, hinf, hsz, Builtin.lenOf, hf]
  · intro h0 h63 hb
    rcases hx with ⟨_, hm⟩ | ⟨a, cp, rfl, hc⟩
    · omega
    · rw [hzc c]
      exact run_append_nil (P := P) w t ty e inf zv hund hinf hzv a m cp news (by rw [hsz]; exact hl) hc h0 (by omega) (by rw [hby]; omega)

theorem append_core {t t2 ty e : TypeId} {ie : TyA} (hie : TyOk P e ie) (hz : 0 < ie.size) (h : Rel c s w) {q : AS} (hsv : q.wf c s.nx) {x : Value} {m : Nat} {xs : List AS}
    (hlen : xs.length = m * ie.size) (hxw : ∀ x ∈ xs, x.wf c s.nx) (hap : AppRun P w t t2 ty e ie.size ie.bytes (ie.zero.conc c).cells x m (xs.map (AS.conc c)))
    {k : BK} (hk2 : appCore e ie.size ie.bytes q m xs s k = true) :
    ∃ c' v s' w', (Builtin.append_ #[t, t2] ty #[q.conc c, x]).run P w = .ok (v.conc c') w' ∧ v.wf c' s'.nx ∧ Step c c' s s' w w' ∧ Rel c' s' w' ∧ k v s' = true := by
  have hnext : s.next = s.nx := by cases s; rfl
  have hzs : (ie.zero.conc c).cells.size = ie.size := by rw [cellsW_conc]; simp [hie.len]
  have hlen' : (xs.map (AS.conc c)).length = m * ie.size := by simpa using hlen
  unfold appCore at hk2
  -- a new row
  have fresh : ∀ {olds : List AS} {need : Nat}, need = olds.length / ie.size + m → olds.length = (need - m) * ie.size → (∀ x ∈ olds, x.wf c s.nx) → ∀ {kk : BK}, aNew need (olds ++ xs) e ie.size ie.bytes s kk = true →
      (∀ cap, need ≤ cap → cap ≤ maxLen → ∃ w', w' = w.drew.alloc (.cells ((olds ++ xs).map (AS.conc c) ++ (Builtin.zeroCells (ie.zero.conc c).cells (cap - need)).toList).toArray e) ∧
        ∃ c' s', Rel c' s' w' ∧ Step c c' s s' w w' ∧ (AV.w (.s (.slice s.nx 0 need (.op 0)))).conc c' = .slice (some ⟨w.heap.size, 0, none⟩) need cap ∧
          (AV.w (.s (.slice s.nx 0 need (.op 0)))).wf c' s'.nx ∧ kk (AV.w (.s (.slice s.nx 0 need (.op 0)))) s' = true) := by
    intro olds need hneed holds how kk hkk cap hcap hmax
    unfold aNew at hkk
    obtain ⟨_, hkk⟩ := ifB_true hkk
    rw [S.newK_eq, forceN_eq, hnext] at hkk
    refine ⟨_, rfl, c.set2 s.nx w.heap.size cap, s.new (.row (olds ++ xs) e ie.size), ?_, ?_, ?_, ?_, hkk⟩
    all_goals
      have hle : m ≤ need := by rw [hneed]; exact Nat.le_add_left _ _
      have hnr := new_row h (l := olds ++ xs) (by
        intro x hx
        rcases List.mem_append.1 hx with hx | hx
        · exact how x hx
        · exact hxw x hx) e ie.size cap (Builtin.zeroCells (ie.zero.conc c).cells (cap - need)).toList hmax (by
          rw [List.length_append, holds, hlen, Array.length_toList, size_zeroCells, hzs, ← Nat.add_mul, ← Nat.add_mul]
          congr 1; omega)
    · exact hnr.1
    · exact hnr.2
    · simp [AV.conc, AW.conc, AS.conc, ACap.conc, Cx.set2]
    · refine ⟨by show s.nx < s.nx + 1; omega, ?_⟩
      simp [ACap.wf, Cx.set2]; omega
  split at hk2 <;> try (simp at hk2; done)
  · -- onto nil
    have esv : AS.nils.conc c = .slice none 0 0 := rfl
    cases m with
    | zero =>
      simp only at hk2
      refine ⟨c, .w (.s .nils), s, w, ?_, trivial, Step.refl c s w, h, hk2⟩
      rw [esv, hap.nil0 rfl]; rfl
    | succ n =>
      simp only at hk2
      have hfit := fitsA_spec (ifB_true (show ifB (fitsA (n + 1) ie.bytes) _ = true from hk2)).1
      have hrun := hap.nil (by omega) hfit.1 hfit.2
      have hge := grownCap_ge w (n + 1) 0 e
      have hmax := grownCap_le_maxLen w (n + 1) 0 e (by unfold maxLen; omega)
      obtain ⟨w', hw', c', s', r1, r2, r3, r4, r5⟩ := fresh (olds := []) (need := n + 1) (by simp) (by simp) (by simp) (by simpa using hk2) _ hge hmax
      refine ⟨c', _, s', w', ?_, r4, r2, r1, r5⟩
      rw [esv, hrun, r3, hw']
      congr 2
      simp
  · -- onto a slice
    rename_i id off len cap
    obtain ⟨o, h3, hk3⟩ := optB_true hk2
    obtain ⟨l, h4, hk4⟩ := optB_true hk3
    clear hk2 hk3
    rw [S.get_eq] at h3
    have hob := h.obj id o h3
    have hlw := wf_obj_cells h4 (h.wf id o h3)
    have hidlt := h.lt id o h3
    -- within what there is
    have inPlace : ∀ {cp : ACap}, off = 0 → len + m ≤ cp.conc c id → cp.wf c id (len + m) → aIn id len m cp o l xs ie.size s k = true →
        ∃ c' v s' w', (Builtin.append_ #[t, t2] ty #[.slice (some ⟨c.ι id, 0, none⟩) len (cp.conc c id), x]).run P w = .ok (v.conc c') w' ∧ v.wf c' s'.nx ∧ Step c c' s s' w w' ∧ Rel c' s' w' ∧ k v s' = true := by
      intro cp hoff hroom hcw hin
      unfold aIn at hin
      obtain ⟨hf1, hin⟩ := ifB_true hin
      have hf1 : len * ie.size + llen xs ≤ llen l := (natBle_iff _ _).1 hf1
      rw [llen_eq, llen_eq] at hf1
      rw [lsetK_eq] at hin
      obtain ⟨cur, te, o', g1, g2, g3, g4, g5⟩ := over_row hob h4 hf1 hin
      rw [S.updK_eq, forceN_eq] at g3
      have hst := store_step h h3 g1 _ (g4 s.nx (h.wf id o h3) hxw) g5
      refine ⟨c, .w (.s (.slice id 0 (len + m) cp)), s.upd id o', _, ?_, ⟨hidlt, hcw⟩, hst.2, hst.1, g3⟩
      have := hap.room (c.ι id) len (cp.conc c id) cur te g1 hroom (by simpa using g2)
      rw [this]
      simp [AV.conc, AW.conc, AS.conc]
    cases cap with
    | ex n =>
      simp only [aSlice] at hk4
      cases hb : Nat.ble (Nat.add len m) n with
      | true =>
        simp only [hb] at hk4
        obtain ⟨ho, hk5⟩ := ifB_true hk4
        have ho := (natBeq_iff _ _).1 ho
        subst ho
        have hb : len + m ≤ n := (natBle_iff _ _).1 hb
        exact inPlace (cp := .ex n) rfl hb hb hk5
      | false =>
        simp only [hb] at hk4
        have hb : ¬ len + m ≤ n := fun x => by rw [show Nat.ble (Nat.add len m) n = true from (natBle_iff _ _).2 x] at hb; cases hb
        obtain ⟨olds, h5, hk5⟩ := optB_true hk4
        rw [tappK_eq, llen_eq, List.take_length] at hk5
        obtain ⟨hoc, hol, hom⟩ := obj_cells hob h4 h5
        have hln : len ≤ n := hsv.2
        have hfit := fitsA_spec (ifB_true (show ifB (fitsA (len + m) ie.bytes) _ = true from hk5)).1
        have hrun := hap.grow ⟨c.ι id, off, none⟩ len n (olds.map (AS.conc c)) (by simpa using hol) hoc hln (by omega) hfit.1 hfit.2
        have hge := grownCap_ge w (len + m) n e
        have hmax := grownCap_le_maxLen w (len + m) n e (by unfold maxLen; omega)
        have hol' : olds.length = len * ie.size := hol
        obtain ⟨w', hw', c', s', r1, r2, r3, r4, r5⟩ := fresh (olds := olds) (need := len + m) (by rw [hol', Nat.mul_div_cancel _ hz]) (by rw [hol']; congr 1; omega) (fun x hx => hlw x (hom x hx)) hk5 _ hge hmax
        refine ⟨c', _, s', w', ?_, r4, r2, r1, r5⟩
        rw [r3, hw']
        have e9 : (AS.slice id off len (.ex n)).conc c = .slice (some ⟨c.ι id, off, none⟩) len n := rfl
        rw [e9, hrun]
        congr 2
        simp
    | op d =>
      simp only [aSlice] at hk4
      obtain ⟨ho, hk5⟩ := ifB_true hk4
      obtain ⟨ho, hd0⟩ := and2_iff.1 ho
      have ho := (natBeq_iff _ _).1 ho
      have hd0 := (natBeq_iff _ _).1 hd0
      subst ho; subst hd0
      obtain ⟨l2, h5, hk6⟩ := optB_true hk5
      have hrow : o = .row l e ie.size := by
        unfold rowOf at h5
        split at h5 <;> try (simp at h5; done)
        rename_i l3 e' z'
        split at h5 <;> try (simp at h5; done)
        rename_i hb
        obtain ⟨b1, b2⟩ := and2_iff.1 hb
        rw [(natBeq_iff _ _).1 b1, (natBeq_iff _ _).1 b2]
        simp only [cellsOfObj] at h4; injection h4 with h4; rw [h4]
      subst hrow
      obtain ⟨cur, k1, k2, k3, k4⟩ := hob
      have hlc : l.length ≤ cur.size := by
        have := congrArg List.length k4
        simp at this; omega
      have esv : (AS.slice id 0 len (.op 0)).conc c = .slice (some ⟨c.ι id, 0, none⟩) len (c.κ id) := by simp [AS.conc, ACap.conc]
      have hlk : len ≤ c.κ id := by have := hsv.2; simp only [ACap.wf] at this; omega
      cases hb : Nat.ble (Nat.mul (Nat.add len m) ie.size) (llen l) with
      | true =>
        simp only [hb] at hk6
        have hb : (len + m) * ie.size ≤ llen l := (natBle_iff _ _).1 hb
        rw [llen_eq] at hb
        have hroom : len + m ≤ c.κ id := by
          have : (len + m) * ie.size ≤ c.κ id * ie.size := by omega
          exact Nat.le_of_mul_le_mul_right this hz
        have := inPlace (cp := .op 0) rfl (by simpa [ACap.conc] using hroom) (by simpa [ACap.wf] using hroom) hk6
        rw [esv]
        simpa [ACap.conc] using this
      | false =>
        simp only [hb] at hk6
        have hb : ¬ (len + m) * ie.size ≤ llen l := fun x => by rw [show Nat.ble (Nat.mul (Nat.add len m) ie.size) (llen l) = true from (natBle_iff _ _).2 x] at hb; cases hb
        obtain ⟨h6, hk7⟩ := ifB_true hk6
        have h6 : len * ie.size ≤ llen l := (natBle_iff _ _).1 h6
        rw [llen_eq] at h6 hb
        rw [tappK_eq] at hk7
        unfold aMove at hk7
        obtain ⟨hfit, hk8⟩ := ifB_true hk7
        have hfit : len + m ≤ 9223372036854775807 ∧ (len + m) * ie.bytes ≤ 140737488355328 := fitsA_spec hfit
        rw [S.moveK_eq, forceN_eq, hnext] at hk8
        have hm0 : m ≠ 0 := by rintro rfl; simp at hb; omega
        have hlen2 : (l.take (len * ie.size)).length = len * ie.size := by simp; omega
        have hnl : ((l.take (len * ie.size)) ++ xs).length = (len + m) * ie.size := by rw [List.length_append, hlen2, hlen, Nat.add_mul]
        have hnw : ∀ x ∈ (l.take (len * ie.size)) ++ xs, x.wf c s.nx := by
          intro x hx
          rcases List.mem_append.1 hx with hx | hx
          · exact hlw x (List.mem_of_mem_take hx)
          · exact hxw x hx
        have htake : cur.toList.take (len * ie.size) = (l.take (len * ie.size)).map (AS.conc c) := by
          rw [List.map_take, ← k4, List.take_take]; congr 1; omega
        have finish : ∀ (g cp : Nat) (w' : World) (cur' : Array Value), (Builtin.append_ #[t, t2] ty #[.slice (some ⟨c.ι id, 0, none⟩) len (c.κ id), x]).run P w = .ok (.slice (some ⟨g, 0, none⟩) (len + m) cp) w' →
            w'.heap[g]? = some (.cells cur' e (0, 0)) → cp ≤ maxLen → cur'.size = cp * ie.size → cur'.toList.take ((len + m) * ie.size) = ((l.take (len * ie.size)) ++ xs).map (AS.conc c) → len + m ≤ cp →
            (g = c.ι id ∨ g = w.heap.size) → w'.os = w.os → w'.tape = w.tape → w'.output = w.output → w.heap.size ≤ w'.heap.size → (∀ b, b < w.heap.size → b ≠ g → w'.heap[b]? = w.heap[b]?) →
            ∃ c' v s' w', (Builtin.append_ #[t, t2] ty #[(AS.slice id 0 len (.op 0)).conc c, x]).run P w = .ok (v.conc c') w' ∧ v.wf c' s'.nx ∧ Step c c' s s' w w' ∧ Rel c' s' w' ∧ k v s' = true := by
          intro g cp w' cur' hrun a1 a2 a3 a4 a5 a6 a7 a8 a9 a10 a11
          have hmv := move_step h h3 hnw e ie.size cp g cur' a1 a2 a3 (by rw [hnl]; exact a4) a6 a7 a8 a9 a10 a11
          refine ⟨_, .w (.s (.slice s.nx 0 (len + m) (.op 0))), _, w', ?_, ⟨by show s.nx < s.nx + 1; omega, ?_⟩, hmv.2, hmv.1, hk8⟩
          · rw [esv, hrun]; simp [AV.conc, AW.conc, AS.conc, ACap.conc, Cx.set2]
          · simp [ACap.wf, Cx.set2]; omega
        by_cases hroom : len + m ≤ c.κ id
        · have hfit2 : len * ie.size + (xs.map (AS.conc c)).length ≤ cur.size := by
            rw [hlen', k3, ← Nat.add_mul]; exact Nat.mul_le_mul_right _ hroom
          have hrun := hap.room (c.ι id) len (c.κ id) cur e k1 hroom hfit2
          refine finish _ _ _ _ hrun (setRow_eq_of k1 _) k2 ?_ ?_ hroom (.inl rfl) rfl rfl rfl (by simp) (fun b _ hb => setRow_other w _ b _ hb)
          · rw [← k3]
            simp only [List.size_toArray, List.length_append, List.length_take, List.length_drop, Array.length_toList]
            simp only [List.length_map] at hfit2 ⊢
            omega
          · rw [htake, ← hnl]
            rw [List.map_append, ← List.length_map (f := AS.conc c), List.map_append]
            exact List.take_left
        · have holds : ∀ j v, ((l.take (len * ie.size)).map (AS.conc c))[j]? = some v → w.cell? ((⟨c.ι id, 0, none⟩ : Addr).add j) = some v := by
            intro j v hj
            rw [addr_add, Nat.zero_add]
            rw [← htake, List.getElem?_take] at hj
            split at hj
            · simp [World.cell?, k1]; simpa using hj
            · cases hj
          have hrun := hap.grow ⟨c.ι id, 0, none⟩ len (c.κ id) ((l.take (len * ie.size)).map (AS.conc c)) (by simpa using hlen2) holds hlk (by omega) hfit.1 hfit.2
          have hge := grownCap_ge w (len + m) (c.κ id) e
          have hmax := grownCap_le_maxLen w (len + m) (c.κ id) e (by unfold maxLen; omega)
          refine finish _ _ _ _ hrun (heap_alloc_new w.drew _) hmax ?_ ?_ hge (.inr rfl) rfl rfl rfl (by simp) (fun b hb _ => heap_alloc_old w.drew _ hb)
          · simp only [Array.size_append, List.size_toArray, size_zeroCells, hzs, List.length_map, hlen2, hlen, ← Nat.add_mul]
            congr 1; omega
          · rw [← hnl, ← List.length_map (f := AS.conc c), List.map_append]
            simp only [Array.toList_append, List.append_assoc]
            rw [← List.append_assoc]
            exact List.take_left

theorem append_sound {t ty e : TypeId} {i ie : TyA} (hi : TyOk P t i) (hd : i.desc = .slice e) (hie : TyOk P e ie) (hz : 0 < ie.size) (h : Rel c s w) {sv xv : AV}
    (hsv : sv.wf c s.nx) (hxv : xv.wf c s.nx) {k : BK} (hk : bAppend e ie.size ie.bytes sv xv s k = true) :
    ∃ c' v s' w', (Builtin.append_ #[t, t] ty #[sv.conc c, xv.conc c]).run P w = .ok (v.conc c') w' ∧ v.wf c' s'.nx ∧ Step c c' s s' w w' ∧ Rel c' s' w' ∧ k v s' = true := by
  unfold bAppend at hk
  obtain ⟨q, h1, hk1⟩ := optB_true hk
  obtain ⟨⟨m, xs⟩, h2, hk2⟩ := optB_true hk1
  clear hk hk1
  have e1 := asS_spec h1
  subst e1
  obtain ⟨hlen, hxw, hsrc⟩ := src_run hie h h2 hxv
  exact append_core hie hz h hsv hlen hxw (src_appRun hi hd hie (by simpa using hlen) hsrc (AS.oneL c xs) hz) hk2

theorem zeroCells_rep {ie : TyA} {e : TypeId} (hie : TyOk P e ie) (n : Nat) : Builtin.zeroCells (ie.zero.conc c).cells n = ((repA (cellsW ie.zero) n).map (AS.conc c)).toArray := by
  have hr := rep_range ((cellsW ie.zero).map (AS.conc c)) n
  rw [List.length_map, hie.len] at hr
  apply Array.ext'
  rw [repA_eq, cellsW_conc]
  have e : List.map (AS.conc c) (List.replicate n (cellsW ie.zero)).flatten = (List.replicate n ((cellsW ie.zero).map (AS.conc c))).flatten := by
    rw [List.map_flatten, List.map_replicate]
  simp only [Builtin.zeroCells]
  rw [Array.toList_map, Array.toList_range]
  show _ = (List.map (AS.conc c) (List.replicate n (cellsW ie.zero)).flatten)
  rw [e, ← hr]
  simp [hie.len]

theorem zeros_appRun {t t2 ty e : TypeId} {i i2 ie : TyA} {k2 : IntKind} (hi : TyOk P t i) (hd : i.desc = .slice e) (hi2 : TyOk P t2 i2) (hd2 : i2.desc = .int k2) (hie : TyOk P e ie) (hz : 0 < ie.size) {k : IntKind} {m : Nat}
    (hm : m ≤ 16777216) (hb : ie.bytes ≤ 1048576) : AppRun P w t t2 ty e ie.size ie.bytes (ie.zero.conc c).cells (.int k m) m ((repA (cellsW ie.zero) m).map (AS.conc c)) := by
  obtain ⟨inf, hinf, hsz, hby, zv, hzv, hzc⟩ := hie.info
  have hund : P.underlying t = some (.slice e) := by rw [hi.und, hd]
  have hund2 : P.underlying t2 = some (.int k2) := by rw [hi2.und, hd2]
  have hw : IntKind.i64.wrap (m : Int) = m := wrap_nat (by show m ≤ 9223372036854775807; omega)
  have hbm : ¬ (281474976710656 < (m : Int) * (ie.bytes : Int)) := by
    have h1 : m * ie.bytes ≤ 16777216 * 1048576 := Nat.mul_le_mul hm hb
    have h2 : ((m * ie.bytes : Nat) : Int) = (m : Int) * (ie.bytes : Int) := by simp
    rw [← h2]; omega
  have hneg : ¬ ((m : Int) < 0) := by omega
  refine ⟨?_, ?_, ?_, ?_⟩
  · intro g len cap cur te hg hroom hfit
    have hst := run_storeCells_at P g (len * ie.size) te ((repA (cellsW ie.zero) m).map (AS.conc c)) 0 cur w hg (by simpa using hfit) (AS.oneL c _)
    simp only [Nat.add_zero] at hst
    by_cases hm0 : m = 0
    · subst hm0
      simp only [repA_zero, List.map_nil, List.append_nil, List.length_nil] at hst ⊢
      simp at hst
      simp [Builtin.append_, run_underlying hund, run_underlying hund2, sizeOf, typeInfo, hinf, hsz, asInt, asIntOf, IntKind.wrap, IntKind.signed, IntKind.bits, show len ≤ cap from hroom, addr_add, hst]
    · have h0 : ¬ (m * ie.size = 0) := fun h => by rcases Nat.mul_eq_zero.1 h with h | h <;> omega
      have h0' : m ≠ 0 ∧ ie.size ≠ 0 := ⟨hm0, by omega⟩
      simp [Builtin.append_, run_underlying hund, run_underlying hund2, hie.run_size w, hie.run_zero w c, typeInfo, hinf, asInt, asIntOf, hw, hneg, hbm, hby, hroom, h0', zeroCells_rep hie, addr_add]
      simp at hst
      simp [hst]
      intro hh; exact absurd hh h0
  · intro b len cap olds hol hoc hlc hlt h63 hbb
    have hm0 : m ≠ 0 := by omega
    have h0' : m ≠ 0 ∧ ie.size ≠ 0 := ⟨hm0, by omega⟩
    have hn : ¬ (len + m ≤ cap) := by omega
    have h63' : ¬ (9223372036854775807 < ((len : Int) + (m : Int))) := by omega
    have h48' : ¬ (281474976710656 < Builtin.nextslicecap (len + m) cap * ie.bytes) := by have := growslice_fits hlt hbb; omega
    have hfo := run_firstCells_some (P := P) w.drew ie.size len b len cap olds hol (by simpa using hoc)
    simp [Builtin.append_, run_underlying hund, run_underlying hund2, hie.run_size w, hie.run_size w.drew, hie.run_zero w c, hie.run_zero w.drew c, typeInfo, hinf, asInt, asIntOf, hw, hneg, hbm, hby, hn, h63', h48', h0', zeroCells_rep hie, Question.forced, hfo, newRow, grownCap]
    intro hh
    rcases Nat.mul_eq_zero.1 hh with h | h <;> omega
  · intro hm0
    subst hm0
    simp [Builtin.append_, run_underlying hund, run_underlying hund2, sizeOf, typeInfo, hinf, hsz, asInt, asIntOf, IntKind.wrap, IntKind.signed, IntKind.bits]
  · intro hm0 h63 hbb
    have h0' : m ≠ 0 ∧ ie.size ≠ 0 := ⟨by omega, by omega⟩
    have h63' : ¬ (9223372036854775807 < ((m : Int))) := by omega
    have h48' : ¬ (281474976710656 < Builtin.nextslicecap m 0 * ie.bytes) := by have := growslice_fits (old := 0) (by omega) hbb; omega
    simp [Builtin.append_, run_underlying hund, run_underlying hund2, hie.run_size w, hie.run_size w.drew, hie.run_zero w c, hie.run_zero w.drew c, typeInfo, hinf, asInt, asIntOf, hw, hneg, hbm, hby, h63', h48', h0', zeroCells_rep hie, Question.forced, run_firstCells_none, newRow, grownCap]
    intro hh
    rcases Nat.mul_eq_zero.1 hh with h | h <;> omega
end
end
end Go.Sy

/-! The symbolic executor, part Na: ranging over a map. -/
namespace Go.Sy
open Go.ChangeMaps (setBlock)
set_option linter.unusedVariables false
set_option linter.unusedSectionVars false
noncomputable section

def nmem (b : Nat) (l : List Nat) : Bool := List.rec false (fun x _ ih => match Nat.beq x b with | true => true | false => ih) l
def leftA (seen : List Nat) (es : List AEnt) : List AEnt := List.rec [] (fun e _ ih => match nmem e.born seen with | true => ih | false => e :: ih) es
def snocN (l : List Nat) (b : Nat) : List Nat := List.rec [b] (fun x _ ih => x :: ih) l
def findB (b : Nat) (es : List AEnt) : Option AEnt := List.rec none (fun e _ ih => match Nat.beq e.born b with | true => some e | false => ih) es
def lastN (l : List Nat) : Option Nat := List.rec none (fun x _ ih => match ih with | none => some x | some y => some y) l
theorem nmem_cons (b x : Nat) (l : List Nat) : nmem b (x :: l) = match Nat.beq x b with | true => true | false => nmem b l := rfl
theorem nmem_eq (b : Nat) (l : List Nat) : nmem b l = l.contains b := by
  induction l with
  | nil => rfl
  | cons x l ih =>
    rw [nmem_cons, ih, List.contains_cons]
    cases hb : Nat.beq x b with
    | true => have := (natBeq_iff _ _).1 hb; subst this; simp
    | false =>
      have : x ≠ b := fun e => by rw [(natBeq_iff x b).2 e] at hb; cases hb
      simp [Ne.symm this]
theorem leftA_cons (seen : List Nat) (e : AEnt) (l : List AEnt) : leftA seen (e :: l) = match nmem e.born seen with | true => leftA seen l | false => e :: leftA seen l := rfl
theorem leftA_eq (seen : List Nat) (es : List AEnt) : leftA seen es = es.filter fun e => !seen.contains e.born := by
  induction es with
  | nil => rfl
  | cons e l ih =>
    rw [leftA_cons, ih, nmem_eq, List.filter_cons]
    cases hb : seen.contains e.born <;> simp
theorem snocN_cons (x b : Nat) (l : List Nat) : snocN (x :: l) b = x :: snocN l b := rfl
theorem snocN_eq (l : List Nat) (b : Nat) : snocN l b = l ++ [b] := by
  induction l with
  | nil => rfl
  | cons x l ih => rw [snocN_cons, ih]; rfl
theorem findB_cons (b : Nat) (e : AEnt) (l : List AEnt) : findB b (e :: l) = match Nat.beq e.born b with | true => some e | false => findB b l := rfl
theorem findB_eq (b : Nat) (es : List AEnt) : findB b es = es.find? fun e => e.born == b := by
  induction es with
  | nil => rfl
  | cons e l ih =>
    rw [findB_cons, ih, List.find?_cons]
    cases hb : Nat.beq e.born b with
    | true => have := (natBeq_iff _ _).1 hb; simp [this]
    | false =>
      have : e.born ≠ b := fun h => by rw [(natBeq_iff _ _).2 h] at hb; cases hb
      have hb' : (e.born == b) = false := by simpa using this
      rw [hb']
theorem lastN_cons (x : Nat) (l : List Nat) : lastN (x :: l) = match lastN l with | none => some x | some y => some y := rfl
theorem lastN_eq (l : List Nat) : lastN l = l.getLast? := by
  induction l with
  | nil => rfl
  | cons x l ih =>
    rw [lastN_cons, ih, List.getLast?_cons]
    cases l.getLast? <;> rfl

def iterOf (o : AObj) : Option (Option Nat × Nat × List Nat × Nat) := match o with | .iter m a l b => some (m, a, l, b) | _ => none
theorem iterOf_spec {o : AObj} {q : Option Nat × Nat × List Nat × Nat} (h : iterOf o = some q) : o = .iter q.1 q.2.1 q.2.2.1 q.2.2.2 := by
  unfold iterOf at h
  split at h <;> try (simp at h; done)
  injection h with h; subst h; rfl
def ptr0 (v : AV) : Option Nat := optP (asPtrA v) none fun p => ckB (Nat.beq p.2 0) none (some p.1)
theorem ptr0_spec {v : AV} {id : Nat} (h : ptr0 v = some id) : v = .w (.s (.ptr id 0)) := by
  obtain ⟨⟨a, b⟩, h1, g1⟩ := optP_some h
  obtain ⟨h2, g2⟩ := ckB_some g1
  injection g2 with g2
  have h2 := (natBeq_iff _ _).1 h2
  have e := asPtrA_spec h1
  simp only at h2 g2
  rw [e, h2, g2]
def bRange (v : AV) (s : S) (k : BK) : Bool := optB (asS v) fun x => match x with
  | .map id => optB (s.get id) fun o => optB (mapOf o) fun p => s.newK (.iter (some id) p.2 [] p.2) fun s' => k (.w (.s (.ptr s.next 0))) s'
  | .nilm => s.newK (.iter none 0 [] 0) fun s' => k (.w (.s (.ptr s.next 0))) s'
  | _ => false
def bNext (v : AV) (s : S) (k : BK) : Bool := optB (ptr0 v) fun id => optB (s.get id) fun o => optB (iterOf o) fun q => match q.1 with
  | none => k (.tup [.s (.bool false)]) s
  | some mid => optB (s.get mid) fun om => optB (mapOf om) fun p => ifB (and2 (lall (fun e => Nat.ble (Nat.succ e.born) q.2.1) p.1) (Nat.ble q.2.1 q.2.2.2))
      (match leftA q.2.2.1 p.1 with
      | [] => k (.tup [.s (.bool false)]) s
      | x :: l => lall (fun e => s.updK id (.iter (some mid) q.2.1 (snocN q.2.2.1 e.born) p.2) fun s' => k (.tup [.s (.bool true), e.key, e.val]) s') (x :: l))
def bEntry (v : AV) (s : S) (k : BK) : Bool := optB (ptr0 v) fun id => optB (s.get id) fun o => optB (iterOf o) fun q => match q.1 with
  | none => false
  | some mid => optB (s.get mid) fun om => optB (mapOf om) fun p => ifB (Nat.beq p.2 q.2.2.2) (optB (lastN q.2.2.1) fun b => optB (findB b p.1) fun e => k (.tup [e.key, e.val]) s)

section
variable {P : Program} {c : Cx} {s : S} {w : World}
theorem S.next_eq' (s : S) : s.next = s.nx := by cases s; rfl
theorem mrange_sound {ty kt vt : TypeId} (hu : P.underlying ty = some (.map kt vt)) (h : Rel c s w) {v : AV} {k : BK} (hk : bRange v s k = true) :
    ∃ c' x s' w', (Instr.range ty (v.conc c)).run P w = .ok (x.conc c') w' ∧ x.wf c' s'.nx ∧ Step c c' s s' w w' ∧ Rel c' s' w' ∧ k x s' = true := by
  obtain ⟨x, hx, hk1⟩ := optB_true (show optB (asS v) _ = true from hk)
  have ex := asS_spec hx
  subst ex
  have fin : ∀ (m : Option Nat) (cl : Nat), (∀ i, m = some i → i < s.nx) → (Instr.range ty ((AV.w (.s x)).conc c)).run P w = .ok (.pointer (some ⟨w.heap.size, 0, none⟩)) (w.alloc (.mapIter (m.map c.ι) cl #[] cl)) → k (.w (.s (.ptr s.nx 0))) (s.new (.iter m cl [] cl)) = true →
      ∃ c' x' s' w', (Instr.range ty ((AV.w (.s x)).conc c)).run P w = .ok (x'.conc c') w' ∧ x'.wf c' s'.nx ∧ Step c c' s s' w w' ∧ Rel c' s' w' ∧ k x' s' = true := by
    intro m cl hm hr hk2
    have hin : (c.set2 s.nx w.heap.size 0).ι s.nx = w.heap.size := by simp [Cx.set2]
    refine ⟨c.set2 s.nx w.heap.size 0, .w (.s (.ptr s.nx 0)), s.new (.iter m cl [] cl), w.alloc (.mapIter (m.map c.ι) cl #[] cl), ?_, ?_, Step.new _ _ _, Rel.new h ?_ ?_, hk2⟩
    · rw [hr]
      have : (AV.w (.s (.ptr s.nx 0))).conc (c.set2 s.nx w.heap.size 0) = .pointer (some ⟨w.heap.size, 0, none⟩) := by
        simp only [AV.conc, AW.conc, AS.conc, hin]
      rw [this]
    · show s.nx < s.nx + 1
      omega
    · intro i hi
      have := hm i hi
      omega
    · show some (Obj.mapIter (m.map c.ι) cl #[] cl) = some (.mapIter (m.map (c.set2 s.nx w.heap.size 0).ι) cl [].toArray cl)
      cases m with
      | none => rfl
      | some i =>
        have hi := hm i rfl
        have : (c.set2 s.nx w.heap.size 0).ι i = c.ι i := by simp [Cx.set2]; omega
        simp [this]
  split at hk1 <;> try (simp at hk1; done)
  · rename_i id
    obtain ⟨o, ho, hk2⟩ := optB_true hk1
    obtain ⟨⟨es, cl⟩, hp, hk3⟩ := optB_true hk2
    have eo := mapOf_spec hp
    subst eo
    rw [S.get_eq] at ho
    rw [S.newK_eq, S.next_eq'] at hk3
    have hob : w.heap[c.ι id]? = some (.map (es.map (AEnt.conc c)).toArray cl) := h.obj id _ ho
    refine fin (some id) cl (fun i hi => by injection hi with hi; subst hi; exact h.lt _ _ ho) ?_ hk3
    exact run_range_map w ty kt vt (c.ι id) _ cl hu hob
  · rw [S.newK_eq, S.next_eq'] at hk1
    exact fin none 0 (fun i hi => by cases hi) (run_range_nilMap w ty kt vt hu) hk1

theorem left_conc (seen : List Nat) (es : List AEnt) : (leftOf (es.map (AEnt.conc c)).toArray seen.toArray).toList = (leftA seen es).map (AEnt.conc c) := by
  rw [leftA_eq]
  unfold leftOf
  simp only [List.filter_toArray', Array.toList_filter, List.contains_toArray, List.filter_map]
  rfl

theorem next_sound {ty : TypeId} (h : Rel c s w) {v : AV} {k : BK} (hk : bNext v s k = true) :
    ∃ x s' w', (Instr.next (v.conc c) false ty).run P w = .ok (x.conc c) w' ∧ x.wf c s'.nx ∧ Step c c s s' w w' ∧ Rel c s' w' ∧ k x s' = true := by
  obtain ⟨id, hv, hk1⟩ := optB_true (show optB (ptr0 v) _ = true from hk)
  obtain ⟨o, ho, hk2⟩ := optB_true hk1
  obtain ⟨⟨m, since, seen, st⟩, hq, hk3⟩ := optB_true hk2
  have ev := ptr0_spec hv
  have eo := iterOf_spec hq
  subst ev; subst eo
  rw [S.get_eq] at ho
  have hr : w.heap[c.ι id]? = some (.mapIter (m.map c.ι) since seen.toArray st) := h.obj id _ ho
  have e0 : (AV.w (.s (.ptr id 0))).conc c = .pointer (some ⟨c.ι id, 0, none⟩) := rfl
  rw [e0]
  have wf0 : (AV.tup [.s (.bool false)]).wf c s.nx := by
    intro x hx
    simp only [List.mem_cons, List.not_mem_nil, or_false] at hx
    subst hx; trivial
  cases m with
  | none =>
    refine ⟨.tup [.s (.bool false)], s, w, ?_, wf0, Step.refl c s w, h, hk3⟩
    simp only [Instr.next, getObj, Sem.run_bind, Sem.run, hr, Option.map_none, Result.andThen]
    rfl
  | some mid =>
    obtain ⟨om, hom, hk4⟩ := optB_true hk3
    obtain ⟨⟨es, cl⟩, hp, hk5⟩ := optB_true hk4
    have em := mapOf_spec hp
    subst em
    rw [S.get_eq] at hom
    have hob : w.heap[c.ι mid]? = some (.map (es.map (AEnt.conc c)).toArray cl) := h.obj mid _ hom
    obtain ⟨hc, hk6⟩ := ifB_true hk5
    obtain ⟨hc1, hc2⟩ := and2_iff.1 hc
    have hc1 := (lall_iff _ _).1 hc1
    have hc2 : since ≤ st := (natBle_iff _ _).1 hc2
    have hold : ∀ x ∈ ((es.map (AEnt.conc c)).toArray).toList, x.born < since := by
      intro x hx
      simp only [List.mem_map] at hx
      obtain ⟨e, he, rfl⟩ := hx
      exact (natBle_iff _ _).1 (hc1 e he)
    have hl := left_conc (c := c) seen es
    rcases run_next_at (P := P) w ty (c.ι id) (c.ι mid) since st seen.toArray _ cl hr hob hold hc2 with ⟨g1, g2⟩ | ⟨e, ge, w1, gw, g2⟩
    · have : leftA seen es = [] := by
        have h1 : ((leftA seen es).map (AEnt.conc c)).length = 0 := by rw [← hl]; simpa using g1
        simpa using h1
      have hk6 : (match leftA seen es with
        | [] => k (.tup [.s (.bool false)]) s
        | x :: l => lall (fun e => s.updK id (.iter (some mid) since (snocN seen e.born) cl) fun s' => k (.tup [.s (.bool true), e.key, e.val]) s') (x :: l)) = true := hk6
      rw [this] at hk6
      exact ⟨.tup [.s (.bool false)], s, w, g2, wf0, Step.refl c s w, h, hk6⟩
    · rw [hl] at ge
      obtain ⟨e0, he0, ee⟩ := List.mem_map.1 ge
      subst ee
      have hk6 : (match leftA seen es with
        | [] => k (.tup [.s (.bool false)]) s
        | x :: l => lall (fun e => s.updK id (.iter (some mid) since (snocN seen e.born) cl) fun s' => k (.tup [.s (.bool true), e.key, e.val]) s') (x :: l)) = true := hk6
      have hk7 : s.updK id (.iter (some mid) since (snocN seen e0.born) cl) (fun s' => k (.tup [.s (.bool true), e0.key, e0.val]) s') = true := by
        cases hL : leftA seen es with
        | nil => rw [hL] at he0; cases he0
        | cons x l =>
          rw [hL] at hk6 he0
          exact (lall_iff _ _).1 hk6 e0 he0
      rw [S.updK_eq] at hk7
      have hme : e0 ∈ es := by rw [leftA_eq] at he0; exact (List.mem_filter.1 he0).1
      have hwf := h.wf mid _ hom e0 hme
      have hh : w1.heap = w.heap ∧ w1.os = w.os ∧ w1.tape = w.tape ∧ w1.output = w.output := by
        rcases gw with rfl | rfl <;> exact ⟨rfl, rfl, rfl, rfl⟩
      have hlt := h.ι_lt ho
      have hself : (setBlock w1 (c.ι id) (.mapIter (some (c.ι mid)) since (seen.toArray.push e0.born) cl)).heap[c.ι id]? = some (.mapIter (some (c.ι mid)) since (seen.toArray.push e0.born) cl) := by
        simp only [setBlock, hh.1]
        rw [Array.getElem?_setIfInBounds_self_of_lt hlt]
      have hother : ∀ b, b ≠ c.ι id → (setBlock w1 (c.ι id) (.mapIter (some (c.ι mid)) since (seen.toArray.push e0.born) cl)).heap[b]? = w.heap[b]? := by
        intro b hb
        simp only [setBlock, hh.1]
        rw [Array.getElem?_setIfInBounds_ne (Ne.symm hb)]
      refine ⟨.tup [.s (.bool true), e0.key, e0.val], s.upd id (.iter (some mid) since (snocN seen e0.born) cl), _, g2, ?_, Step.upd _ ho hh.2.1 hh.2.2.1 hh.2.2.2 ?_ hother, h.upd ho ?_ ?_ hother, hk7⟩
      · intro x hx
        simp only [List.mem_cons, List.not_mem_nil, or_false] at hx
        rcases hx with rfl | rfl | rfl
        · trivial
        · exact hwf.1
        · exact hwf.2
      · simp [setBlock, hh.1]
      · intro i hi
        injection hi with hi; subst hi
        exact h.lt _ _ hom
      · show ObjRel c id (.iter (some mid) since (snocN seen e0.born) cl) ((setBlock w1 (c.ι id) (.mapIter (some (c.ι mid)) since (seen.toArray.push e0.born) cl)).heap[c.ι id]?)
        rw [hself]
        show some _ = some (Obj.mapIter ((some mid).map c.ι) since (snocN seen e0.born).toArray cl)
        rw [snocN_eq]
        simp

theorem entry_sound (h : Rel c s w) {v : AV} {k : BK} (hk : bEntry v s k = true) :
    ∃ x, (Instr.entry (v.conc c)).run P w = .ok (AV.conc c x) w ∧ x.wf c s.nx ∧ k x s = true := by
  obtain ⟨id, hv, hk1⟩ := optB_true (show optB (ptr0 v) _ = true from hk)
  obtain ⟨o, ho, hk2⟩ := optB_true hk1
  obtain ⟨⟨m, since, seen, st⟩, hq, hk3⟩ := optB_true hk2
  have ev := ptr0_spec hv
  have eo := iterOf_spec hq
  subst ev; subst eo
  rw [S.get_eq] at ho
  have hr : w.heap[c.ι id]? = some (.mapIter (m.map c.ι) since seen.toArray st) := h.obj id _ ho
  have e0 : (AV.w (.s (.ptr id 0))).conc c = .pointer (some ⟨c.ι id, 0, none⟩) := rfl
  rw [e0]
  cases m with
  | none => cases hk3
  | some mid =>
    obtain ⟨om, hom, hk4⟩ := optB_true hk3
    obtain ⟨⟨es, cl⟩, hp, hk5⟩ := optB_true hk4
    have em := mapOf_spec hp
    subst em
    rw [S.get_eq] at hom
    have hob : w.heap[c.ι mid]? = some (.map (es.map (AEnt.conc c)).toArray cl) := h.obj mid _ hom
    obtain ⟨hc, hk6⟩ := ifB_true hk5
    have hc : cl = st := (natBeq_iff _ _).1 hc
    subst hc
    obtain ⟨b, hb, hk7⟩ := optB_true hk6
    obtain ⟨e, he, hk8⟩ := optB_true hk7
    have hb : lastN seen = some b := hb
    have he : findB b es = some e := he
    rw [lastN_eq] at hb
    rw [findB_eq] at he
    have hwf := h.wf mid _ hom e (List.mem_of_find?_eq_some he)
    refine ⟨.tup [e.key, e.val], ?_, ?_, hk8⟩
    · have hf : (es.map (AEnt.conc c)).toArray.find? (fun x => x.born == b) = some (AEnt.conc c e) := by
        rw [List.find?_toArray, List.find?_map]
        have : (fun x : MapEntry => x.born == b) ∘ AEnt.conc c = fun e : AEnt => e.born == b := rfl
        rw [this, he]; rfl
      have hbk : seen.toArray.back? = some b := by rw [List.back?_toArray]; exact hb
      simp only [Instr.entry, getObj, Sem.run_bind, Sem.run, hr, hob, Option.map_some, Result.andThen, hbk, bne_self_eq_false, Bool.false_eq_true, if_false, hf]
      rfl
    · intro x hx
      simp only [List.mem_cons, List.not_mem_nil, or_false] at hx
      rcases hx with rfl | rfl
      · exact hwf.1
      · exact hwf.2
end
end
end Go.Sy

/-! The symbolic executor, part P: copy; comparisons. -/
namespace Go.Sy
set_option linter.unusedVariables false
set_option linter.unusedSectionVars false
noncomputable section

/-! comparisons -/
def setPhi (s : S) (φ : Phi) : S := match s with | .mk h nx _ => ⟨h, nx, φ⟩
theorem setPhi_eq (s : S) (φ : Phi) : setPhi s φ = ⟨s.h, s.nx, φ⟩ := by cases s; rfl
theorem phi_eq (s : S) : s.phi = s.φ := by cases s; rfl
theorem next_eq (s : S) : s.next = s.nx := by cases s; rfl
/-- a condition on integers: what is asked, and whether it is turned round -/
def condOf (o : Nat) (a b : Tm) : Option (Cond × Bool) := match o with
  | 0 => some (.eq a b, false)
  | 1 => some (.eq a b, true)
  | 2 => some (.le b a, true)
  | 3 => some (.le a b, false)
  | 4 => some (.le a b, true)
  | 5 => some (.le b a, false)
  | _ => none
def xorB (a b : Bool) : Bool := match a with | true => bnot b | false => b
def cmpI (o : Nat) (x y : Int) : Bool := match o with
  | 0 => decide (x = y) | 1 => !decide (x = y) | 2 => decide (x < y) | 3 => decide (x ≤ y) | 4 => decide (x > y) | _ => decide (x ≥ y)
/-- equal or not, where it is known -/
def eqRes (o : Nat) (b : Bool) : Option Bool := match o with | 0 => some b | 1 => some (bnot b) | _ => none
def eqLK (l : List AS) : List AS → Phi → (Bool → Phi → Bool) → Bool :=
  List.rec (fun m φ k => List.casesOn m (k true φ) fun _ _ => false)
    (fun x _ ih m φ k => List.casesOn m false fun y m => match x with
      | .int kx a => (match y with | .int ky b => ifB (kindEq kx ky) (brc φ (.eq a b) fun r φ => match r with | true => ih m φ k | false => k false φ) | _ => false)
      | _ => false) l
def eqTK (l : List Tm) : List Tm → Phi → (Bool → Phi → Bool) → Bool :=
  List.rec (fun m φ k => List.casesOn m (k true φ) fun _ _ => k false φ)
    (fun x _ ih m φ k => List.casesOn m (k false φ) fun y m => ifB (and2 (within φ x 255) (within φ y 255)) (brc φ (.eq x y) fun r φ => match r with | true => ih m φ k | false => k false φ)) l
theorem eqLK_nil (m : List AS) (φ : Phi) (k : Bool → Phi → Bool) : eqLK [] m φ k = match m with | [] => k true φ | _ => false := by cases m <;> rfl
theorem eqLK_cons (x : AS) (l m : List AS) (φ : Phi) (k : Bool → Phi → Bool) : eqLK (x :: l) m φ k = match m with
    | [] => false
    | y :: m => (match x with
      | .int kx a => (match y with | .int ky b => ifB (kindEq kx ky) (brc φ (.eq a b) fun r φ => match r with | true => eqLK l m φ k | false => k false φ) | _ => false)
      | _ => false) := by cases m <;> rfl
theorem eqTK_nil (m : List Tm) (φ : Phi) (k : Bool → Phi → Bool) : eqTK [] m φ k = match m with | [] => k true φ | _ => k false φ := by cases m <;> rfl
theorem eqTK_cons (x : Tm) (l m : List Tm) (φ : Phi) (k : Bool → Phi → Bool) : eqTK (x :: l) m φ k = match m with
    | [] => k false φ
    | y :: m => ifB (and2 (within φ x 255) (within φ y 255)) (brc φ (.eq x y) fun r φ => match r with | true => eqTK l m φ k | false => k false φ) := by cases m <;> rfl

def cmpS (o : Nat) (g : CTag) (x y : AS) (s : S) (k : Bool → S → Bool) : Bool := match g with
  | .int => (match x with
    | .int kx a => (match y with
      | .int ky b => ifB (kindEq kx ky) (optB (condOf o a b) fun p => brc s.phi p.1 fun r φ => k (xorB p.2 r) (setPhi s φ))
      | _ => false)
    | _ => false)
  | .bool => (match x with | .bool a => (match y with | .bool b => optB (eqRes o (boolEq a b)) fun r => k r s | _ => false) | _ => false)
  | .ptr => (match y with | .nilp => (match x with | .ptr _ _ => optB (eqRes o false) fun r => k r s | .nilp => optB (eqRes o true) fun r => k r s | _ => false) | _ => false)
  | .slice => (match y with | .nils => (match x with | .slice _ _ _ _ => optB (eqRes o false) fun r => k r s | .nils => optB (eqRes o true) fun r => k r s | _ => false) | _ => false)
  | .map => (match y with | .nilm => (match x with | .map _ => optB (eqRes o false) fun r => k r s | .nilm => optB (eqRes o true) fun r => k r s | _ => false) | _ => false)
  | .fn => (match y with | .nilfn => (match x with | .fn _ _ => optB (eqRes o false) fun r => k r s | .nilfn => optB (eqRes o true) fun r => k r s | _ => false) | _ => false)
  | .iface => (match y with | .niliface => (match x with | .iface _ => optB (eqRes o false) fun r => k r s | .niliface => optB (eqRes o true) fun r => k r s | _ => false) | _ => false)
  | _ => false
def cmpA (o : Nat) (g : CTag) (x y : AV) (s : S) (k : Bool → S → Bool) : Bool := match g with
  | .agg kt => optB (asW x) fun xw => optB (asW y) fun yw => ifB (and2 (shapeK kt xw) (shapeK kt yw)) (eqLK (cellsW xw) (cellsW yw) s.phi fun r φ => optB (eqRes o r) fun r => k r (setPhi s φ))
  | .str => (match x with | .str l => (match y with | .str m => eqTK l m s.phi fun r φ => optB (eqRes o r) fun r => k r (setPhi s φ) | _ => false) | _ => false)
  | g => optB (asS x) fun xs => optB (asS y) fun ys => cmpS o g xs ys s k
/-- the greater, the lesser one -/
def mmA (mx : Bool) (x y : AV) (s : S) (k : BK) : Bool := optB (asIntA x) fun p => optB (asIntA y) fun q => ifB (kindEq p.1 q.1) (match mx with
  | true => brc s.phi (.le q.2 p.2) fun r φ => (match r with | true => k (vInt p.1 p.2) (setPhi s φ) | false => k (vInt p.1 q.2) (setPhi s φ))
  | false => brc s.phi (.le p.2 q.2) fun r φ => (match r with | true => k (vInt p.1 p.2) (setPhi s φ) | false => k (vInt p.1 q.2) (setPhi s φ)))

section
variable {P : Program} {T : TyT} {c : Cx} {s : S} {w : World}

theorem eqLK_spec {σ : Env} : ∀ {l m : List AS} {φ : Phi} {k : Bool → Phi → Bool}, Sat σ φ → eqLK l m φ k = true →
    ∃ φ' b, Sat σ φ' ∧ k b φ' = true ∧ ∀ c : Cx, c.σ = σ → (b = true ↔ l.map (AS.conc c) = m.map (AS.conc c)) := by
  intro l
  induction l with
  | nil =>
    intro m φ k hs h
    rw [eqLK_nil] at h
    cases m with
    | nil => exact ⟨φ, true, hs, h, fun c _ => by simp⟩
    | cons => cases h
  | cons x l ih =>
    intro m φ k hs h
    rw [eqLK_cons] at h
    cases m with
    | nil => cases h
    | cons y m =>
      cases x <;> simp only at h <;> try (cases h; done)
      rename_i kx a
      cases y <;> simp only at h <;> try (cases h; done)
      rename_i ky b
      obtain ⟨hk, h0⟩ := ifB_true h
      clear h
      have hk := kindEq_eq hk
      subst hk
      obtain ⟨φ', hs', h'⟩ := brc_spec hs h0
      cases hc : (Cond.eq a b).eval σ with
      | true =>
        rw [hc] at h'
        obtain ⟨φ2, r, a1, a2, a3⟩ := ih hs' h'
        refine ⟨φ2, r, a1, a2, fun c hcσ => ?_⟩
        rw [a3 c hcσ]
        simp only [Cond.eval, decide_eq_true_eq] at hc
        simp [AS.conc, hcσ, hc]
      | false =>
        rw [hc] at h'
        refine ⟨φ', false, hs', h', fun c hcσ => ?_⟩
        simp only [Cond.eval, decide_eq_false_iff_not] at hc
        simp [AS.conc, hcσ, hc]
theorem byteT_eq {σ : Env} {φ : Phi} (hs : Sat σ φ) {x y : Tm} (h1 : within φ x 255 = true) (h2 : within φ y 255 = true) : byteT σ x = byteT σ y ↔ x.eval σ = y.eval σ := by
  obtain ⟨m, em, hm⟩ := within_spec hs h1
  obtain ⟨n, en, hn⟩ := within_spec hs h2
  simp only [byteT, em, en, Int.toNat_natCast]
  constructor
  · intro h
    have := congrArg UInt8.toNat h
    simp only [UInt8.toNat_ofNat'] at this
    rw [Nat.mod_eq_of_lt (by omega), Nat.mod_eq_of_lt (by omega)] at this
    rw [this]
  · intro h
    have : m = n := by omega
    rw [this]
theorem eqTK_spec {σ : Env} : ∀ {l m : List Tm} {φ : Phi} {k : Bool → Phi → Bool}, Sat σ φ → eqTK l m φ k = true →
    ∃ φ' b, Sat σ φ' ∧ k b φ' = true ∧ (b = true ↔ l.map (byteT σ) = m.map (byteT σ)) := by
  intro l
  induction l with
  | nil =>
    intro m φ k hs h
    rw [eqTK_nil] at h
    cases m with
    | nil => exact ⟨φ, true, hs, h, by simp⟩
    | cons => exact ⟨φ, false, hs, h, by simp⟩
  | cons x l ih =>
    intro m φ k hs h
    rw [eqTK_cons] at h
    cases m with
    | nil => exact ⟨φ, false, hs, h, by simp⟩
    | cons y m =>
      simp only at h
      obtain ⟨hw, h⟩ := ifB_true h
      obtain ⟨w1, w2⟩ := and2_iff.1 hw
      have hb := byteT_eq hs w1 w2
      obtain ⟨φ', hs', h'⟩ := brc_spec hs h
      cases hc : (Cond.eq x y).eval σ with
      | true =>
        rw [hc] at h'
        obtain ⟨φ2, r, a1, a2, a3⟩ := ih hs' h'
        refine ⟨φ2, r, a1, a2, ?_⟩
        rw [a3]
        simp only [Cond.eval, decide_eq_true_eq] at hc
        simp [hb.2 hc]
      | false =>
        rw [hc] at h'
        refine ⟨φ', false, hs', h', ?_⟩
        simp only [Cond.eval, decide_eq_false_iff_not] at hc
        simp only [Bool.false_eq_true, List.map_cons, List.cons.injEq, false_iff, not_and]
        intro e; exact absurd (hb.1 e) hc

theorem eqRes_spec {o : Nat} {b r : Bool} (h : eqRes o b = some r) : (o = 0 ∧ r = b) ∨ (o = 1 ∧ r = !b) := by
  unfold eqRes at h
  split at h
  · injection h with h; exact .inl ⟨rfl, h.symm⟩
  · injection h with h; exact .inr ⟨rfl, by rw [← h]; cases b <;> rfl⟩
  · cases h
theorem condOf_spec {σ : Env} {o : Nat} {a b : Tm} {p : Cond × Bool} (h : condOf o a b = some p) : xorB p.2 (p.1.eval σ) = cmpI o (a.eval σ) (b.eval σ) := by
  unfold cmpI
  have hb : ∀ b : Bool, bnot b = !b := fun b => by cases b <;> rfl
  unfold condOf at h
  split at h <;> first
    | (cases h; done)
    | (injection h with h; subst h; simp only [xorB, Cond.eval, hb]; done)
    | (injection h with h; subst h; simp only [xorB, Cond.eval, hb]
       first
         | rfl
         | (rw [Bool.eq_iff_iff]; simp; done)
         | (rw [Bool.eq_iff_iff]; simp; omega)
         | (rw [Bool.eq_iff_iff]; simp; exact ⟨fun h => decide_eq_true h, fun h => of_decide_eq_true h⟩))
end
end
end Go.Sy

/-! The symbolic executor, part Q: comparisons and copies are sound. -/
namespace Go.Sy
set_option linter.unusedVariables false
set_option linter.unusedSectionVars false
noncomputable section

def cmpCode (op : BinOp) : Option Nat := match op with | .eql => some 0 | .neq => some 1 | .lss => some 2 | .leq => some 3 | .gtr => some 4 | .geq => some 5 | _ => none
def isConst (x : Operand) : Bool := match x with | .const _ => true | _ => false
def tagOf (T : TyT) (t : TypeId) (y : Operand) : Option CTag := match T t with
  | none => none
  | some i => (match i.desc with
    | .int _ => some .int
    | .bool => some .bool
    | .pointer _ => some .ptr
    | .slice _ => some .slice
    | .map _ _ => some .map
    | .func _ _ _ => some .fn
    | .interface _ => (match isConst y with | true => some .iface | false => none)
    | .string => some .str
    | .array _ _ => (match i.plain with | true => (compKT T t).map .agg | false => none)
    | .struct _ => (match i.plain with | true => (compKT T t).map .agg | false => none)
    | _ => none)

section
variable {P : Program} {T : TyT} {c : Cx} {s : S} {w : World}

theorem equal_unfold (t : TypeId) (x y : Value) : Op.equal t x y = Op.equalIn (9999 + 1) t x y := rfl
theorem eql_run (op : BinOp) {o : Nat} (ho : cmpCode op = some o) {t : TypeId} {x y : Value} {b r : Bool} (hr : eqRes o b = some r) (he : (Op.equal t x y).run P w = .ok b w)
    (hx : binOp .eql t x y = (do pure (.bool (← Op.equal t x y)))) (hn : binOp .neq t x y = (do pure (.bool (!(← Op.equal t x y))))) : (binOp op t x y).run P w = .ok (.bool r) w := by
  rcases eqRes_spec hr with ⟨rfl, rfl⟩ | ⟨rfl, rfl⟩
  · cases op <;> simp [cmpCode] at ho
    rw [hx]; simp [he]
  · cases op <;> simp [cmpCode] at ho
    rw [hn]; simp [he]
theorem int_run (op : BinOp) {o : Nat} (ho : cmpCode op = some o) (t : TypeId) (k : IntKind) (x y : Int) : (binOp op t (.int k x) (.int k y)).run P w = .ok (.bool (cmpI o x y)) w := by
  cases op <;> simp [cmpCode] at ho <;> subst ho <;> simp [binOp, Op.intCmp, cmpI] <;> rfl
theorem guard_none (op : BinOp) (t : TypeId) (x y : Operand) {a b : Value} (h1 : a ≠ .nilIface ∨ b ≠ .nilIface) (h2 : ∀ l, a ≠ .agg l) : eqGuard op t x y a b = pure () := by
  unfold eqGuard
  cases op <;> simp <;> (cases a <;> cases b <;> simp_all)

theorem eq_ptr {t e : TypeId} (hu : P.underlying t = some (.pointer e)) (w : World) (d : Nat) (q : Option Addr) : (Op.equalIn (d + 1) t (.pointer q) (.pointer none)).run P w = .ok q.isNone w := by
  cases q <;> simp [Op.equalIn, run_underlying hu]
theorem eq_slice {t e : TypeId} (hu : P.underlying t = some (.slice e)) (w : World) (d : Nat) (q : Option Addr) (n m : Nat) : (Op.equalIn (d + 1) t (.slice q n m) (.slice none 0 0)).run P w = .ok q.isNone w := by
  cases q <;> simp [Op.equalIn, run_underlying hu]
theorem eq_map {t a b : TypeId} (hu : P.underlying t = some (.map a b)) (w : World) (d : Nat) (q : Option Nat) : (Op.equalIn (d + 1) t (.map q) (.map none)).run P w = .ok q.isNone w := by
  cases q <;> simp [Op.equalIn, run_underlying hu]
theorem eq_fn1 {t : TypeId} {a b : Array TypeId} {v : Bool} (hu : P.underlying t = some (.func a b v)) (w : World) (d : Nat) (f : Fn) (x y : Array Value) : (Op.equalIn (d + 1) t (.func f x y) .nilFunc).run P w = .ok false w := by
  simp [Op.equalIn, run_underlying hu]
theorem eq_fn2 {t : TypeId} {a b : Array TypeId} {v : Bool} (hu : P.underlying t = some (.func a b v)) (w : World) (d : Nat) : (Op.equalIn (d + 1) t .nilFunc .nilFunc).run P w = .ok true w := by
  simp [Op.equalIn, run_underlying hu]
theorem eq_if1 {t : TypeId} {ms : Array (String × TypeId)} (hu : P.underlying t = some (.interface ms)) (w : World) (d : Nat) (u : TypeId) (x : Value) : (Op.equalIn (d + 1) t (.iface u x) .nilIface).run P w = .ok false w := by
  simp [Op.equalIn, run_underlying hu]
theorem eq_if2 {t : TypeId} {ms : Array (String × TypeId)} (hu : P.underlying t = some (.interface ms)) (w : World) (d : Nat) : (Op.equalIn (d + 1) t .nilIface .nilIface).run P w = .ok true w := by
  simp [Op.equalIn, run_underlying hu]

/-- what is compared is compared in the world -/
theorem cmp_sound (hT : TOk P T) {t : TypeId} {x y : Operand} {op : BinOp} {o : Nat} (ho : cmpCode op = some o) {g : CTag} (hg : tagOf T t y = some g) (h : Rel c s w) {xv yv : AV}
    {k : Bool → S → Bool} (hk : cmpA o g xv yv s k = true) :
    ∃ b φ', ((do eqGuard op t x y (xv.conc c) (yv.conc c); binOp op t (xv.conc c) (yv.conc c)) : Sem Value).run P w = .ok (.bool b) w ∧ Sat c.σ φ' ∧ k b ⟨s.h, s.nx, φ'⟩ = true := by
  unfold tagOf at hg
  split at hg <;> try (simp at hg; done)
  rename_i i hi
  have hi := hT _ _ hi
  have hund := hi.und
  have two : ∀ {xs ys : AS}, (optB (asS xv) fun xs => optB (asS yv) fun ys => cmpS o g xs ys s k) = true → ∃ xs ys, xv = .w (.s xs) ∧ yv = .w (.s ys) ∧ cmpS o g xs ys s k = true := by
    intro _ _ h
    obtain ⟨xs, h1, h⟩ := optB_true h
    obtain ⟨ys, h2, h⟩ := optB_true h
    exact ⟨xs, ys, asS_spec h1, asS_spec h2, h⟩
  have fin : ∀ {X Y : Value} {b r : Bool}, eqRes o b = some r → (∀ l, X ≠ .agg l) → (X ≠ .nilIface ∨ Y ≠ .nilIface) → (Op.equal t X Y).run P w = .ok b w →
      binOp .eql t X Y = (do pure (.bool (← Op.equal t X Y))) → binOp .neq t X Y = (do pure (.bool (!(← Op.equal t X Y)))) →
      ((do eqGuard op t x y X Y; binOp op t X Y) : Sem Value).run P w = .ok (.bool r) w := by
    intro X Y b r hr h1 h2 he hx hn
    rw [guard_none op t x y h2 h1]
    simp only [Sem.run_bind, Sem.run_pure, Result.andThen_ok]
    exact eql_run op ho hr he hx hn
  split at hg <;> try (simp at hg; done)
  · -- int
    rename_i kk hd
    injection hg with hg; subst hg
    obtain ⟨xs, ys, rfl, rfl, hk2⟩ := two (xs := .nilp) (ys := .nilp) hk
    clear hk
    have hk := hk2
    clear hk2
    simp only [cmpS] at hk
    split at hk <;> try (simp at hk; done)
    rename_i kx a
    split at hk <;> try (simp at hk; done)
    rename_i ky b
    obtain ⟨hkk, hk1⟩ := ifB_true hk
    clear hk
    have hkk := kindEq_eq hkk
    subst hkk
    obtain ⟨p, hp, hk3⟩ := optB_true hk1
    rw [phi_eq] at hk3
    obtain ⟨φ', hs', hk4⟩ := brc_spec h.sat hk3
    rw [setPhi_eq, condOf_spec hp] at hk4
    refine ⟨_, φ', ?_, hs', hk4⟩
    have e1 : (AV.w (.s (.int kx a))).conc c = .int kx (a.eval c.σ) := rfl
    have e2 : (AV.w (.s (.int kx b))).conc c = .int kx (b.eval c.σ) := rfl
    rw [e1, e2, guard_none op t x y (.inl (by simp)) (by simp)]
    simp only [Sem.run_bind, Sem.run_pure, Result.andThen_ok]
    exact int_run op ho t kx _ _
  · -- bool
    rename_i hd
    injection hg with hg; subst hg
    obtain ⟨xs, ys, rfl, rfl, hk2⟩ := two (xs := .nilp) (ys := .nilp) hk
    clear hk
    have hk := hk2
    clear hk2
    simp only [cmpS] at hk
    split at hk <;> try (simp at hk; done)
    rename_i a
    split at hk <;> try (simp at hk; done)
    rename_i b
    obtain ⟨r, hr, hk⟩ := optB_true hk
    refine ⟨r, s.φ, ?_, h.sat, hk⟩
    have hbe : boolEq a b = (a == b) := by cases a <;> cases b <;> rfl
    rw [hbe] at hr
    exact fin hr (by simp [AV.conc, AW.conc, AS.conc]) (.inl (by simp [AV.conc, AW.conc, AS.conc])) (run_equal_bool (P := P) w t a b (by rw [hund, hd])) rfl rfl
  · -- pointer
    rename_i e hd
    injection hg with hg; subst hg
    obtain ⟨xs, ys, rfl, rfl, hk2⟩ := two (xs := .nilp) (ys := .nilp) hk
    clear hk
    have hk := hk2
    clear hk2
    simp only [cmpS] at hk
    split at hk <;> try (simp at hk; done)
    split at hk <;> try (simp at hk; done)
    · obtain ⟨r, hr, hk⟩ := optB_true hk
      refine ⟨r, s.φ, ?_, h.sat, hk⟩
      refine fin hr (by simp [AV.conc, AW.conc, AS.conc]) (.inl (by simp [AV.conc, AW.conc, AS.conc])) ?_ rfl rfl
      exact eq_ptr (by rw [hund, hd]) w 9999 _
    · obtain ⟨r, hr, hk⟩ := optB_true hk
      refine ⟨r, s.φ, ?_, h.sat, hk⟩
      refine fin hr (by simp [AV.conc, AW.conc, AS.conc]) (.inl (by simp [AV.conc, AW.conc, AS.conc])) ?_ rfl rfl
      exact eq_ptr (by rw [hund, hd]) w 9999 _
  · -- slice
    rename_i e hd
    injection hg with hg; subst hg
    obtain ⟨xs, ys, rfl, rfl, hk2⟩ := two (xs := .nilp) (ys := .nilp) hk
    clear hk
    have hk := hk2
    clear hk2
    simp only [cmpS] at hk
    split at hk <;> try (simp at hk; done)
    split at hk <;> try (simp at hk; done)
    · obtain ⟨r, hr, hk⟩ := optB_true hk
      refine ⟨r, s.φ, ?_, h.sat, hk⟩
      refine fin hr (by simp [AV.conc, AW.conc, AS.conc]) (.inl (by simp [AV.conc, AW.conc, AS.conc])) ?_ rfl rfl
      exact eq_slice (by rw [hund, hd]) w 9999 _ _ _
    · obtain ⟨r, hr, hk⟩ := optB_true hk
      refine ⟨r, s.φ, ?_, h.sat, hk⟩
      refine fin hr (by simp [AV.conc, AW.conc, AS.conc]) (.inl (by simp [AV.conc, AW.conc, AS.conc])) ?_ rfl rfl
      exact eq_slice (by rw [hund, hd]) w 9999 _ _ _
  · -- map
    rename_i e1 e2 hd
    injection hg with hg; subst hg
    obtain ⟨xs, ys, rfl, rfl, hk2⟩ := two (xs := .nilp) (ys := .nilp) hk
    clear hk
    have hk := hk2
    clear hk2
    simp only [cmpS] at hk
    split at hk <;> try (simp at hk; done)
    split at hk <;> try (simp at hk; done)
    · obtain ⟨r, hr, hk⟩ := optB_true hk
      refine ⟨r, s.φ, ?_, h.sat, hk⟩
      refine fin hr (by simp [AV.conc, AW.conc, AS.conc]) (.inl (by simp [AV.conc, AW.conc, AS.conc])) ?_ rfl rfl
      exact eq_map (by rw [hund, hd]) w 9999 _
    · obtain ⟨r, hr, hk⟩ := optB_true hk
      refine ⟨r, s.φ, ?_, h.sat, hk⟩
      refine fin hr (by simp [AV.conc, AW.conc, AS.conc]) (.inl (by simp [AV.conc, AW.conc, AS.conc])) ?_ rfl rfl
      exact eq_map (by rw [hund, hd]) w 9999 _
  · -- function
    rename_i e1 e2 e3 hd
    injection hg with hg; subst hg
    obtain ⟨xs, ys, rfl, rfl, hk2⟩ := two (xs := .nilp) (ys := .nilp) hk
    clear hk
    have hk := hk2
    clear hk2
    simp only [cmpS] at hk
    split at hk <;> try (simp at hk; done)
    split at hk <;> try (simp at hk; done)
    · obtain ⟨r, hr, hk⟩ := optB_true hk
      refine ⟨r, s.φ, ?_, h.sat, hk⟩
      refine fin hr (by simp [AV.conc, AW.conc, AS.conc]) (.inl (by simp [AV.conc, AW.conc, AS.conc])) ?_ rfl rfl
      exact eq_fn1 (by rw [hund, hd]) w 9999 _ _ _
    · obtain ⟨r, hr, hk⟩ := optB_true hk
      refine ⟨r, s.φ, ?_, h.sat, hk⟩
      refine fin hr (by simp [AV.conc, AW.conc, AS.conc]) (.inl (by simp [AV.conc, AW.conc, AS.conc])) ?_ rfl rfl
      exact eq_fn2 (by rw [hund, hd]) w 9999
  · -- interface
    rename_i ms hd
    split at hg <;> try (simp at hg; done)
    rename_i hy
    injection hg with hg; subst hg
    obtain ⟨xs, ys, rfl, rfl, hk2⟩ := two (xs := .nilp) (ys := .nilp) hk
    clear hk
    have hk := hk2
    clear hk2
    simp only [cmpS] at hk
    split at hk <;> try (simp at hk; done)
    split at hk <;> try (simp at hk; done)
    · obtain ⟨r, hr, hk⟩ := optB_true hk
      refine ⟨r, s.φ, ?_, h.sat, hk⟩
      refine fin hr (by simp [AV.conc, AW.conc, AS.conc]) (.inl (by simp [AV.conc, AW.conc, AS.conc])) ?_ rfl rfl
      exact eq_if1 (by rw [hund, hd]) w 9999 _ _
    · obtain ⟨r, hr, hk⟩ := optB_true hk
      refine ⟨r, s.φ, ?_, h.sat, hk⟩
      have hgd : eqGuard op t x y Value.nilIface Value.nilIface = pure () := by
        cases y <;> simp [isConst] at hy
        unfold eqGuard
        cases op <;> simp
      have e1 : (AV.w (.s .niliface)).conc c = .nilIface := rfl
      rw [e1, hgd]
      simp only [Sem.run_bind, Sem.run_pure, Result.andThen_ok]
      refine eql_run op ho hr ?_ rfl rfl
      exact eq_if2 (by rw [hund, hd]) w 9999
  · -- string
    rename_i hd
    injection hg with hg; subst hg
    unfold cmpA at hk
    simp only at hk
    split at hk <;> try (simp at hk; done)
    rename_i l
    split at hk <;> try (simp at hk; done)
    rename_i m
    rw [phi_eq] at hk
    obtain ⟨φ', b, hs', hk, hb⟩ := eqTK_spec h.sat hk
    obtain ⟨r, hr, hk⟩ := optB_true hk
    rw [setPhi_eq] at hk
    refine ⟨r, φ', ?_, hs', hk⟩
    have e1 : ∀ q, (AV.str q).conc c = .string ⟨(q.map (byteT c.σ)).toArray⟩ := fun _ => rfl
    rw [e1, e1, guard_none op t x y (.inl (by simp)) (by simp)]
    simp only [Sem.run_bind, Sem.run_pure, Result.andThen_ok]
    have hbb : (l.map (byteT c.σ) == m.map (byteT c.σ)) = b := by rw [Bool.eq_iff_iff, hb]; simp
    rcases eqRes_spec hr with ⟨rfl, rfl⟩ | ⟨rfl, rfl⟩
    · cases op <;> simp [cmpCode] at ho
      simp [binOp, Op.stringOp, hbb]
    · cases op <;> simp [cmpCode] at ho
      simp [binOp, Op.stringOp, hbb]
  all_goals
    -- arrays, structs
    split at hg <;> try (simp at hg; done)
    rename_i hpl
    cases hkt : compKT T t with
    | none => rw [hkt] at hg; cases hg
    | some kt =>
      rw [hkt] at hg; injection hg with hg; subst hg
      have hK := compKT_ok hT hkt
      unfold cmpA at hk
      simp only at hk
      obtain ⟨xw, h1, hk⟩ := optB_true hk
      obtain ⟨yw, h2, hk⟩ := optB_true hk
      have e1 := asW_spec h1
      have e2 := asW_spec h2
      subst e1; subst e2
      obtain ⟨hsh, hk⟩ := ifB_true hk
      obtain ⟨s1, s2⟩ := and2_iff.1 hsh
      rw [phi_eq] at hk
      obtain ⟨φ', b, hs', hk, hb⟩ := eqLK_spec h.sat hk
      obtain ⟨r, hr, hk⟩ := optB_true hk
      rw [setPhi_eq] at hk
      refine ⟨r, φ', ?_, hs', hk⟩
      obtain ⟨q, hq, hqi⟩ := eqK (P := P) w hK (shapeK_spec s1 c) (shapeK_spec s2 c) 9997
      have hq : (Op.equal t (xw.conc c) (yw.conc c)).run P w = .ok q w := hq
      have hcells : (xw.conc c = yw.conc c) ↔ (cellsW xw).map (AS.conc c) = (cellsW yw).map (AS.conc c) := by
        cases xw with
        | s a => cases yw with
          | s b => simp [AW.conc, cellsW]
          | agg l => cases kt with
            | one z => cases z <;> simp [shapeK] at s1 s2
            | str fs => simp [shapeK] at s1
        | agg l => cases yw with
          | s b => cases kt with
            | one z => cases z <;> simp [shapeK] at s1 s2
            | str fs => simp [shapeK] at s2
          | agg m => simp [AW.conc, cellsW]
      have hqb : q = b := by
        rw [Bool.eq_iff_iff, hqi, hcells, hb c rfl]
      subst hqb
      have ex : (AV.w xw).conc c = xw.conc c := rfl
      have ey : (AV.w yw).conc c = yw.conc c := rfl
      rw [ex, ey]
      cases xw with
      | s a =>
        exfalso
        cases kt with
        | str fs => simp [shapeK] at s1
        | one z =>
          cases z with
          | arr n e k => simp [shapeK] at s1
          | int k =>
            have := hK.und
            simp only at this
            rw [hund] at this
            simp_all
      | agg l =>
        have hgd : (eqGuard op t x y ((AW.agg l).conc c) (yw.conc c)).run P w = .ok () w := by
          cases yw with
          | s b => cases kt with
            | one z => cases z <;> simp [shapeK] at s1 s2
            | str fs => simp [shapeK] at s2
          | agg m => exact run_eqGuard_agg w op t x y _ _ (hi.plain hpl).2
        simp only [Sem.run_bind, hgd, Result.andThen_ok]
        refine eql_run op ho hr hq ?_ ?_
        · cases yw <;> rfl
        · cases yw <;> rfl
end
end
end Go.Sy

/-! The symbolic executor, part R: operations that write, all of them but calls. -/
namespace Go.Sy
set_option linter.unusedVariables false
set_option linter.unusedSectionVars false
noncomputable section

def bPlain (o : BOp) (t : Tmps) (s : S) (k : BK) : Bool := match o with
  | .store n a v => optB (ev t a) fun a => optB (ev t v) fun v => bStore n a v s k
  | .mupd kt m key v => optB (ev t m) fun m => optB (ev t key) fun key => optB (ev t v) fun v => bMupd kt m key v s k
  | .del kt m key => optB (ev t m) fun m => optB (ev t key) fun key => bDel kt m key s k
  | .append e z b x y => optB (ev t x) fun x => optB (ev t y) fun y => bAppend e z b x y s k
  | .appendz e z b zero x n => optB (ev t x) fun x => optB (ev t n) fun n => bAppendz e z b zero x n s k
  | .copy z d x => optB (ev t d) fun d => optB (ev t x) fun x => bCopy z d x s k
  | .cmp o g x y => optB (ev t x) fun x => optB (ev t y) fun y => cmpA o g x y s fun b s => k (vBool b) s
  | .mm mx x y => optB (ev t x) fun x => optB (ev t y) fun y => mmA mx x y s k
  | .range x => optB (ev t x) fun x => bRange x s k
  | .next x => optB (ev t x) fun x => bNext x s k
  | .entry x => optB (ev t x) fun x => bEntry x s k
  | _ => false

def compB (T : TyT) (o : Op) : Option BOp := match o with
  | .store t a v => (match T t, embO a, embO v with | some i, some a, some v => some (.store i.size a v) | _, _, _ => none)
  | .mapUpdate t m k v => (match T t with
    | none => none
    | some i => (match i.desc with
      | .map kt _ => (match compKT T kt, embO m, embO k, embO v with | some q, some m, some k, some v => some (.mupd q m k v) | _, _, _, _ => none)
      | _ => none))
  | .binOp op t x y _ => (match cmpCode op, tagOf T t y, embO x, embO y with | some o, some g, some x, some y => some (.cmp o g x y) | _, _, _, _ => none)
  | .panic x => (embO x).map .panic
  | .range t x => (match T t with
    | none => none
    | some i => (match i.desc with
      | .map _ _ => (match embO x with | some x => some (.range x) | none => none)
      | _ => none))
  | .next x b => (match b with
    | true => none
    | false => (match embO x with | some x => some (.next x) | none => none))
  | .entry x => (match embO x with | some x => some (.entry x) | none => none)
  | .call c => (match c.callee with
    | .value (.func f) => (embList c.args.toList).map (.call f)
    | .value (.tmp n) => (embList c.args.toList).map (.callv (.t n))
    | .builtin .append => (match c.args.toList, c.argTypes.toList with
      | [x, y], [t1, t2] => (match T t1 with
        | none => none
        | some i => (match i.desc with
          | .slice e => (match T e, embO x, embO y with
            | some ie, some x, some y => (match ie.size with
              | 0 => none
              | _ + 1 => (match Nat.beq t1 t2 with
                | true => some (.append e ie.size ie.bytes x y)
                | false => (match T t2 with | some i2 => (match i2.desc with | .int _ => some (.appendz e ie.size ie.bytes (cellsW ie.zero) x y) | _ => none) | none => none)))
            | _, _, _ => none)
          | _ => none))
      | _, _ => none)
    | .builtin .copy => (match c.args.toList, c.argTypes.toList with
      | [x, y], [t1, _] => (match T t1 with
        | none => none
        | some i => (match i.desc with
          | .slice e => (match T e, embO x, embO y with | some ie, some x, some y => some (.copy ie.size x y) | _, _, _ => none)
          | _ => none))
      | _, _ => none)
    | .builtin .delete => (match c.args.toList, c.argTypes.toList with
      | [x, y], [t1, t2] => (match T t1 with
        | none => none
        | some i => (match i.desc with
          | .map kt _ => (match Nat.beq kt t2, compKT T kt, embO x, embO y with | true, some q, some x, some y => some (.del q x y) | _, _, _, _ => none)
          | _ => none))
      | _, _ => none)
    | .builtin .max => (match c.args.toList with | [x, y] => (match embO x, embO y with | some x, some y => some (.mm true x y) | _, _ => none) | _ => none)
    | .builtin .min => (match c.args.toList with | [x, y] => (match embO x, embO y with | some x, some y => some (.mm false x y) | _, _ => none) | _ => none)
    | _ => none)
  | _ => none

section
variable {P : Program} {T : TyT} {c : Cx} {t : Tmps} {a : Act} {s : S} {w : World}

theorem copy_sound {ty1 ty2 rty e : TypeId} {i ie : TyA} (hi : TyOk P ty1 i) (hd : i.desc = .slice e) (hie : TyOk P e ie) (h : Rel c s w) {dv xv : AV} {k : BK} (hk : bCopy ie.size dv xv s k = true) :
    BOk P c s w (((Builtin.copy_ #[ty1, ty2] rty #[dv.conc c, xv.conc c]).run P w).andThen fun v w' => .ok (.value v) w') k := by
  unfold bCopy at hk
  obtain ⟨q, h1, hk1⟩ := optB_true hk
  have e1 := asS_spec h1
  subst e1
  split at hk1 <;> try (simp at hk1; done)
  · rename_i id off dl dcap
    obtain ⟨y, h2, hk2⟩ := optB_true hk1
    have e2 := asS_spec h2
    subst e2
    have ed : (AV.w (.s (.slice id off dl dcap))).conc c = .slice (some ⟨c.ι id, off, none⟩) dl (dcap.conc c id) := rfl
    split at hk2 <;> try (simp at hk2; done)
    · have ex : (AV.w (.s .nils)).conc c = .slice none 0 0 := rfl
      refine ⟨c, vInt .i64 (.lit (.ofNat 0)), s, w, ?_, trivial, Step.refl c s w, h, hk2⟩
      rw [ed, ex]
      simp [Builtin.copy_, hi.run_und w, hd, Builtin.lenOf, hie.run_size w, run_firstCells_none, storeCells, goInt, vInt, AV.conc, AW.conc, AS.conc, Tm.eval]
    · rename_i id2 off2 sl scap
      obtain ⟨o2, h3, hk3⟩ := optB_true hk2
      obtain ⟨l2, h4, hk4⟩ := optB_true hk3
      rw [forceN_eq] at hk4
      obtain ⟨xs, h5, hk5⟩ := optB_true hk4
      obtain ⟨o, h6, hk6⟩ := optB_true hk5
      obtain ⟨l, h7, hk7⟩ := optB_true hk6
      obtain ⟨h8, hk8⟩ := ifB_true hk7
      have h8 : off + llen xs ≤ llen l := (natBle_iff _ _).1 h8
      rw [llen_eq, llen_eq] at h8
      rw [lsetK_eq] at hk8
      rw [S.get_eq] at h3 h6
      rw [natMin_eq] at h5 hk8
      obtain ⟨hcx, hlx, hmx⟩ := obj_cells (h.obj id2 o2 h3) h4 h5
      have hxw : ∀ x ∈ xs, x.wf c s.nx := fun x hx => wf_obj_cells h4 (h.wf id2 o2 h3) x (hmx x hx)
      obtain ⟨cur, te, o', g1, g2, g3, g4, g5⟩ := over_row (h.obj id o h6) h7 h8 hk8
      rw [S.updK_eq] at g3
      have hst := store_step h h6 g1 _ (g4 s.nx (h.wf id o h6) hxw) g5
      refine ⟨c, vInt .i64 (.lit (.ofNat (min sl dl))), s.upd id o', _, ?_, trivial, hst.2, hst.1, g3⟩
      have ex : (AV.w (.s (.slice id2 off2 sl scap))).conc c = .slice (some ⟨c.ι id2, off2, none⟩) sl (scap.conc c id2) := rfl
      have hlx' : xs.length = min sl dl * ie.size := hlx
      have hf := run_firstCells_some (P := P) w ie.size (min sl dl) ⟨c.ι id2, off2, none⟩ sl (scap.conc c id2) (xs.map (AS.conc c)) (by simpa using hlx') hcx
      have hss := run_storeCells_at P (c.ι id) off te (xs.map (AS.conc c)) 0 cur w g1 (by simpa using g2) (AS.oneL c xs)
      rw [ed, ex]
      have hmin : Nat.min sl dl = min sl dl := rfl
      simp [Builtin.copy_, hi.run_und w, hd, Builtin.lenOf, hie.run_size w, hmin, hf, hss, goInt, vInt, AV.conc, AW.conc, AS.conc, Tm.eval]
  · obtain ⟨y, h2, hk2⟩ := optB_true hk1
    have e2 := asS_spec h2
    subst e2
    have ed : (AV.w (.s .nils)).conc c = .slice none 0 0 := rfl
    rw [ed]
    split at hk2 <;> try (simp at hk2; done)
    · refine ⟨c, vInt .i64 (.lit (.ofNat 0)), s, w, ?_, trivial, Step.refl c s w, h, hk2⟩
      rw [ed]
      simp [Builtin.copy_, hi.run_und w, hd, Builtin.lenOf, hie.run_size w, run_firstCells_none, goInt, vInt, AV.conc, AW.conc, AS.conc, Tm.eval]
    · rename_i id2 off2 sl scap
      refine ⟨c, vInt .i64 (.lit (.ofNat 0)), s, w, ?_, trivial, Step.refl c s w, h, hk2⟩
      have ex : (AV.w (.s (.slice id2 off2 sl scap))).conc c = .slice (some ⟨c.ι id2, off2, none⟩) sl (scap.conc c id2) := rfl
      have hf := run_firstCells_some (P := P) w ie.size 0 ⟨c.ι id2, off2, none⟩ sl (scap.conc c id2) [] (by simp) (by simp)
      rw [ex]
      simp [Builtin.copy_, hi.run_und w, hd, Builtin.lenOf, hie.run_size w, hf, goInt, vInt, AV.conc, AW.conc, AS.conc, Tm.eval]

theorem mm_sound {mx : Bool} (h : Rel c s w) {xv yv : AV} {ats : Array TypeId} {rty : TypeId} {k : BK} (hk : mmA mx xv yv s k = true) :
    BOk P c s w (((match mx with | true => Builtin.max_ ats rty #[xv.conc c, yv.conc c] | false => Builtin.min_ ats rty #[xv.conc c, yv.conc c]).run P w).andThen fun v w' => .ok (.value v) w') k := by
  unfold mmA at hk
  obtain ⟨⟨kx, p⟩, h1, hk1⟩ := optB_true hk
  obtain ⟨⟨ky, q⟩, h2, hk2⟩ := optB_true hk1
  obtain ⟨h3, hk3⟩ := ifB_true hk2
  clear hk hk1 hk2
  have e3 : kx = ky := kindEq_eq h3
  have e1 := asIntA_spec h1
  have e2 := asIntA_spec h2
  rw [← e3] at e2
  subst e1; subst e2
  have c1 : (AV.w (.s (.int kx p))).conc c = .int kx (p.eval c.σ) := rfl
  have c2 : (AV.w (.s (.int kx q))).conc c = .int kx (q.eval c.σ) := rfl
  rw [c1, c2]
  rw [phi_eq] at hk3
  cases mx with
  | true =>
    obtain ⟨φ', hs', hk4⟩ := brc_spec h.sat hk3
    cases hc : (Cond.le q p).eval c.σ with
    | true =>
      simp only [hc, setPhi_eq] at hk4
      simp only [Cond.eval, decide_eq_true_eq] at hc
      refine ⟨c, vInt kx p, _, w, ?_, trivial, Step.facts c s w φ', h.facts hs', hk4⟩
      simp [Builtin.max_, Builtin.max2, vInt, AV.conc, AW.conc, AS.conc]
      omega
    | false =>
      simp only [hc, setPhi_eq] at hk4
      simp only [Cond.eval, decide_eq_false_iff_not] at hc
      refine ⟨c, vInt kx q, _, w, ?_, trivial, Step.facts c s w φ', h.facts hs', hk4⟩
      simp [Builtin.max_, Builtin.max2, vInt, AV.conc, AW.conc, AS.conc]
      omega
  | false =>
    obtain ⟨φ', hs', hk4⟩ := brc_spec h.sat hk3
    cases hc : (Cond.le p q).eval c.σ with
    | true =>
      simp only [hc, setPhi_eq] at hk4
      simp only [Cond.eval, decide_eq_true_eq] at hc
      refine ⟨c, vInt kx p, _, w, ?_, trivial, Step.facts c s w φ', h.facts hs', hk4⟩
      simp [Builtin.min_, Builtin.min2, vInt, AV.conc, AW.conc, AS.conc]
      omega
    | false =>
      simp only [hc, setPhi_eq] at hk4
      simp only [Cond.eval, decide_eq_false_iff_not] at hc
      refine ⟨c, vInt kx q, _, w, ?_, trivial, Step.facts c s w φ', h.facts hs', hk4⟩
      simp [Builtin.min_, Builtin.min2, vInt, AV.conc, AW.conc, AS.conc]
      omega

/-- What an operation that writes comes to in a world: a value, or nothing. -/
def BOk2 (P : Program) (c : Cx) (s : S) (w : World) (r : Result Next) (k : BK) : Prop :=
  ∃ c' v s' w', (r = .ok (.value (v.conc c')) w' ∨ (v = .undef ∧ r = .ok .skip w')) ∧ v.wf c' s'.nx ∧ Step c c' s s' w w' ∧ Rel c' s' w' ∧ k v s' = true

theorem plain_sound (hT : TOk P T) {o : Oper} {bo : BOp} (hc : compB T o.op = some bo) (hr : TRel c s.nx t a.tmps) (h : Rel c s w) {k : BK} (hk : bPlain bo t s k = true) :
    BOk2 P c s w ((execOp a.eval o).run P w) k := by
  obtain ⟨dst, op, ty, pos, af, g⟩ := o
  cases op with
  | store t' ad v =>
    simp only [compB] at hc
    split at hc <;> try (simp at hc; done)
    rename_i i a' v' hi ha hv
    injection hc with hc; subst hc
    obtain ⟨av, h1, hk1⟩ := optB_true (show optB (ev t a') _ = true from hk)
    obtain ⟨vv, h2, hk2⟩ := optB_true hk1
    have e1 := ev_spec hr ha h1
    have e2 := ev_spec hr hv h2
    obtain ⟨s', w', r1, r2, r3, r4⟩ := store_sound (hT _ _ hi) h e1.2 e2.2 hk2
    exact ⟨c, .undef, s', w', .inr ⟨rfl, by simp [execOp, e1.1, e2.1, r1]⟩, trivial, r2, r3, r4⟩
  | mapUpdate t' m key v =>
    simp only [compB] at hc
    split at hc <;> try (simp at hc; done)
    rename_i i hi
    split at hc <;> try (simp at hc; done)
    rename_i kty ety hd
    split at hc <;> try (simp at hc; done)
    rename_i q m' k' v' hq hm hkk hv
    injection hc with hc; subst hc
    obtain ⟨mv, h1, hk1⟩ := optB_true (show optB (ev t m') _ = true from hk)
    obtain ⟨kv, h2, hk2⟩ := optB_true hk1
    obtain ⟨vv, h3, hk3⟩ := optB_true hk2
    have e1 := ev_spec hr hm h1
    have e2 := ev_spec hr hkk h2
    have e3 := ev_spec hr hv h3
    obtain ⟨s', w', r1, r2, r3, r4⟩ := mupd_sound hT (hT _ _ hi) hd (compKT_ok hT hq) h e3.2 e2.2 hk3
    exact ⟨c, .undef, s', w', .inr ⟨rfl, by simp [execOp, e1.1, e2.1, e3.1, r1]⟩, trivial, r2, r3, r4⟩
  | binOp op xT x y yT =>
    simp only [compB] at hc
    split at hc <;> try (simp at hc; done)
    rename_i o' g' x' y' ho hg hx hy
    injection hc with hc; subst hc
    obtain ⟨xv, h1, hk1⟩ := optB_true (show optB (ev t x') _ = true from hk)
    obtain ⟨yv, h2, hk2⟩ := optB_true hk1
    have e1 := ev_spec hr hx h1
    have e2 := ev_spec hr hy h2
    obtain ⟨b, φ', r1, r2, r3⟩ := cmp_sound (x := x) (y := y) hT ho hg h hk2
    refine ⟨c, vBool b, _, w, .inl ?_, trivial, Step.facts c s w φ', h.facts r2, r3⟩
    simp only [execOp, e1.1, e2.1, Sem.run_bind] at r1 ⊢
    rw [r1]; rfl
  | panic x =>
    simp only [compB] at hc
    cases hx : embO x with
    | none => rw [hx] at hc; cases hc
    | some x' => rw [hx] at hc; injection hc with hc; subst hc; cases hk
  | call cl =>
    obtain ⟨callee, args, argTypes⟩ := cl
    simp only [compB] at hc
    split at hc <;> try (simp at hc; done)
    · cases hl : embList args.toList with
      | none => rw [hl] at hc; cases hc
      | some l => rw [hl] at hc; injection hc with hc; subst hc; cases hk
    · cases hl : embList args.toList with
      | none => rw [hl] at hc; cases hc
      | some l => rw [hl] at hc; injection hc with hc; subst hc; cases hk
    · split at hc <;> try (simp at hc; done)
      rename_i x y t1 t2 hargs htys
      have ha : args = #[x, y] := by apply Array.ext'; simpa using hargs
      have ht : argTypes = #[t1, t2] := by apply Array.ext'; simpa using htys
      subst ha; subst ht
      split at hc <;> try (simp at hc; done)
      rename_i i hi
      split at hc <;> try (simp at hc; done)
      rename_i e hd
      split at hc <;> try (simp at hc; done)
      rename_i ie x' y' hie hx hy
      split at hc <;> try (simp at hc; done)
      rename_i n hn
      have hz : 0 < ie.size := by omega
      have hex : (execOp a.eval ⟨dst, .call ⟨.builtin .append, #[x, y], #[t1, t2]⟩, ty, pos, af, g⟩).run P w = ((Builtin.append_ #[t1, t2] ty #[a.eval x, a.eval y]).run P w).andThen fun v w' => .ok (.value v) w' := by
        simp [execOp, resolve, invoke, builtin]
      split at hc
      · rename_i hb
        have hb := (natBeq_iff _ _).1 hb
        subst hb
        injection hc with hc; subst hc
        obtain ⟨xv, h1, hk1⟩ := optB_true (show optB (ev t x') _ = true from hk)
        obtain ⟨yv, h2, hk2⟩ := optB_true hk1
        have e1 := ev_spec hr hx h1
        have e2 := ev_spec hr hy h2
        try rw [← hn] at hk2
        obtain ⟨c', v, s', w', r1, r2, r3, r4, r5⟩ := append_sound (ty := ty) (hT _ _ hi) hd (hT _ _ hie) hz h e1.2 e2.2 hk2
        refine ⟨c', v, s', w', .inl ?_, r2, r3, r4, r5⟩
        rw [hex, e1.1, e2.1, r1]; rfl
      · split at hc <;> try (simp at hc; done)
        rename_i i2 hi2
        split at hc <;> try (simp at hc; done)
        rename_i k2 hd2
        injection hc with hc; subst hc
        obtain ⟨xv, h1, hk1⟩ := optB_true (show optB (ev t x') _ = true from hk)
        obtain ⟨yv, h2, hk2⟩ := optB_true hk1
        have e1 := ev_spec hr hx h1
        have e2 := ev_spec hr hy h2
        unfold bAppendz at hk2
        obtain ⟨q, h3, hk3⟩ := optB_true hk2
        obtain ⟨m, h4, hk4⟩ := optB_true hk3
        obtain ⟨h5, hk5⟩ := ifB_true hk4
        obtain ⟨h5, h6⟩ := and2_iff.1 h5
        have h5 := (natBle_iff _ _).1 h5
        have h6 := (natBle_iff _ _).1 h6
        obtain ⟨kk, e4⟩ := asNatA_spec h4
        have e3 := asS_spec h3
        subst e3; subst e4
        try rw [← hn] at hk5
        have hie' := hT _ _ hie
        have hzw : ∀ x ∈ repA (cellsW ie.zero) m, x.wf c s.nx := by
          intro x hx
          rw [repA_eq] at hx
          simp only [List.mem_flatten, List.mem_replicate] at hx
          obtain ⟨m, ⟨_, rfl⟩, hx⟩ := hx
          exact cellsW_wf (hie'.zero c s.nx) x hx
        have hlen : (repA (cellsW ie.zero) m).length = m * ie.size := by
          rw [repA_eq]; simp [hie'.len]
        obtain ⟨c', v, s', w', r1, r2, r3, r4, r5⟩ := append_core hie' hz h e1.2 hlen hzw (zeros_appRun (P := P) (w := w) (ty := ty) (hT _ _ hi) hd (hT _ _ hi2) hd2 hie' hz h5 (by simpa using h6)) hk5
        refine ⟨c', v, s', w', .inl ?_, r2, r3, r4, r5⟩
        have ey : (AV.w (.s (.int kk (.lit m)))).conc c = .int kk (m : Int) := rfl
        rw [hex, e1.1, e2.1, ey]
        have ex : (AV.w (.s q)).conc c = q.conc c := rfl
        rw [ex, r1]; rfl
    · split at hc <;> try (simp at hc; done)
      rename_i x y t1 t2 hargs htys
      have ha : args = #[x, y] := by apply Array.ext'; simpa using hargs
      have ht : argTypes = #[t1, t2] := by apply Array.ext'; simpa using htys
      subst ha; subst ht
      split at hc <;> try (simp at hc; done)
      rename_i i hi
      split at hc <;> try (simp at hc; done)
      rename_i e hd
      split at hc <;> try (simp at hc; done)
      rename_i ie x' y' hie hx hy
      injection hc with hc; subst hc
      obtain ⟨xv, h1, hk1⟩ := optB_true (show optB (ev t x') _ = true from hk)
      obtain ⟨yv, h2, hk2⟩ := optB_true hk1
      have e1 := ev_spec hr hx h1
      have e2 := ev_spec hr hy h2
      obtain ⟨c', v, s', w', r1, r2, r3, r4, r5⟩ := copy_sound (P := P) (ty2 := t2) (rty := ty) (hT _ _ hi) hd (hT _ _ hie) h hk2
      refine ⟨c', v, s', w', .inl ?_, r2, r3, r4, r5⟩
      rw [← r1, ← e1.1, ← e2.1]
      simp [execOp, resolve, invoke, builtin]
    · split at hc <;> try (simp at hc; done)
      rename_i x y t1 t2 hargs htys
      have ha : args = #[x, y] := by apply Array.ext'; simpa using hargs
      have ht : argTypes = #[t1, t2] := by apply Array.ext'; simpa using htys
      subst ha; subst ht
      split at hc <;> try (simp at hc; done)
      rename_i i hi
      split at hc <;> try (simp at hc; done)
      rename_i kty ety hd
      split at hc <;> try (simp at hc; done)
      rename_i q x' y' hb hq hx hy
      have hb := (natBeq_iff _ _).1 hb
      subst hb
      injection hc with hc; subst hc
      obtain ⟨xv, h1, hk1⟩ := optB_true (show optB (ev t x') _ = true from hk)
      obtain ⟨yv, h2, hk2⟩ := optB_true hk1
      have e1 := ev_spec hr hx h1
      have e2 := ev_spec hr hy h2
      obtain ⟨s', w', r1, r2, r3, r4⟩ := del_sound (rty := ty) hT (hT _ _ hi) hd (compKT_ok hT hq) h hk2
      refine ⟨c, .tup [], s', w', .inl ?_, (by intro x hx; cases hx), r2, r3, r4⟩
      have : (execOp a.eval ⟨dst, .call ⟨.builtin .delete, #[x, y], #[t1, kty]⟩, ty, pos, af, g⟩).run P w = ((Builtin.delete_ #[t1, kty] ty #[a.eval x, a.eval y]).run P w).andThen fun v w' => .ok (.value v) w' := by
        simp [execOp, resolve, invoke, builtin]
      rw [this, e1.1, e2.1, r1]
      simp [AV.conc]
    · split at hc <;> try (simp at hc; done)
      rename_i x y hargs
      have ha : args = #[x, y] := by apply Array.ext'; simpa using hargs
      subst ha
      split at hc <;> try (simp at hc; done)
      rename_i x' y' hx hy
      injection hc with hc; subst hc
      obtain ⟨xv, h1, hk1⟩ := optB_true (show optB (ev t x') _ = true from hk)
      obtain ⟨yv, h2, hk2⟩ := optB_true hk1
      have e1 := ev_spec hr hx h1
      have e2 := ev_spec hr hy h2
      obtain ⟨c', v, s', w', r1, r2, r3, r4, r5⟩ := mm_sound (P := P) (ats := argTypes) (rty := ty) h hk2
      refine ⟨c', v, s', w', .inl ?_, r2, r3, r4, r5⟩
      rw [← r1, ← e1.1, ← e2.1]
      simp [execOp, resolve, invoke, builtin]
    · split at hc <;> try (simp at hc; done)
      rename_i x y hargs
      have ha : args = #[x, y] := by apply Array.ext'; simpa using hargs
      subst ha
      split at hc <;> try (simp at hc; done)
      rename_i x' y' hx hy
      injection hc with hc; subst hc
      obtain ⟨xv, h1, hk1⟩ := optB_true (show optB (ev t x') _ = true from hk)
      obtain ⟨yv, h2, hk2⟩ := optB_true hk1
      have e1 := ev_spec hr hx h1
      have e2 := ev_spec hr hy h2
      obtain ⟨c', v, s', w', r1, r2, r3, r4, r5⟩ := mm_sound (P := P) (ats := argTypes) (rty := ty) h hk2
      refine ⟨c', v, s', w', .inl ?_, r2, r3, r4, r5⟩
      rw [← r1, ← e1.1, ← e2.1]
      simp [execOp, resolve, invoke, builtin]
  | range t' x =>
    simp only [compB] at hc
    split at hc <;> try (simp at hc; done)
    rename_i i hi
    split at hc <;> try (simp at hc; done)
    rename_i kty ety hd
    split at hc <;> try (simp at hc; done)
    rename_i x' hx
    injection hc with hc; subst hc
    obtain ⟨xv, h1, hk1⟩ := optB_true (show optB (ev t x') _ = true from hk)
    have e1 := ev_spec hr hx h1
    have hu : P.underlying t' = some (.map kty ety) := by rw [(hT _ _ hi).und, hd]
    obtain ⟨c', v, s', w', r1, r2, r3, r4, r5⟩ := mrange_sound hu h hk1
    exact ⟨c', v, s', w', .inl (by simp [execOp, e1.1, r1]), r2, r3, r4, r5⟩
  | next x b =>
    simp only [compB] at hc
    split at hc <;> try (simp at hc; done)
    split at hc <;> try (simp at hc; done)
    rename_i x' hx
    injection hc with hc; subst hc
    obtain ⟨xv, h1, hk1⟩ := optB_true (show optB (ev t x') _ = true from hk)
    have e1 := ev_spec hr hx h1
    obtain ⟨v, s', w', r1, r2, r3, r4, r5⟩ := next_sound (P := P) (ty := ty) h hk1
    exact ⟨c, v, s', w', .inl (by simp [execOp, e1.1, r1]), r2, r3, r4, r5⟩
  | entry x =>
    simp only [compB] at hc
    split at hc <;> try (simp at hc; done)
    rename_i x' hx
    injection hc with hc; subst hc
    obtain ⟨xv, h1, hk1⟩ := optB_true (show optB (ev t x') _ = true from hk)
    have e1 := ev_spec hr hx h1
    obtain ⟨v, r1, r2, r3⟩ := entry_sound (P := P) h hk1
    exact ⟨c, v, s, w, .inl (by simp [execOp, e1.1, r1]), r2, Step.refl c s w, h, r3⟩
  | _ => simp [compB] at hc
end
end
end Go.Sy

