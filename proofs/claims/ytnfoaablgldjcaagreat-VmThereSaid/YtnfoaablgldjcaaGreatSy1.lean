/- The symbolic executor: parts F, G, H, I. Sound by one theorem (callA_ok). No condition. -/
import Derived.Test.YtnfoaablgldjcaaGreatSy0
set_option linter.unusedVariables false
set_option linter.unusedSimpArgs false
set_option linter.unusedSectionVars false
/-! The symbolic executor, part F: values, objects, states; what they stand for in a world. -/
namespace Go.Sy
noncomputable section

/-- a slice's capacity: known; or what its row has, less so many elements -/
inductive ACap where
  | ex (n : Nat)
  | op (d : Nat)

inductive AS where
  | int (k : IntKind) (t : Tm)
  | bool (b : Bool)
  | ptr (id off : Nat)
  | nilp
  | slice (id off len : Nat) (cap : ACap)
  | nils
  | map (id : Nat)
  | nilm
  | fn (f : Nat) (caps : List (Nat × Nat))
  | nilfn
  | iface (t : Nat)
  | niliface
  | opq (i : Nat)
  | estr
  deriving Inhabited

inductive AW where
  | s (x : AS)
  | agg (l : List AS)
  deriving Inhabited

inductive AV where
  | w (x : AW)
  | str (l : List Tm)
  | tup (l : List AW)
  | undef
  deriving Inhabited

structure AEnt where
  key : AW
  val : AW
  born : Nat

inductive AObj where
  /-- a block, all of it -/
  | cells (l : List AS) (e : TypeId)
  /-- a block that is one row of elements of z cells; its first cells -/
  | row (l : List AS) (e : TypeId) (z : Nat)
  | map (es : List AEnt) (clock : Nat)
  /-- who ranges over a map -/
  | iter (m : Option Nat) (since : Nat) (seen : List Nat) (stepped : Nat)

structure S where
  h : Tree AObj
  nx : Nat
  φ : Phi

/-- What names stand for: blocks, capacities, inputs. -/
structure Cx where
  ι : Nat → Nat
  κ : Nat → Nat
  σ : Env

def ACap.conc (c : Cx) (id : Nat) : ACap → Nat
  | .ex n => n
  | .op d => c.κ id - d
def capPtr (c : Cx) (p : Nat × Nat) : Value := .pointer (some ⟨c.ι p.1, p.2, none⟩)
def AS.conc (c : Cx) : AS → Value
  | .int k t => .int k (t.eval c.σ)
  | .bool b => .bool b
  | .ptr id off => .pointer (some ⟨c.ι id, off, none⟩)
  | .nilp => .pointer none
  | .slice id off len cap => .slice (some ⟨c.ι id, off, none⟩) len (cap.conc c id)
  | .nils => .slice none 0 0
  | .map id => .map (some (c.ι id))
  | .nilm => .map none
  | .fn f caps => .func (.func f) #[] (caps.map (capPtr c)).toArray
  | .nilfn => .nilFunc
  | .iface t => .iface t (.agg #[])
  | .niliface => .nilIface
  | .opq i => c.σ.o i
  | .estr => .string ⟨#[]⟩
def AW.conc (c : Cx) : AW → Value
  | .s x => x.conc c
  | .agg l => .agg (l.map (AS.conc c)).toArray
def byteT (σ : Env) (t : Tm) : UInt8 := UInt8.ofNat (t.eval σ).toNat
def AV.conc (c : Cx) : AV → Value
  | .w x => x.conc c
  | .str l => .string ⟨(l.map (byteT c.σ)).toArray⟩
  | .tup l => .tuple (l.map (AW.conc c)).toArray
  | .undef => .tuple #[]
def AEnt.conc (c : Cx) (e : AEnt) : MapEntry := ⟨e.key.conc c, e.val.conc c, e.born⟩

theorem AS.oneCell (c : Cx) (x : AS) : (x.conc c).oneCell' = true := by
  cases x <;> first | rfl | exact c.σ.one _

/-! what values may name -/
def ACap.wf (c : Cx) (id len : Nat) : ACap → Prop
  | .ex n => len ≤ n
  | .op d => len + d ≤ c.κ id
def AS.wf (c : Cx) (nx : Nat) : AS → Prop
  | .ptr id _ => id < nx
  | .slice id _ len cap => id < nx ∧ cap.wf c id len
  | .map id => id < nx
  | .fn _ caps => ∀ p ∈ caps, p.1 < nx
  | _ => True
def AW.wf (c : Cx) (nx : Nat) : AW → Prop
  | .s x => x.wf c nx
  | .agg l => ∀ x ∈ l, x.wf c nx
def AV.wf (c : Cx) (nx : Nat) : AV → Prop
  | .w x => x.wf c nx
  | .tup l => ∀ x ∈ l, x.wf c nx
  | _ => True
def AObj.wf (c : Cx) (nx : Nat) : AObj → Prop
  | .cells l _ => ∀ x ∈ l, x.wf c nx
  | .row l _ _ => ∀ x ∈ l, x.wf c nx
  | .map es _ => ∀ e ∈ es, e.key.wf c nx ∧ e.val.wf c nx
  | .iter m _ _ _ => ∀ i, m = some i → i < nx

/-- c' says of the names below nx what c says. -/
structure Cx.Ext (nx : Nat) (c c' : Cx) : Prop where
  σ : c'.σ = c.σ
  ι : ∀ id, id < nx → c'.ι id = c.ι id
  κ : ∀ id, id < nx → c'.κ id = c.κ id
theorem Cx.Ext.refl (nx : Nat) (c : Cx) : Cx.Ext nx c c := ⟨rfl, fun _ _ => rfl, fun _ _ => rfl⟩
theorem Cx.Ext.trans {nx nx' : Nat} {a b c : Cx} (h : Cx.Ext nx a b) (h' : Cx.Ext nx' b c) (hle : nx ≤ nx') : Cx.Ext nx a c :=
  ⟨h'.σ.trans h.σ, fun id hi => (h'.ι id (by omega)).trans (h.ι id hi), fun id hi => (h'.κ id (by omega)).trans (h.κ id hi)⟩
theorem Cx.Ext.mono {nx nx' : Nat} {a b : Cx} (h : Cx.Ext nx' a b) (hle : nx ≤ nx') : Cx.Ext nx a b :=
  ⟨h.σ, fun id hi => h.ι id (by omega), fun id hi => h.κ id (by omega)⟩

theorem ACap.conc_ext {nx : Nat} {c c' : Cx} (he : Cx.Ext nx c c') {id : Nat} (hi : id < nx) (x : ACap) : x.conc c' id = x.conc c id := by
  cases x <;> simp [ACap.conc, he.κ id hi]
theorem ACap.wf_ext {nx : Nat} {c c' : Cx} (he : Cx.Ext nx c c') {id len : Nat} (hi : id < nx) {x : ACap} (h : x.wf c id len) : x.wf c' id len := by
  cases x <;> simp_all [ACap.wf, he.κ id hi]
theorem AS.conc_ext {nx : Nat} {c c' : Cx} (he : Cx.Ext nx c c') {x : AS} (h : x.wf c nx) : x.conc c' = x.conc c := by
  cases x with
  | int k t => simp [AS.conc, he.σ]
  | ptr id off => simp only [AS.wf] at h; simp [AS.conc, he.ι id h]
  | slice id off len cap => simp only [AS.wf] at h; simp [AS.conc, he.ι id h.1, ACap.conc_ext he h.1]
  | map id => simp only [AS.wf] at h; simp [AS.conc, he.ι id h]
  | fn f caps =>
    simp only [AS.wf] at h
    have : caps.map (capPtr c') = caps.map (capPtr c) := List.map_congr_left fun p hp => by simp [capPtr, he.ι p.1 (h p hp)]
    simp [AS.conc, this]
  | opq i => simp [AS.conc, he.σ]
  | _ => rfl
theorem AS.wf_ext {nx nx' : Nat} {c c' : Cx} (he : Cx.Ext nx c c') (hle : nx ≤ nx') {x : AS} (h : x.wf c nx) : x.wf c' nx' := by
  cases x with
  | ptr id off => simp only [AS.wf] at h ⊢; omega
  | slice id off len cap => simp only [AS.wf] at h ⊢; exact ⟨by omega, ACap.wf_ext he h.1 h.2⟩
  | map id => simp only [AS.wf] at h ⊢; omega
  | fn f caps => simp only [AS.wf] at h ⊢; intro p hp; have := h p hp; omega
  | _ => trivial
theorem concL_ext {nx : Nat} {c c' : Cx} (he : Cx.Ext nx c c') {l : List AS} (h : ∀ x ∈ l, x.wf c nx) : l.map (AS.conc c') = l.map (AS.conc c) :=
  List.map_congr_left fun x hx => AS.conc_ext he (h x hx)
theorem AW.conc_ext {nx : Nat} {c c' : Cx} (he : Cx.Ext nx c c') {x : AW} (h : x.wf c nx) : x.conc c' = x.conc c := by
  cases x with
  | s x => exact AS.conc_ext he h
  | agg l => simp only [AW.conc]; rw [concL_ext he h]
theorem AW.wf_ext {nx nx' : Nat} {c c' : Cx} (he : Cx.Ext nx c c') (hle : nx ≤ nx') {x : AW} (h : x.wf c nx) : x.wf c' nx' := by
  cases x with
  | s x => exact AS.wf_ext he hle h
  | agg l => exact fun x hx => AS.wf_ext he hle (h x hx)
theorem AV.conc_ext {nx : Nat} {c c' : Cx} (he : Cx.Ext nx c c') {x : AV} (h : x.wf c nx) : x.conc c' = x.conc c := by
  cases x with
  | w x => exact AW.conc_ext he h
  | str l => simp [AV.conc, he.σ]
  | tup l =>
    simp only [AV.conc]
    rw [List.map_congr_left fun x hx => AW.conc_ext he (h x hx)]
  | undef => rfl
theorem AV.wf_ext {nx nx' : Nat} {c c' : Cx} (he : Cx.Ext nx c c') (hle : nx ≤ nx') {x : AV} (h : x.wf c nx) : x.wf c' nx' := by
  cases x with
  | w x => exact AW.wf_ext he hle h
  | tup l => exact fun x hx => AW.wf_ext he hle (h x hx)
  | _ => trivial
theorem AObj.wf_ext {nx nx' : Nat} {c c' : Cx} (he : Cx.Ext nx c c') (hle : nx ≤ nx') {x : AObj} (h : x.wf c nx) : x.wf c' nx' := by
  cases x with
  | cells l e => exact fun x hx => AS.wf_ext he hle (h x hx)
  | row l e z => exact fun x hx => AS.wf_ext he hle (h x hx)
  | map es cl => exact fun e hx => ⟨AW.wf_ext he hle (h e hx).1, AW.wf_ext he hle (h e hx).2⟩
  | iter m a l b => exact fun i hi => Nat.lt_of_lt_of_le (h i hi) hle

/-- What an object says of the block that it stands for. -/
def ObjRel (c : Cx) (id : Nat) (o : AObj) (ob : Option Obj) : Prop :=
  match o with
  | .cells l e => ob = some (.cells (l.map (AS.conc c)).toArray e (0, 0))
  | .row l e z => ∃ cur, ob = some (.cells cur e (0, 0)) ∧ c.κ id ≤ maxLen ∧ cur.size = c.κ id * z ∧ cur.toList.take l.length = l.map (AS.conc c)
  | .map es clock => ob = some (.map (es.map (AEnt.conc c)).toArray clock)
  | .iter m since seen stepped => ob = some (.mapIter (m.map c.ι) since seen.toArray stepped)
theorem ObjRel.some {c : Cx} {id : Nat} {o : AObj} {ob : Option Obj} (h : ObjRel c id o ob) : ob.isSome = true := by
  cases o with
  | cells l e => simp only [ObjRel] at h; subst h; rfl
  | row l e z => obtain ⟨cur, h, _⟩ := h; subst h; rfl
  | map es cl => simp only [ObjRel] at h; subst h; rfl
  | iter m a l b => simp only [ObjRel] at h; subst h; rfl
theorem ObjRel.ext {nx : Nat} {c c' : Cx} (he : Cx.Ext nx c c') {id : Nat} (hi : id < nx) {o : AObj} (hw : o.wf c nx) {ob : Option Obj} (h : ObjRel c id o ob) : ObjRel c' id o ob := by
  cases o with
  | cells l e => simp only [ObjRel] at h ⊢; rw [concL_ext he hw]; exact h
  | row l e z =>
    obtain ⟨cur, h1, h2, h3, h4⟩ := h
    refine ⟨cur, h1, ?_, ?_, ?_⟩
    · rw [he.κ id hi]; exact h2
    · rw [he.κ id hi]; exact h3
    · rw [concL_ext he hw]; exact h4
  | map es cl =>
    simp only [ObjRel] at h ⊢
    rw [List.map_congr_left fun e hx => (show AEnt.conc c' e = AEnt.conc c e by
      simp only [AEnt.conc, AW.conc_ext he (hw e hx).1, AW.conc_ext he (hw e hx).2])]
    exact h
  | iter m a l b =>
    simp only [ObjRel] at h ⊢
    cases m with
    | none => exact h
    | some i => simp only [Option.map_some, he.ι i (hw i rfl)] at h ⊢; exact h

def S.at (s : S) (id : Nat) : Option AObj := s.h.get (Nat.succ id)

/-- A state stands for a world. -/
structure Rel (c : Cx) (s : S) (w : World) : Prop where
  sat : Sat c.σ s.φ
  lt : ∀ id o, s.at id = some o → id < s.nx
  wf : ∀ id o, s.at id = some o → o.wf c s.nx
  obj : ∀ id o, s.at id = some o → ObjRel c id o (w.heap[c.ι id]?)
  inj : ∀ id id' o o', s.at id = some o → s.at id' = some o' → c.ι id = c.ι id' → id = id'
theorem Rel.ι_lt {c : Cx} {s : S} {w : World} (h : Rel c s w) {id : Nat} {o : AObj} (ho : s.at id = some o) : c.ι id < w.heap.size := by
  have := (h.obj id o ho).some
  rcases Nat.lt_or_ge (c.ι id) w.heap.size with hh | hh
  · exact hh
  · rw [Array.getElem?_eq_none hh] at this; cases this

/-- One world goes over into another one, as one state into another one. -/
structure Step (c c' : Cx) (s s' : S) (w w' : World) : Prop where
  ext : Cx.Ext s.nx c c'
  nx : s.nx ≤ s'.nx
  os : w'.os = w.os
  tape : w'.tape = w.tape
  output : w'.output = w.output
  size : w.heap.size ≤ w'.heap.size
  frame : ∀ b, b < w.heap.size → (∀ id o, s.at id = some o → c.ι id ≠ b) → w'.heap[b]? = w.heap[b]?
  anew : ∀ id o, s'.at id = some o → w.heap.size ≤ c'.ι id ∨ ∃ id0 o0, s.at id0 = some o0 ∧ c.ι id0 = c'.ι id
theorem Step.refl (c : Cx) (s : S) (w : World) : Step c c s s w w :=
  ⟨.refl _ _, Nat.le_refl _, rfl, rfl, rfl, Nat.le_refl _, fun _ _ _ => rfl, fun id o h => .inr ⟨id, o, h, rfl⟩⟩
theorem Step.trans {c c1 c2 : Cx} {s s1 s2 : S} {w w1 w2 : World} (h : Step c c1 s s1 w w1) (h' : Step c1 c2 s1 s2 w1 w2) : Step c c2 s s2 w w2 := by
  refine ⟨h.ext.trans h'.ext h.nx, Nat.le_trans h.nx h'.nx, h'.os.trans h.os, h'.tape.trans h.tape, h'.output.trans h.output, Nat.le_trans h.size h'.size, ?_, ?_⟩
  · intro b hb hnot
    rw [h'.frame b (Nat.lt_of_lt_of_le hb h.size) ?_, h.frame b hb hnot]
    intro id o ho heq
    rcases h.anew id o ho with hn | ⟨id0, o0, h0, e0⟩
    · omega
    · exact hnot id0 o0 h0 (e0.trans heq)
  · intro id o ho
    rcases h'.anew id o ho with hn | ⟨id1, o1, h1, e1⟩
    · exact .inl (Nat.le_trans h.size hn)
    · rcases h.anew id1 o1 h1 with hn | ⟨id0, o0, h0, e0⟩
      · exact .inl (by omega)
      · exact .inr ⟨id0, o0, h0, e0.trans e1⟩
/-- a draw -/
def World.drewBy (w : World) (n : Nat) : World := { w with drawn := n }
theorem Rel.drewBy {c : Cx} {s : S} {w : World} (h : Rel c s w) (n : Nat) : Rel c s (World.drewBy w n) := ⟨h.sat, h.lt, h.wf, h.obj, h.inj⟩
theorem Step.drewBy (c : Cx) (s : S) (w : World) (n : Nat) : Step c c s s w (World.drewBy w n) :=
  ⟨.refl _ _, Nat.le_refl _, rfl, rfl, rfl, Nat.le_refl _, fun _ _ _ => rfl, fun id o h => .inr ⟨id, o, h, rfl⟩⟩
/-- other facts alone -/
theorem Rel.facts {c : Cx} {s : S} {w : World} (h : Rel c s w) {φ : Phi} (hs : Sat c.σ φ) : Rel c ⟨s.h, s.nx, φ⟩ w := ⟨hs, h.lt, h.wf, h.obj, h.inj⟩
theorem Step.facts (c : Cx) (s : S) (w : World) (φ : Phi) : Step c c s ⟨s.h, s.nx, φ⟩ w w :=
  ⟨.refl _ _, Nat.le_refl _, rfl, rfl, rfl, Nat.le_refl _, fun _ _ _ => rfl, fun id o h => .inr ⟨id, o, h, rfl⟩⟩

/-- Below all of a state's blocks: what was there when nothing was named stays. -/
theorem Step.below {c c' : Cx} {s s' : S} {w w' : World} (h : Step c c' s s' w w') (hno : ∀ id, s.at id = none) : Go.RowKit.Below w.heap.size w w' :=
  ⟨h.os, h.tape, h.output, h.size, fun k hk => h.frame k hk (fun id o ho => by rw [hno id] at ho; cases ho)⟩

/-! a new object -/
def S.new (s : S) (o : AObj) : S := ⟨s.h.set (some o) (Nat.succ s.nx), Nat.succ s.nx, s.φ⟩
def Cx.setι (c : Cx) (id b : Nat) : Cx := ⟨fun i => if i = id then b else c.ι i, c.κ, c.σ⟩
def Cx.set2 (c : Cx) (id b n : Nat) : Cx := ⟨fun i => if i = id then b else c.ι i, fun i => if i = id then n else c.κ i, c.σ⟩
theorem Cx.set2_ext (c : Cx) (nx b n : Nat) : Cx.Ext nx c (c.set2 nx b n) := ⟨rfl, fun id h => by simp [Cx.set2]; omega, fun id h => by simp [Cx.set2]; omega⟩
theorem S.at_new (s : S) (o : AObj) (id : Nat) : (s.new o).at id = if id = s.nx then some o else s.at id := by
  simp only [S.at, S.new]
  rw [Tree.get_set _ _ _ _ (by omega) (by omega)]
  simp
theorem Rel.new {c : Cx} {s : S} {w : World} (h : Rel c s w) {o : AObj} {ob : Obj} {n : Nat} (hw : o.wf (c.set2 s.nx w.heap.size n) (s.nx + 1))
    (ho : ObjRel (c.set2 s.nx w.heap.size n) s.nx o (some ob)) : Rel (c.set2 s.nx w.heap.size n) (s.new o) (w.alloc ob) := by
  have he := Cx.set2_ext c s.nx w.heap.size n
  have hin : (c.set2 s.nx w.heap.size n).ι s.nx = w.heap.size := by simp [Cx.set2]
  have hnew : (w.alloc ob).heap[w.heap.size]? = some ob := heap_alloc_new w ob
  have hold : ∀ b, b < w.heap.size → (w.alloc ob).heap[b]? = w.heap[b]? := fun b hb => heap_alloc_old w ob hb
  refine ⟨h.sat, ?_, ?_, ?_, ?_⟩
  · intro id o' ho'
    rw [S.at_new] at ho'
    split at ho'
    · rename_i e; subst e; show s.nx < s.nx + 1; omega
    · have := h.lt id o' ho'; show id < s.nx + 1; omega
  · intro id o' ho'
    rw [S.at_new] at ho'
    split at ho'
    · injection ho' with e; subst e; exact hw
    · exact AObj.wf_ext he (by show s.nx ≤ s.nx + 1; omega) (h.wf id o' ho')
  · intro id o' ho'
    rw [S.at_new] at ho'
    split at ho'
    · rename_i e; subst e
      injection ho' with e; subst e
      rw [hin, hnew]; exact ho
    · have hlt := h.lt id o' ho'
      rw [he.ι id hlt, hold _ (h.ι_lt ho')]
      exact ObjRel.ext he hlt (h.wf id o' ho') (h.obj id o' ho')
  · intro id id' o1 o2 h1 h2 e
    rw [S.at_new] at h1 h2
    split at h1 <;> split at h2
    · omega
    · rename_i e1 e2
      subst e1
      have := h.ι_lt h2
      rw [hin, he.ι id' (h.lt id' o2 h2)] at e
      omega
    · rename_i e1 e2
      subst e2
      have := h.ι_lt h1
      rw [hin, he.ι id (h.lt id o1 h1)] at e
      omega
    · rw [he.ι id (h.lt id o1 h1), he.ι id' (h.lt id' o2 h2)] at e
      exact h.inj id id' o1 o2 h1 h2 e
theorem Step.new {c : Cx} {s : S} {w : World} (o : AObj) (ob : Obj) (n : Nat) : Step c (c.set2 s.nx w.heap.size n) s (s.new o) w (w.alloc ob) := by
  have he := Cx.set2_ext c s.nx w.heap.size n
  refine ⟨he, by show s.nx ≤ s.nx + 1; omega, rfl, rfl, rfl, by simp, fun b hb _ => heap_alloc_old w ob hb, ?_⟩
  intro id o' ho'
  rw [S.at_new] at ho'
  split at ho'
  · rename_i e; subst e
    left; simp [Cx.set2]
  · rename_i hne
    right
    exact ⟨id, o', ho', by simp [Cx.set2, hne]⟩

/-! a changed object -/
def S.upd (s : S) (id : Nat) (o : AObj) : S := ⟨s.h.set (some o) (Nat.succ id), s.nx, s.φ⟩
theorem S.at_upd (s : S) (id : Nat) (o : AObj) (id' : Nat) : (s.upd id o).at id' = if id' = id then some o else s.at id' := by
  simp only [S.at, S.upd]
  rw [Tree.get_set _ _ _ _ (by omega) (by omega)]
  simp
def World.putObj (w : World) (b : Nat) (o : Obj) : World := { w with heap := w.heap.setIfInBounds b o }
theorem Rel.upd {c : Cx} {s : S} {w w' : World} (h : Rel c s w) {id : Nat} {o0 o : AObj} (h0 : s.at id = some o0) (hw : o.wf c s.nx)
    (ho : ObjRel c id o (w'.heap[c.ι id]?)) (hother : ∀ b, b ≠ c.ι id → w'.heap[b]? = w.heap[b]?) : Rel c (s.upd id o) w' := by
  refine ⟨h.sat, ?_, ?_, ?_, ?_⟩
  · intro id' o' ho'
    rw [S.at_upd] at ho'
    split at ho'
    · rename_i e; subst e; exact h.lt _ _ h0
    · exact h.lt _ _ ho'
  · intro id' o' ho'
    rw [S.at_upd] at ho'
    split at ho'
    · injection ho' with e; subst e; exact hw
    · exact h.wf _ _ ho'
  · intro id' o' ho'
    rw [S.at_upd] at ho'
    split at ho'
    · rename_i e; subst e
      injection ho' with e; subst e; exact ho
    · rename_i hne
      rw [hother _ (fun e => hne (h.inj _ _ _ _ ho' h0 e))]
      exact h.obj _ _ ho'
  · intro id1 id2 o1 o2 h1 h2 e
    rw [S.at_upd] at h1 h2
    have g1 : ∃ x, s.at id1 = some x := by split at h1; · rename_i e; subst e; exact ⟨_, h0⟩
                                           · exact ⟨_, h1⟩
    have g2 : ∃ x, s.at id2 = some x := by split at h2; · rename_i e; subst e; exact ⟨_, h0⟩
                                           · exact ⟨_, h2⟩
    obtain ⟨x1, g1⟩ := g1; obtain ⟨x2, g2⟩ := g2
    exact h.inj _ _ _ _ g1 g2 e
theorem Step.upd {c : Cx} {s : S} {w w' : World} {id : Nat} {o0 : AObj} (o : AObj) (h0 : s.at id = some o0) (hos : w'.os = w.os) (ht : w'.tape = w.tape) (hou : w'.output = w.output)
    (hsz : w.heap.size ≤ w'.heap.size) (hother : ∀ b, b ≠ c.ι id → w'.heap[b]? = w.heap[b]?) : Step c c s (s.upd id o) w w' := by
  refine ⟨.refl _ _, Nat.le_refl _, hos, ht, hou, hsz, ?_, ?_⟩
  · intro b hb hnot
    exact hother b (fun e => hnot id o0 h0 e.symm)
  · intro id' o' ho'
    rw [S.at_upd] at ho'
    split at ho'
    · rename_i e; subst e; exact .inr ⟨_, _, h0, rfl⟩
    · exact .inr ⟨_, _, ho', rfl⟩

end
end Go.Sy

/-! The symbolic executor, part G: operations. -/
namespace Go.Sy
noncomputable section

inductive AX where
  | t (n : Nat)
  | c (v : AV)

/-- operations that look at their operands alone -/
inductive POp where
  | mv (x : AX)
  | pick (c a b : AX)
  | build (zero : List AS) (parts : List (Nat × Nat × AX))
  | nilCheck (x : AX)
  | ar (o : Nat) (x y : AX)
  | dv (x y : AX)
  | md (x y : AX)
  | bt (o : Nat) (x y : AX)
  | shl (x y : AX)
  | sr (x y : AX)
  | not (x : AX)
  | conv (k : IntKind) (x : AX)
  | mkiface (t : Nat) (x : AX)
  | mkfunc (f : Nat) (caps : List AX)
  | slice (z : Nat) (x : AX) (lo hi : Option AX)
  | aslice (n z : Nat) (x : AX) (lo hi : Option AX)
  | faddr (off : Nat) (x : AX)
  | field (n : Option Nat) (off : Nat) (x : AX)
  | iaddrS (z : Nat) (x i : AX)
  | iaddrA (len z : Nat) (x i : AX)
  | index (n : Option Nat) (len z : Nat) (x i : AX)
  | ext (x : AX) (i : Nat)
  | len (x : AX)
  | tassert (t : Nat) (zero : AW) (x : AX)
  | s2a (n : Nat) (x : AX)
  | slice3 (x hi mx : AX)
  | sidx (l : List Nat) (i : AX)
  | stuck

/-- key types: an integer; a row of integers; a struct of these (place, type, kind) -/
inductive KT1 where
  | int (k : IntKind)
  | arr (n : Nat) (e : TypeId) (k : IntKind)
inductive KT where
  | one (x : KT1)
  | str (fs : List (Nat × TypeId × KT1))

/-- operations that read memory -/
inductive ROp where
  | load (n : Option Nat) (a : AX)
  | lookup (kt : KT) (zero : AW) (x k : AX) (ok : Bool)
  | mlen (x : AX)
  | cstr (x : AX)

/-- operations that make a block, and no more -/
inductive MOp where
  | alloc (e : TypeId) (zero : List AS)
  | box (e : TypeId) (x : AX)
  | bslice (e : TypeId) (len : Nat) (zero : List AS) (parts : List (Nat × Nat × AX))
  | mkmap
  | mkslice (e : TypeId) (bytes : Nat) (zero : List AS) (n c : AX)

/-- what is compared -/
inductive CTag where
  | int | bool | ptr | slice | map | fn | iface
  | agg (k : KT)
  | str

/-- all others -/
inductive BOp where
  | store (n : Nat) (a v : AX)
  | mupd (kt : KT) (m k v : AX)
  | del (kt : KT) (m k : AX)
  | append (e : TypeId) (z bytes : Nat) (s x : AX)
  | appendz (e : TypeId) (z bytes : Nat) (zero : List AS) (s n : AX)
  | copy (z : Nat) (d s : AX)
  | call (f : Nat) (args : List AX)
  | callv (f : AX) (args : List AX)
  | panic (x : AX)
  | cmp (o : Nat) (g : CTag) (x y : AX)
  | mm (max : Bool) (x y : AX)
  | range (x : AX)
  | next (it : AX)
  | entry (it : AX)

inductive AOp where
  | p (o : POp)
  | r (o : ROp)
  | m (o : MOp)
  | b (o : BOp)

structure AOper where
  dst : Option Nat
  op : AOp
  guard : Option (Nat × Bool)

/-! pieces of values -/
abbrev Tmps := Tree AV
def ev (t : Tmps) (x : AX) : Option AV := match x with | .t n => t.get (Nat.succ n) | .c v => some v
def asS (v : AV) : Option AS := match v with | .w (.s x) => some x | _ => none
def asAggA (v : AV) : Option (List AS) := match v with | .w (.agg l) => some l | _ => none
def cellsA (v : AV) : Option (List AS) := match v with | .w (.s x) => some (.cons x .nil) | .w (.agg l) => some l | _ => none
def asIntA (v : AV) : Option (IntKind × Tm) := match v with | .w (.s (.int k t)) => some (k, t) | _ => none
def asBoolA (v : AV) : Option Bool := match v with | .w (.s (.bool b)) => some b | _ => none
def asNatA (v : AV) : Option Nat := match v with | .w (.s (.int _ (.lit (.ofNat n)))) => some n | _ => none
def asPtrA (v : AV) : Option (Nat × Nat) := match v with | .w (.s (.ptr a b)) => some (a, b) | _ => none
def asMapA (v : AV) : Option Nat := match v with | .w (.s (.map a)) => some a | _ => none
def vInt (k : IntKind) (t : Tm) : AV := .w (.s (.int k t))
def vBool (b : Bool) : AV := .w (.s (.bool b))
def ckB {β : Type} (b : Bool) (d k : β) : β := match b with | true => k | false => d

/-- over a row of cells, from a place on, other ones -/
def lset (l : List AS) : Nat → List AS → List AS :=
  List.rec (fun _ _ => []) (fun x l ih n xs => Nat.casesOn n (List.casesOn xs (x :: l) fun y ys => y :: ih 0 ys) fun n => x :: ih n xs) l
def lsetK {β : Type} (l : List AS) : Nat → List AS → (List AS → β) → β :=
  List.rec (fun _ _ k => k []) (fun x l ih n xs k => Nat.casesOn n (List.casesOn xs (k (x :: l)) fun y ys => ih 0 ys fun l' => k (y :: l')) fun n => ih n xs fun l' => k (x :: l')) l
theorem lset_nil (n : Nat) (xs : List AS) : lset [] n xs = [] := by cases n <;> cases xs <;> rfl
theorem lset_zero_nil (x : AS) (l : List AS) : lset (x :: l) 0 [] = x :: l := rfl
theorem lset_zero_cons (x y : AS) (l ys : List AS) : lset (x :: l) 0 (y :: ys) = y :: lset l 0 ys := rfl
theorem lset_succ (x : AS) (l : List AS) (n : Nat) (xs : List AS) : lset (x :: l) (n + 1) xs = x :: lset l n xs := by cases xs <;> rfl
theorem lsetK_eq {β : Type} : ∀ (l : List AS) (n : Nat) (xs : List AS) (k : List AS → β), lsetK l n xs k = k (lset l n xs) := by
  intro l
  induction l with
  | nil => intro n xs k; rw [lset_nil]; rfl
  | cons x l ih =>
    intro n xs k
    cases n with
    | zero => cases xs with
      | nil => rfl
      | cons y ys => rw [lset_zero_cons]; show lsetK l 0 ys (fun l' => k (y :: l')) = _; rw [ih]
    | succ n => rw [lset_succ]; show lsetK l n xs (fun l' => k (x :: l')) = _; rw [ih]
theorem lset_eq : ∀ (l : List AS) (n : Nat) (xs : List AS), n + xs.length ≤ l.length → lset l n xs = l.take n ++ xs ++ l.drop (n + xs.length) := by
  intro l
  induction l with
  | nil => intro n xs h; rw [lset_nil]; simp at h; simp [h]
  | cons x l ih =>
    intro n xs h
    cases n with
    | zero => cases xs with
      | nil => rw [lset_zero_nil]; simp
      | cons y ys =>
        rw [lset_zero_cons, ih 0 ys (by simp at h ⊢; omega)]
        simp
    | succ n => rw [lset_succ, ih n xs (by simp at h ⊢; omega)]; simp [Nat.add_right_comm]

/-- all pieces, in order -/
def evL (t : Tmps) (l : List AX) : Option (List AV) := List.rec (some []) (fun x _ ih => optP (ev t x) none fun v => optP ih none fun r => some (v :: r)) l
def fillA (t : Tmps) (ps : List (Nat × Nat × AX)) : List AS → Option (List AS) :=
  List.rec (fun l => some l) (fun p _ ih l => optP (ev t p.2.2) none fun v => optP (cellsA v) none fun xs =>
    ckB (and2 (Nat.beq (llen xs) p.2.1) (Nat.ble (Nat.add p.1 p.2.1) (llen l))) none (lsetK l p.1 xs ih)) ps
def capsA (l : List AV) : Option (List (Nat × Nat)) := List.rec (some []) (fun v _ ih => optP (asPtrA v) none fun p => optP ih none fun r => some (p :: r)) l
theorem evL_nil (t : Tmps) : evL t [] = some [] := rfl
theorem evL_cons (t : Tmps) (x : AX) (l : List AX) : evL t (x :: l) = optP (ev t x) none fun v => optP (evL t l) none fun r => some (v :: r) := rfl
theorem fillA_nil (t : Tmps) (l : List AS) : fillA t [] l = some l := rfl
theorem fillA_cons (t : Tmps) (p : Nat × Nat × AX) (ps : List (Nat × Nat × AX)) (l : List AS) : fillA t (p :: ps) l =
    optP (ev t p.2.2) none fun v => optP (cellsA v) none fun xs =>
      ckB (and2 (Nat.beq (llen xs) p.2.1) (Nat.ble (Nat.add p.1 p.2.1) (llen l))) none (lsetK l p.1 xs (fillA t ps)) := rfl
theorem capsA_nil : capsA [] = some [] := rfl
theorem capsA_cons (v : AV) (l : List AV) : capsA (v :: l) = optP (asPtrA v) none fun p => optP (capsA l) none fun r => some (p :: r) := rfl

/-! each operation -/
def opPick (t : Tmps) (c a b : AX) : Option AV := optP (ev t c) none fun v => optP (asBoolA v) none fun x => match x with | true => ev t a | false => ev t b
def opBuild (t : Tmps) (zero : List AS) (parts : List (Nat × Nat × AX)) : Option AV := optP (fillA t parts zero) none fun l => some (.w (.agg l))
def opNil (t : Tmps) (x : AX) : Option AV := optP (ev t x) none fun v => match v with | .w (.s (.ptr a b)) => some (.w (.s (.ptr a b))) | .w (.s (.fn a b)) => some (.w (.s (.fn a b))) | _ => none
def int2 (t : Tmps) (x y : AX) (k : IntKind → Tm → Tm → Option AV) : Option AV :=
  optP (ev t x) none fun v => optP (asIntA v) none fun p => optP (ev t y) none fun w => optP (asIntA w) none fun q => ckB (kindEq p.1 q.1) none (k p.1 p.2 q.2)
def opAr (φ : Phi) (t : Tmps) (o : Nat) (x y : AX) : Option AV := int2 t x y fun k a b => some (vInt k (sqL φ (sAr o φ k a b)))
def opDv (φ : Phi) (t : Tmps) (x y : AX) : Option AV := int2 t x y fun k a b => optP (sDiv φ k a b) none fun r => some (vInt k r)
def opMd (φ : Phi) (t : Tmps) (x y : AX) : Option AV := int2 t x y fun k a b => optP (sMod φ a b) none fun r => some (vInt k r)
def opBt (φ : Phi) (t : Tmps) (o : Nat) (x y : AX) : Option AV := int2 t x y fun k a b => some (vInt k (sBits o φ k a b))
def opShl (φ : Phi) (t : Tmps) (x y : AX) : Option AV := optP (ev t x) none fun v => optP (asIntA v) none fun p => optP (ev t y) none fun w => optP (asNatA w) none fun n => some (vInt p.1 (sShl φ p.1 p.2 n))
def opShr (t : Tmps) (x y : AX) : Option AV := optP (ev t x) none fun v => optP (asIntA v) none fun p => optP (ev t y) none fun w => optP (asNatA w) none fun n => some (vInt p.1 (sShr p.1 p.2 n))
def opNot (t : Tmps) (x : AX) : Option AV := optP (ev t x) none fun v => optP (asBoolA v) none fun b => some (vBool (bnot b))
def opConv (φ : Phi) (t : Tmps) (k : IntKind) (x : AX) : Option AV := optP (ev t x) none fun v => optP (asIntA v) none fun p => some (vInt k (sqL φ (sConv φ k p.2)))
def opMkif (t : Tmps) (ty : Nat) (x : AX) : Option AV := optP (ev t x) none fun v => match v with | .w (.agg []) => some (.w (.s (.iface ty))) | _ => none
def opMkfn (t : Tmps) (f : Nat) (caps : List AX) : Option AV := optP (evL t caps) none fun l => optP (capsA l) none fun r => some (.w (.s (.fn f r)))
/-- a bound of a slice: what is named; or what it is by itself -/
def bound (t : Tmps) (x : Option AX) (d : Nat) : Option Nat := match x with | none => some d | some x => optP (ev t x) none asNatA
def sliceA (z id off len : Nat) (cap : ACap) (l h : Nat) : Option AV := ckB (Nat.ble l h) none (match cap with
  | .ex n => ckB (Nat.ble h n) none (some (.w (.s (.slice id (match Nat.beq n l with | true => off | false => Nat.add off (Nat.mul l z)) (Nat.sub h l) (.ex (Nat.sub n l))))))
  | .op d => ckB (Nat.ble h len) none (match Nat.beq l 0 with
    | true => some (.w (.s (.slice id off h (.op d))))
    | false => ckB (Nat.ble (Nat.succ l) len) none (some (.w (.s (.slice id (Nat.add off (Nat.mul l z)) (Nat.sub h l) (.op (Nat.add d l))))))))
def opSlice (t : Tmps) (z : Nat) (x : AX) (lo hi : Option AX) : Option AV := optP (ev t x) none fun v => optP (asS v) none fun s => match s with
  | .slice id off len cap => optP (bound t lo 0) none fun l => optP (bound t hi len) none fun h => sliceA z id off len cap l h
  | .nils => optP (bound t lo 0) none fun l => optP (bound t hi 0) none fun h => ckB (and2 (Nat.beq l 0) (Nat.beq h 0)) none (some (.w (.s .nils)))
  | _ => none
def opASlice (t : Tmps) (n z : Nat) (x : AX) (lo hi : Option AX) : Option AV := optP (ev t x) none fun v => optP (asPtrA v) none fun p =>
  optP (bound t lo 0) none fun l => optP (bound t hi n) none fun h => sliceA z p.1 p.2 n (.ex n) l h
def opFaddr (t : Tmps) (off : Nat) (x : AX) : Option AV := optP (ev t x) none fun v => optP (asPtrA v) none fun p => some (.w (.s (.ptr p.1 (Nat.add p.2 off))))
def partA (n : Option Nat) (l : List AS) (off : Nat) : Option AV := match n with
  | none => optP (lget l off) none fun x => some (.w (.s x))
  | some k => some (.w (.agg (ltake (ldrop l off) k)))
def opField (t : Tmps) (n : Option Nat) (off : Nat) (x : AX) : Option AV := optP (ev t x) none fun v => optP (asAggA v) none fun l => partA n l off
def opIaddrS (t : Tmps) (z : Nat) (x i : AX) : Option AV := optP (ev t x) none fun v => optP (asS v) none fun s => match s with
  | .slice id off len _ => optP (ev t i) none fun w => optP (asNatA w) none fun i => ckB (Nat.ble (Nat.succ i) len) none (some (.w (.s (.ptr id (Nat.add off (Nat.mul i z))))))
  | _ => none
def opIaddrA (t : Tmps) (len z : Nat) (x i : AX) : Option AV := optP (ev t x) none fun v => optP (asPtrA v) none fun p =>
  optP (ev t i) none fun w => optP (asNatA w) none fun i => ckB (Nat.ble (Nat.succ i) len) none (some (.w (.s (.ptr p.1 (Nat.add p.2 (Nat.mul i z))))))
def opIndex (t : Tmps) (n : Option Nat) (len z : Nat) (x i : AX) : Option AV := optP (ev t x) none fun v => optP (asAggA v) none fun l =>
  optP (ev t i) none fun w => optP (asNatA w) none fun i => ckB (Nat.ble (Nat.succ i) len) none (partA n l (Nat.mul i z))
def opExt (t : Tmps) (x : AX) (i : Nat) : Option AV := optP (ev t x) none fun v => match v with | .tup l => optP (lget l i) none fun x => some (.w x) | _ => none
def opLen (t : Tmps) (x : AX) : Option AV := optP (ev t x) none fun v => optP (asS v) none fun s => match s with
  | .slice _ _ len _ => some (vInt .i64 (.lit (.ofNat len)))
  | .nils => some (vInt .i64 (.lit (.ofNat 0)))
  | _ => none
def opTass (t : Tmps) (ty : Nat) (zero : AW) (x : AX) : Option AV := optP (ev t x) none fun v => optP (asS v) none fun s => match s with
  | .iface ty' => (match Nat.beq ty' ty with | true => some (.tup [.agg [], .s (.bool true)]) | false => some (.tup [zero, .s (.bool false)]))
  | .niliface => some (.tup [zero, .s (.bool false)])
  | _ => none

def opS2a (t : Tmps) (n : Nat) (x : AX) : Option AV := optP (ev t x) none fun v => optP (asS v) none fun s => match s with
  | .slice id off len _ => ckB (Nat.ble n len) none (some (.w (.s (.ptr id off))))
  | _ => none
/-- from the beginning up to a place, with room up to another one -/
def opSlice3 (t : Tmps) (x hi mx : AX) : Option AV := optP (ev t x) none fun v => optP (asS v) none fun s => optP (ev t hi) none fun hv => optP (asNatA hv) none fun h => optP (ev t mx) none fun mv => optP (asNatA mv) none fun m => ckB (Nat.ble h m) none (match s with
  | .slice id off len cap => ckB (Nat.ble m (match cap with | .ex n => n | .op _ => len)) none (some (.w (.s (.slice id off h (.ex m)))))
  | .nils => ckB (Nat.beq m 0) none (some (.w (.s .nils)))
  | _ => none)
/-- a byte of a text that is known -/
def opSidx (t : Tmps) (l : List Nat) (i : AX) : Option AV := optP (ev t i) none fun w => optP (asNatA w) none fun i => optP (lget l i) none fun b => ckB (Nat.ble b 255) none (some (vInt .u8 (.lit (.ofNat b))))
def pureOp (φ : Phi) (t : Tmps) (o : POp) : Option AV := match o with
  | .mv x => ev t x
  | .pick c a b => opPick t c a b
  | .build z ps => opBuild t z ps
  | .nilCheck x => opNil t x
  | .ar o x y => opAr φ t o x y
  | .dv x y => opDv φ t x y
  | .md x y => opMd φ t x y
  | .bt o x y => opBt φ t o x y
  | .shl x y => opShl φ t x y
  | .sr x y => opShr t x y
  | .not x => opNot t x
  | .conv k x => opConv φ t k x
  | .mkiface ty x => opMkif t ty x
  | .mkfunc f cs => opMkfn t f cs
  | .slice z x lo hi => opSlice t z x lo hi
  | .aslice n z x lo hi => opASlice t n z x lo hi
  | .faddr off x => opFaddr t off x
  | .field n off x => opField t n off x
  | .iaddrS z x i => opIaddrS t z x i
  | .iaddrA len z x i => opIaddrA t len z x i
  | .index n len z x i => opIndex t n len z x i
  | .ext x i => opExt t x i
  | .len x => opLen t x
  | .tassert ty z x => opTass t ty z x
  | .s2a n x => opS2a t n x
  | .slice3 x hi mx => opSlice3 t x hi mx
  | .sidx l i => opSidx t l i
  | .stuck => none

/-! reading -/
def S.get (s : S) (id : Nat) : Option AObj := match s with | .mk h _ _ => h.get (Nat.succ id)
def cellsOfObj (o : AObj) : Option (List AS) := match o with | .cells l _ => some l | .row l _ _ => some l | .map _ _ => none | .iter _ _ _ _ => none
def takeN (l : List AS) (off k : Nat) : Option (List AS) := ckB (Nat.ble (Nat.add off k) (llen l)) none (some (ltake (ldrop l off) k))
def opLoad (t : Tmps) (s : S) (n : Option Nat) (a : AX) : Option AV := optP (ev t a) none fun v => optP (asPtrA v) none fun p =>
  optP (s.get p.1) none fun o => optP (cellsOfObj o) none fun l => match n with
    | none => optP (lget l p.2) none fun x => some (.w (.s x))
    | some k => optP (takeN l p.2 k) none fun r => some (.w (.agg r))
/-- Are two rows of integers of one shape, and equal? none: not of one shape; some none: not known. -/
def eqStep (d : Option Bool) (r : Option (Option Bool)) : Option (Option Bool) := match d with
  | some true => r
  | some false => (match r with | none => none | some _ => some (some false))
  | none => (match r with | none => none | some (some false) => some (some false) | some _ => some none)
def eqL (φ : Phi) (l : List AS) : List AS → Option (Option Bool) :=
  List.rec (fun m => List.casesOn m (some (some true)) fun _ _ => none)
    (fun x _ ih m => List.casesOn m none fun y m => match x with
      | .int k a => (match y with | .int k' b => ckB (kindEq k k') none (eqStep (dec φ (.eq a b)) (ih m)) | _ => none)
      | _ => none) l
theorem eqL_nil (φ : Phi) (m : List AS) : eqL φ [] m = match m with | [] => some (some true) | _ => none := by cases m <;> rfl
theorem eqL_cons (φ : Phi) (x : AS) (l m : List AS) : eqL φ (x :: l) m = match m with
    | [] => none
    | y :: m => (match x with
      | .int k a => (match y with | .int k' b => ckB (kindEq k k') none (eqStep (dec φ (.eq a b)) (eqL φ l m)) | _ => none)
      | _ => none) := by cases m <;> rfl
def cellsW (x : AW) : List AS := match x with | .s x => [x] | .agg l => l
/-- has a row of cells such a shape? -/
def allInt (k : IntKind) (l : List AS) : Bool := List.rec true (fun x _ ih => match x with | .int k' _ => (match kindEq k k' with | true => ih | false => false) | _ => false) l
theorem allInt_cons (k : IntKind) (x : AS) (l : List AS) : allInt k (x :: l) = match x with | .int k' _ => (match kindEq k k' with | true => allInt k l | false => false) | _ => false := rfl
def kt1Size (x : KT1) : Nat := match x with | .int _ => 1 | .arr n _ _ => n
def kt1Kind (x : KT1) : IntKind := match x with | .int k => k | .arr _ _ k => k
def shape1 (x : KT1) (l : List AS) : Bool := and2 (Nat.beq (llen l) (kt1Size x)) (allInt (kt1Kind x) l)
def shapeS (fs : List (Nat × TypeId × KT1)) : List AS → Nat → Bool :=
  List.rec (fun l _ => List.casesOn l true fun _ _ => false) (fun f _ ih l cur => and2 (and2 (Nat.beq f.1 cur) (shape1 f.2.2 (ltake l (kt1Size f.2.2)))) (ih (ldrop l (kt1Size f.2.2)) (Nat.add cur (kt1Size f.2.2)))) fs
theorem shapeS_nil (l : List AS) (cur : Nat) : shapeS [] l cur = match l with | [] => true | _ => false := by cases l <;> rfl
theorem shapeS_cons (f : Nat × TypeId × KT1) (fs : List (Nat × TypeId × KT1)) (l : List AS) (cur : Nat) : shapeS (f :: fs) l cur =
    and2 (and2 (Nat.beq f.1 cur) (shape1 f.2.2 (ltake l (kt1Size f.2.2)))) (shapeS fs (ldrop l (kt1Size f.2.2)) (Nat.add cur (kt1Size f.2.2))) := rfl
def shapeK (kt : KT) (w : AW) : Bool := match kt with
  | .one (.int k) => (match w with | .s (.int k' _) => kindEq k k' | _ => false)
  | .one (.arr n e k) => (match w with | .agg l => shape1 (.arr n e k) l | _ => false)
  | .str fs => (match w with | .agg l => shapeS fs l 0 | _ => false)
/-- where the entry of a key is -/
def isAggW (x : AW) : Bool := match x with | .s _ => false | .agg _ => true
def eqW (φ : Phi) (x y : AW) : Option Bool := ckB (boolEq (isAggW x) (isAggW y)) none (optP (eqL φ (cellsW x) (cellsW y)) none fun b => b)
def findE (φ : Phi) (k : AW) (es : List AEnt) : Nat → Option (Option (Nat × AEnt)) :=
  List.rec (fun _ => some none) (fun e _ ih i => optP (eqW φ k e.key) none fun b => match b with | true => some (some (i, e)) | false => ih (Nat.succ i)) es
theorem findE_nil (φ : Phi) (k : AW) (i : Nat) : findE φ k [] i = some none := rfl
theorem findE_cons (φ : Phi) (k : AW) (e : AEnt) (es : List AEnt) (i : Nat) : findE φ k (e :: es) i = optP (eqW φ k e.key) none fun b => match b with | true => some (some (i, e)) | false => findE φ k es (Nat.succ i) := rfl
def lookRes (v : AW) (b ok : Bool) : AV := match ok with | true => .tup [v, .s (.bool b)] | false => .w v
def opLook (φ : Phi) (t : Tmps) (s : S) (kt : KT) (zero : AW) (x k : AX) (ok : Bool) : Option AV := optP (ev t x) none fun v => optP (asS v) none fun m => match m with
  | .nilm => optP (ev t k) none fun kv => (match kv with | .w kw => ckB (shapeK kt kw) none (some (lookRes zero false ok)) | _ => none)
  | .map id => optP (s.get id) none fun o => (match o with
    | .map es _ => optP (ev t k) none fun kv => (match kv with
      | .w kw => ckB (shapeK kt kw) none <| optP (findE φ kw es 0) none fun r => (match r with | some (_, e) => some (lookRes e.val true ok) | none => some (lookRes zero false ok))
      | _ => none)
    | _ => none)
  | _ => none
def opMlen (t : Tmps) (s : S) (x : AX) : Option AV := optP (ev t x) none fun v => optP (asS v) none fun m => match m with
  | .nilm => some (vInt .i64 (.lit (.ofNat 0)))
  | .map id => optP (s.get id) none fun o => (match o with | .map es _ => some (vInt .i64 (.lit (.ofNat (llen es)))) | _ => none)
  | _ => none
def bytesA (l : List AS) : Option (List Tm) := List.rec (some []) (fun x _ ih => match x with | .int .u8 t => optP ih none fun r => some (t :: r) | _ => none) l
def opCstr (t : Tmps) (s : S) (x : AX) : Option AV := optP (ev t x) none fun v => optP (asS v) none fun m => match m with
  | .nils => some (.str [])
  | .slice id off len _ => optP (s.get id) none fun o => optP (cellsOfObj o) none fun l => optP (takeN l off len) none fun r => optP (bytesA r) none fun b => some (.str b)
  | _ => none
def readOp (t : Tmps) (s : S) (o : ROp) : Option AV := match o with
  | .load n a => opLoad t s n a
  | .lookup kt z x k ok => (match s with | .mk _ _ φ => opLook φ t s kt z x k ok)
  | .mlen x => opMlen t s x
  | .cstr x => opCstr t s x

/-! making -/
def repA (zero : List AS) (n : Nat) : List AS :=
  Nat.rec [] (fun _ ih => lapp zero ih) n
theorem repA_zero (zero : List AS) : repA zero 0 = [] := rfl
theorem repA_succ (zero : List AS) (n : Nat) : repA zero (n + 1) = lapp zero (repA zero n) := rfl
/-- the object that is made, and what is answered -/
def makeOp (t : Tmps) (nx : Nat) (o : MOp) : Option (AObj × AV) := match o with
  | .alloc e z => some (.cells z e, .w (.s (.ptr nx 0)))
  | .box e x => optP (ev t x) none fun v => optP (cellsA v) none fun l => some (.cells l e, .w (.s (.ptr nx 0)))
  | .bslice e n z ps => optP (fillA t ps (repA z n)) none fun l => some (.cells l e, .w (.s (.slice nx 0 n (.ex n))))
  | .mkmap => some (.map [] 0, .w (.s (.map nx)))
  | .mkslice e bytes z n c => optP (ev t n) none fun v => optP (asNatA v) none fun n => optP (ev t c) none fun v => optP (asNatA v) none fun c =>
      ckB (and2 (Nat.ble n c) (and2 (Nat.ble c 1048576) (Nat.ble bytes 1048576))) none (some (.cells (repA z c) e, .w (.s (.slice nx 0 n (.ex c)))))

end
end Go.Sy

/-! The symbolic executor, part H: the model's operations turned into the executor's; those that look at operands alone are sound. -/
namespace Go.Sy
noncomputable section

/-! types -/
structure TyA where
  desc : TypeDesc
  size : Nat
  bytes : Nat
  zero : AW
  plain : Bool
abbrev TyT := TypeId → Option TyA
structure TyOk (P : Program) (t : TypeId) (i : TyA) : Prop where
  und : P.underlying t = some i.desc
  info : ∃ inf, P.info? t = some inf ∧ inf.size = i.size ∧ inf.bytes = i.bytes ∧ ∃ z, inf.zero = some z ∧ ∀ c, i.zero.conc c = z
  zero : ∀ c nx, i.zero.wf c nx
  len : (cellsW i.zero).length = i.size
  plain : i.plain = true → P.stoodInHeld t = false ∧ P.eqGuardType P.depth t = false
def TOk (P : Program) (T : TyT) : Prop := ∀ t i, T t = some i → TyOk P t i

section
variable {P : Program} {t : TypeId} {i : TyA} (h : TyOk P t i) (w : World)
include h
theorem TyOk.run_und : (underlying t).run P w = .ok i.desc w := run_underlying h.und w
theorem TyOk.run_size : (sizeOf t).run P w = .ok i.size w := by
  obtain ⟨inf, h1, h2, _⟩ := h.info
  simp [sizeOf, typeInfo, h1, h2]
theorem TyOk.run_zero (c : Cx) : (zeroValue t).run P w = .ok (i.zero.conc c) w := by
  obtain ⟨inf, h1, _, _, z, h2, h3⟩ := h.info
  simp [zeroValue, typeInfo, h1, h2, h3 c]
end
def isAggD (d : TypeDesc) : Bool := match d with | .struct _ => true | .array _ _ => true | _ => false
theorem TyOk.run_isAgg {P : Program} {t : TypeId} {i : TyA} (h : TyOk P t i) (w : World) : (isAgg t).run P w = .ok (isAggD i.desc) w := by
  simp only [isAgg, Sem.run_bind, h.run_und w, Result.andThen_ok]
  cases i.desc <;> rfl

/-! constants, operands -/
def embS (v : Value) : Option AS := match v with
  | .bool b => some (.bool b)
  | .int k n => some (.int k (.lit n))
  | .pointer none => some .nilp
  | .slice none 0 0 => some .nils
  | .map none => some .nilm
  | .nilFunc => some .nilfn
  | .nilIface => some .niliface
  | .string ⟨⟨[]⟩⟩ => some .estr
  | _ => none
def embL : List Value → Option (List AS)
  | [] => some []
  | v :: l => match embS v with | none => none | some x => (match embL l with | none => none | some r => some (x :: r))
def emb (v : Value) : Option AV := match v with
  | .agg cs => (embL cs.toList).map fun l => .w (.agg l)
  | v => (embS v).map fun x => .w (.s x)
theorem embS_spec {v : Value} {x : AS} (h : embS v = some x) (c : Cx) (nx : Nat) : x.conc c = v ∧ x.wf c nx := by
  unfold embS at h
  split at h <;> first | (cases h; done) | (injection h with h; subst h; exact ⟨rfl, trivial⟩)
theorem embL_spec : ∀ {l : List Value} {r : List AS}, embL l = some r → ∀ (c : Cx) (nx : Nat), r.map (AS.conc c) = l ∧ ∀ x ∈ r, x.wf c nx := by
  intro l
  induction l with
  | nil => intro r h c nx; simp [embL] at h; subst h; simp
  | cons v l ih =>
    intro r h c nx
    simp only [embL] at h
    split at h <;> try (simp at h; done)
    rename_i x hx
    split at h <;> try (simp at h; done)
    rename_i r' hr
    injection h with h; subst h
    have h1 := embS_spec hx c nx
    have h2 := ih hr c nx
    refine ⟨by simp [h1.1, h2.1], ?_⟩
    intro y hy
    rcases List.mem_cons.1 hy with rfl | hy
    · exact h1.2
    · exact h2.2 y hy
theorem emb_spec {v : Value} {x : AV} (h : emb v = some x) (c : Cx) (nx : Nat) : x.conc c = v ∧ x.wf c nx := by
  unfold emb at h
  split at h
  · rename_i cs
    cases hl : embL cs.toList with
    | none => rw [hl] at h; cases h
    | some l =>
      rw [hl] at h; injection h with h; subst h
      have := embL_spec hl c nx
      exact ⟨by simp [AV.conc, AW.conc, this.1], this.2⟩
  · rename_i v' _
    cases hl : embS v with
    | none => rw [hl] at h; cases h
    | some l =>
      rw [hl] at h; injection h with h; subst h
      exact embS_spec hl c nx
def embO (x : Operand) : Option AX := match x with
  | .tmp t => some (.t t)
  | .const v => (emb v).map .c
  | .func f => some (.c (.w (.s (.fn f []))))
  | .global _ => none

/-- Slots stand for slots. -/
def TRel (c : Cx) (nx : Nat) (t : Tmps) (a : Array Value) : Prop := ∀ n v, t.get (Nat.succ n) = some v → a.getD n undef = v.conc c ∧ v.wf c nx
theorem TRel.ext {c c' : Cx} {nx nx' : Nat} {t : Tmps} {a : Array Value} (h : TRel c nx t a) (he : Cx.Ext nx c c') (hle : nx ≤ nx') : TRel c' nx' t a := by
  intro n v hv
  have := h n v hv
  exact ⟨by rw [AV.conc_ext he this.2]; exact this.1, AV.wf_ext he hle this.2⟩
theorem TRel.put {c : Cx} {nx : Nat} {t : Tmps} {a : Array Value} (h : TRel c nx t a) {d : Nat} (hd : d < a.size) {v : AV} {val : Value} (hv : val = v.conc c) (hw : v.wf c nx) :
    TRel c nx (t.set (some v) (Nat.succ d)) (a.setIfInBounds d val) := by
  intro n u hu
  rw [Tree.get_set _ _ _ _ (by omega) (by omega)] at hu
  split at hu
  · rename_i e
    have e : n = d := by omega
    subst e
    injection hu with hu; subst hu
    exact ⟨by simp [Array.getD_eq_getD_getElem?, hd, hv], hw⟩
  · rename_i e
    have := h n u hu
    refine ⟨?_, this.2⟩
    rw [← this.1]
    simp only [Array.getD_eq_getD_getElem?]
    rw [Array.getElem?_setIfInBounds_ne (by omega)]

theorem ev_spec {c : Cx} {nx : Nat} {t : Tmps} {a : Act} (h : TRel c nx t a.tmps) {o : Operand} {x : AX} (ho : embO o = some x) {v : AV} (hv : ev t x = some v) :
    a.eval o = v.conc c ∧ v.wf c nx := by
  cases o with
  | tmp n => simp only [embO] at ho; injection ho with ho; subst ho; exact h n v hv
  | const u =>
    simp only [embO] at ho
    cases hu : emb u with
    | none => rw [hu] at ho; cases ho
    | some y =>
      rw [hu] at ho; injection ho with ho; subst ho
      simp only [ev] at hv; injection hv with hv; subst hv
      have := emb_spec hu c nx
      exact ⟨this.1.symm, this.2⟩
  | global g => cases ho
  | func f =>
    simp only [embO] at ho; injection ho with ho; subst ho
    simp only [ev] at hv; injection hv with hv; subst hv
    exact ⟨by simp [AV.conc, AW.conc, AS.conc, Act.eval], by simp [AV.wf, AW.wf, AS.wf]⟩

/-! turning operations -/
def embOpt (x : Option Operand) : Option (Option AX) := match x with | none => some none | some o => (match embO o with | none => none | some x => some (some x))
def embList : List Operand → Option (List AX)
  | [] => some []
  | o :: l => match embO o with | none => none | some x => (match embList l with | none => none | some r => some (x :: r))
/-- the parts of a struct or an array: place, size, operand -/
def compParts (place : Nat → Option (Nat × Nat)) : List (Nat × Operand) → Option (List (Nat × Nat × AX))
  | [] => some []
  | (i, o) :: l => match place i with
    | none => none
    | some (off, size) => (match embO o with | none => none | some x => (match compParts place l with | none => none | some r => some ((off, size, x) :: r)))
def fieldPlaces (T : TyT) : List Field → Option (List (Nat × Nat))
  | [] => some []
  | f :: l => match T f.type with | none => none | some i => (match fieldPlaces T l with | none => none | some r => some ((f.offset, i.size) :: r))
def compBuild (T : TyT) (t : TypeId) (parts : Array (Nat × Operand)) : Option POp := match T t with
  | none => none
  | some i => match i.zero with
    | .s _ => none
    | .agg z => match i.desc with
      | .struct fs => (match fieldPlaces T fs.toList with | none => none | some pl => (compParts (fun i => pl[i]?) parts.toList).map fun ps => .build z ps)
      | .array _ e => (match T e with | none => none | some ie => (compParts (fun i => some (i * ie.size, ie.size)) parts.toList).map fun ps => .build z ps)
      | _ => none
def arCode (op : BinOp) : Option Nat := match op with | .add => some 0 | .sub => some 1 | .mul => some 2 | _ => none
def btCode (op : BinOp) : Option Nat := match op with | .and => some 0 | .or => some 1 | .xor => some 2 | .andNot => some 3 | _ => none
def comp2 (x y : Operand) (k : AX → AX → POp) : Option POp := match embO x with | none => none | some a => (match embO y with | none => none | some b => some (k a b))
def comp1 (x : Operand) (k : AX → POp) : Option POp := match embO x with | none => none | some a => some (k a)
def compBin (op : BinOp) (x y : Operand) : Option POp := match op with
  | .quo => comp2 x y .dv
  | .rem => comp2 x y .md
  | .shl => comp2 x y .shl
  | .shr => comp2 x y .sr
  | op => (match arCode op with
    | some o => comp2 x y (.ar o)
    | none => (match btCode op with | some o => comp2 x y (.bt o) | none => none))
def aggSize (i : TyA) : Option Nat := match isAggD i.desc with | true => some i.size | false => none
def isIface (d : TypeDesc) : Bool := match d with | .interface _ => true | _ => false
def compP (T : TyT) (o : Op) : Option POp := match o with
  | .move x => comp1 x .mv
  | .assign x => comp1 x .mv
  | .pick c a b => (match embO c with | none => none | some c => comp2 a b (.pick c))
  | .build t ps => compBuild T t ps
  | .nilCheck x => comp1 x .nilCheck
  | .binOp op _ x y _ => compBin op x y
  | .unOp u xt x => (match u with
    | .not => comp1 x .not
    | .neg => (match T xt with
      | none => none
      | some i => (match i.desc with | .int k => comp1 x (.ar 1 (.c (vInt k (.lit (.ofNat 0))))) | _ => none))
    | .xor => (match T xt with
      | none => none
      | some i => (match i.desc with | .int k => comp1 x (.bt 2 (.c (vInt k (.lit (match k.signed with | true => .negSucc 0 | false => .ofNat (kmax k)))))) | _ => none))
    | _ => none)
  | .convert src dst x => (match T src, T dst with
    | some _, some d => (match d.desc with | .int k => comp1 x (.conv k) | _ => none)
    | _, _ => none)
  | .makeInterface t x => (match T t with | none => none | some i => (match isIface i.desc with | true => none | false => comp1 x (.mkiface t)))
  | .makeFunc (.func f) first caps => (match first.toList with | [] => (embList caps.toList).map (.mkfunc f) | _ => none)
  | .slice t x none (some hi) (some mx) => (match T t with
    | none => none
    | some i => (match i.desc with
      | .slice e => (match T e, embO x, embO hi, embO mx with | some _, some x, some hi, some mx => some (.slice3 x hi mx) | _, _, _, _ => none)
      | _ => none))
  | .slice t x lo hi none => (match T t with
    | none => none
    | some i => (match i.desc with
      | .array n e => (match T e, embO x, embOpt lo, embOpt hi with | some ie, some x, some lo, some hi => some (.aslice n ie.size x lo hi) | _, _, _, _ => none)
      | .slice e => (match T e, embO x, embOpt lo, embOpt hi with | some ie, some x, some lo, some hi => some (.slice ie.size x lo hi) | _, _, _, _ => none)
      | _ => none))
  | .fieldAddr t x f => (match T t with
    | none => none
    | some i => (match i.desc with
      | .struct fs => (match fs[f]? with
        | none => none
        | some fd => (match T fd.type with | none => none | some fi => (match fi.size with | 0 => none | _ + 1 => comp1 x (.faddr fd.offset))))
      | _ => none))
  | .field t x f => (match T t with
    | none => none
    | some i => (match i.desc with
      | .struct fs => (match fs[f]? with
        | none => none
        | some fd => (match T fd.type with | none => none | some fi => comp1 x (.field (aggSize fi) fd.offset)))
      | _ => none))
  | .indexAddr t x ix => (match T t with
    | none => none
    | some i => (match i.desc with
      | .array n e => (match T e with | none => none | some ie => comp2 x ix (.iaddrA n ie.size))
      | .slice e => (match T e with | none => none | some ie => comp2 x ix (.iaddrS ie.size))
      | _ => none))
  | .index t x ix => (match T t with
    | none => none
    | some i => (match i.desc with
      | .array n e => (match T e with | none => none | some ie => comp2 x ix (.index (aggSize ie) n ie.size))
      | .string => (match x with | .const (.string s) => comp1 ix (.sidx (s.data.toList.map UInt8.toNat)) | _ => none)
      | _ => none))
  | .extract x i => comp1 x (fun x => .ext x i)
  | .sliceToArrayPointer d x => (match T d with
    | none => none
    | some i => (match i.desc with
      | .array n _ => comp1 x (.s2a n)
      | _ => none))
  | .typeAssert x _ t true => (match T t with
    | none => none
    | some i => (match isIface i.desc with | true => none | false => comp1 x (.tassert t i.zero)))
  | .call c => (match c.callee with
    | .builtin .len => (match c.args.toList, c.argTypes.toList with
      | [x], [t] => (match T t with | some i => (match i.desc with | .slice _ => comp1 x .len | _ => none) | none => none)
      | _, _ => none)
    | _ => none)
  | _ => none

/-! what the pieces stand for -/
theorem asS_spec {v : AV} {x : AS} (h : asS v = some x) : v = .w (.s x) := by unfold asS at h; split at h <;> simp_all
theorem asAggA_spec {v : AV} {x : List AS} (h : asAggA v = some x) : v = .w (.agg x) := by unfold asAggA at h; split at h <;> simp_all
theorem asIntA_spec {v : AV} {k : IntKind} {t : Tm} (h : asIntA v = some (k, t)) : v = .w (.s (.int k t)) := by unfold asIntA at h; split at h <;> simp_all
theorem asBoolA_spec {v : AV} {b : Bool} (h : asBoolA v = some b) : v = .w (.s (.bool b)) := by unfold asBoolA at h; split at h <;> simp_all
theorem asNatA_spec {v : AV} {n : Nat} (h : asNatA v = some n) : ∃ k, v = .w (.s (.int k (.lit n))) := by unfold asNatA at h; split at h <;> simp_all
theorem asPtrA_spec {v : AV} {a b : Nat} (h : asPtrA v = some (a, b)) : v = .w (.s (.ptr a b)) := by unfold asPtrA at h; split at h <;> simp_all
theorem cellsA_spec {v : AV} {l : List AS} (h : cellsA v = some l) (c : Cx) (nx : Nat) : (v.conc c).cells = (l.map (AS.conc c)).toArray ∧ (v.wf c nx → ∀ x ∈ l, x.wf c nx) := by
  unfold cellsA at h
  split at h
  · rename_i x
    injection h with h; subst h
    refine ⟨?_, fun hw y hy => by simp at hy; subst hy; exact hw⟩
    have := AS.oneCell c x
    simp only [AV.conc, AW.conc, List.map_cons, List.map_nil]
    cases hx : x.conc c <;> simp_all [Value.cells, Value.oneCell']
  · rename_i l'
    injection h with h; subst h
    exact ⟨rfl, fun hw => hw⟩
  · cases h
theorem ckB_some {α : Type} {b : Bool} {k : Option α} {y : α} (h : ckB b none k = some y) : b = true ∧ k = some y := by cases b <;> simp_all [ckB]

/-- A sound answer of an operation that looks at its operands alone. -/
def PureOk (P : Program) (c : Cx) (nx : Nat) (r : World → Result Next) (v : AV) : Prop := (∀ w, r w = .ok (.value (v.conc c)) w) ∧ v.wf c nx

set_option linter.unusedVariables false
set_option linter.unusedSectionVars false
section
variable {P : Program} {T : TyT} {c : Cx} {nx : Nat} {φ : Phi} {t : Tmps} {a : Act}

theorem comp1_some {x : Operand} {k : AX → POp} {po : POp} (h : comp1 x k = some po) : ∃ y, embO x = some y ∧ po = k y := by
  unfold comp1 at h; split at h <;> simp_all
theorem comp2_some {x y : Operand} {k : AX → AX → POp} {po : POp} (h : comp2 x y k = some po) : ∃ x' y', embO x = some x' ∧ embO y = some y' ∧ po = k x' y' := by
  unfold comp2 at h
  split at h <;> try (simp at h; done)
  split at h <;> simp_all

theorem int2_some {x y : AX} {k : IntKind → Tm → Tm → Option AV} {v : AV} (h : int2 t x y k = some v) :
    ∃ kd p q, ev t x = some (.w (.s (.int kd p))) ∧ ev t y = some (.w (.s (.int kd q))) ∧ k kd p q = some v := by
  unfold int2 at h
  obtain ⟨v1, h1, g1⟩ := optP_some h
  obtain ⟨⟨k1, p⟩, h2, g2⟩ := optP_some g1
  obtain ⟨v2, h3, g3⟩ := optP_some g2
  obtain ⟨⟨k2, q⟩, h4, g4⟩ := optP_some g3
  obtain ⟨h5, g5⟩ := ckB_some g4
  have e1 := asIntA_spec h2; have e2 := asIntA_spec h4
  have e3 : k1 = k2 := kindEq_eq h5
  rw [e1] at h1; rw [e2] at h3
  rw [← e3] at h3
  exact ⟨k1, p, q, h1, h3, g5⟩

theorem bin_run (ρ : Operand → Value) (op : BinOp) (xT : TypeId) (x y : Operand) (yT : TypeId) (hne : op ≠ .eql ∧ op ≠ .neq) (dst : Option Tmp) (ty : TypeId) (pos : String) (af : Array Edge) (g : Option (Nat × Bool)) (w : World) :
    (execOp ρ ⟨dst, .binOp op xT x y yT, ty, pos, af, g⟩).run P w = ((binOp op xT (ρ x) (ρ y)).run P w).andThen fun v w' => .ok (.value v) w' := by
  have : eqGuard op xT x y (ρ x) (ρ y) = pure () := by
    unfold eqGuard
    cases op <;> simp at hne ⊢
  simp only [execOp, this]
  simp


/-- a bound of a slice stands for a bound of a slice -/
theorem bound_run (hr : TRel c nx t a.tmps) {x : Option Operand} {y : Option AX} (hx : embOpt x = some y) {d n : Nat} (hb : bound t y d = some n) :
    (x = none ∧ y = none ∧ n = d) ∨ ∃ o k, x = some o ∧ a.eval o = .int k (n : Int) := by
  cases x with
  | none => simp only [embOpt] at hx; injection hx with hx; subst hx; simp only [bound] at hb; injection hb with hb; exact .inl ⟨rfl, rfl, hb.symm⟩
  | some o =>
    simp only [embOpt] at hx
    split at hx <;> try (simp at hx; done)
    rename_i y' hy
    injection hx with hx; subst hx
    simp only [bound] at hb
    obtain ⟨v, hv, hn⟩ := optP_some hb
    obtain ⟨k, e⟩ := asNatA_spec hn
    subst e
    exact .inr ⟨o, k, rfl, (ev_spec hr hy hv).1⟩
theorem run_sliceBound {k : IntKind} {n m : Nat} {code : BoundsCode} (h : n ≤ m) (w : World) : (Instr.sliceBound (.int k (n : Int)) m code).run P w = .ok n w := by
  simp [Instr.sliceBound, asIntOf, h]
/-- the bounds of a slice expression -/
theorem bounds_run (hr : TRel c nx t a.tmps) {lo hi : Option Operand} {lo' hi' : Option AX} (hlo : embOpt lo = some lo') (hhi : embOpt hi = some hi') {l h len cap : Nat} (isS : Bool)
    (h1 : bound t lo' 0 = some l) (h2 : bound t hi' len = some h) (hlh : l ≤ h) (hhc : h ≤ cap) (hl : hi = none → len ≤ cap) (w : World) :
    (Instr.sliceBounds isS len cap (lo.map a.eval) (hi.map a.eval) none).run P w = .ok (l, h, cap) w := by
  rcases bound_run hr hlo h1 with ⟨rfl, rfl, rfl⟩ | ⟨o1, k1, rfl, e1⟩ <;> rcases bound_run hr hhi h2 with ⟨rfl, rfl, rfl⟩ | ⟨o2, k2, rfl, e2⟩
  · simp [Instr.sliceBounds]
  · simp [Instr.sliceBounds, e2, run_sliceBound hhc]
  · simp [Instr.sliceBounds, e1, run_sliceBound hlh]
  · simp [Instr.sliceBounds, e1, e2, run_sliceBound hlh, run_sliceBound hhc]

theorem addr_add (b off n : Nat) : (⟨b, off, none⟩ : Addr).add n = ⟨b, off + n, none⟩ := by
  unfold Addr.add
  split
  · rename_i h; subst h; rfl
  · rfl

theorem fieldPlaces_spec (hT : TOk P T) (w : World) : ∀ {fs : List Field} {pl : List (Nat × Nat)}, fieldPlaces T fs = some pl →
    (fs.mapM (fun f => do pure (f.offset, ← sizeOf f.type) : Field → Sem (Nat × Nat))).run P w = .ok pl w := by
  intro fs
  induction fs with
  | nil => intro pl h; simp [fieldPlaces] at h; subst h; rfl
  | cons f fs ih =>
    intro pl h
    simp only [fieldPlaces] at h
    split at h <;> try (simp at h; done)
    rename_i i hi
    split at h <;> try (simp at h; done)
    rename_i r hr
    injection h with h; subst h
    simp only [List.mapM_cons, Sem.run_bind, (hT _ _ hi).run_size w, Result.andThen_ok, ih hr, Sem.run_pure]

theorem setRun (cells : Array Value) (vs : List Value) : ∀ (off : Nat), off + vs.length ≤ cells.size →
    (vs.zipIdx.foldl (fun cs (x : Value × Nat) => cs.setIfInBounds (off + x.2) x.1) cells) = (cells.toList.take off ++ vs ++ cells.toList.drop (off + vs.length)).toArray := by
  suffices hh : ∀ (vs : List Value) (k off : Nat) (cells : Array Value), off + k + vs.length ≤ cells.size →
      ((vs.zipIdx k).foldl (fun cs (x : Value × Nat) => cs.setIfInBounds (off + x.2) x.1) cells) = (cells.toList.take (off + k) ++ vs ++ cells.toList.drop (off + k + vs.length)).toArray by
    intro off h
    have := hh vs 0 off cells (by simpa using h)
    simpa using this
  intro vs
  induction vs with
  | nil => intro k off cells h; simp
  | cons v vs ih =>
    intro k off cells h
    simp only [List.length_cons] at h
    rw [List.zipIdx_cons, List.foldl_cons, ih (k + 1) off _ (by simp; omega)]
    apply Array.ext'
    simp only [Array.toList_setIfInBounds]
    rw [List.take_set, List.drop_set]
    have e1 : ¬ (off + (k + 1) + vs.length ≤ off + k) := by omega
    simp only [List.length_cons]
    have e2 : off + (k + 1) = off + k + 1 := by omega
    rw [e2, if_pos (by omega)]
    have e3 : off + k + 1 + vs.length = off + k + (vs.length + 1) := by omega
    rw [e3]
    have e4 : (List.take (off + k + 1) cells.toList).set (off + k) v = List.take (off + k) cells.toList ++ [v] := by
      rw [List.take_succ_eq_append_getElem (by simp; omega), List.set_append]
      simp only [List.length_take, Array.length_toList]
      rw [if_neg (by omega)]
      have : off + k - min (off + k) cells.size = 0 := by omega
      rw [this]; rfl
    rw [e4]
    simp

theorem fill_spec (hr : TRel c nx t a.tmps) {place : Nat → Option (Nat × Nat)} : ∀ {parts : List (Nat × Operand)} {ps : List (Nat × Nat × AX)} {z l : List AS},
    compParts place parts = some ps → fillA t ps z = some l → (∀ x ∈ z, x.wf c nx) →
    Instr.fill place (z.map (AS.conc c)).toArray (parts.map fun (i, x) => (i, a.eval x)) = some (l.map (AS.conc c)).toArray ∧ (∀ x ∈ l, x.wf c nx) ∧ l.length = z.length := by
  intro parts
  induction parts with
  | nil =>
    intro ps z l h1 h2 h3
    simp [compParts] at h1; subst h1
    rw [fillA_nil] at h2; injection h2 with h2; subst h2
    exact ⟨rfl, h3, rfl⟩
  | cons p parts ih =>
    intro ps z l h1 h2 h3
    obtain ⟨i, o⟩ := p
    simp only [compParts] at h1
    split at h1 <;> try (simp at h1; done)
    rename_i off size hp
    split at h1 <;> try (simp at h1; done)
    rename_i x hx
    split at h1 <;> try (simp at h1; done)
    rename_i r hr'
    injection h1 with h1; subst h1
    rw [fillA_cons] at h2
    obtain ⟨v, hv, g1⟩ := optP_some h2
    obtain ⟨xs, hxs, g2⟩ := optP_some g1
    obtain ⟨hc, g3⟩ := ckB_some g2
    obtain ⟨hc1, hc2⟩ := and2_iff.1 hc
    have hc1 := (natBeq_iff _ _).1 hc1
    have hc2 : off + size ≤ llen z := (natBle_iff _ _).1 hc2
    simp only [llen_eq] at hc1 hc2
    rw [lsetK_eq] at g3
    have hev := ev_spec hr hx hv
    have hcl := cellsA_spec hxs c nx
    have hlen : off + xs.length ≤ z.length := by omega
    rw [lset_eq _ _ _ hlen] at g3
    have hwf : ∀ y ∈ z.take off ++ xs ++ z.drop (off + xs.length), y.wf c nx := by
      intro y hy
      simp only [List.mem_append] at hy
      rcases hy with (hy | hy) | hy
      · exact h3 y (List.mem_of_mem_take hy)
      · exact hcl.2 hev.2 y hy
      · exact h3 y (List.mem_of_mem_drop hy)
    have := ih hr' g3 hwf
    refine ⟨?_, this.2.1, ?_⟩
    · simp only [List.map_cons, Instr.fill, hp, hev.1, hcl.1]
      rw [if_neg (by simp; omega)]
      have hset := setRun (z.map (AS.conc c)).toArray (xs.map (AS.conc c)) off (by simp; omega)
      have e : (xs.map (AS.conc c)).toArray.zipIdx = ((xs.map (AS.conc c)).zipIdx).toArray := by simp
      rw [e, List.foldl_toArray, hset]
      rw [← this.1]
      congr 1
      simp [List.map_take, List.map_drop]
    · rw [this.2.2]; simp; omega

theorem part_run (hT : TOk P T) {ty : TypeId} {i : TyA} (hi : T ty = some i) {l : List AS} {off : Nat} {v : AV} (h : partA (aggSize i) l off = some v) (w : World) :
    (part ty (l.map (AS.conc c)).toArray off).run P w = .ok (v.conc c) w ∧ ((∀ x ∈ l, x.wf c nx) → v.wf c nx) := by
  have hi := hT _ _ hi
  unfold part
  simp only [Sem.run_bind, hi.run_isAgg w, Result.andThen_ok]
  unfold aggSize at h
  cases hd : isAggD i.desc with
  | true =>
    simp only [hd, partA] at h
    injection h with h; subst h
    simp only [if_true, Sem.run_bind, hi.run_size w, Result.andThen_ok, Sem.run_pure]
    refine ⟨?_, ?_⟩
    · simp [AV.conc, AW.conc, ltake_eq, ldrop_eq, List.extract_eq_take_drop, List.map_take, List.map_drop]
    · intro hw x hx
      simp only [ltake_eq, ldrop_eq] at hx
      exact hw x (List.mem_of_mem_drop (List.mem_of_mem_take hx))
  | false =>
    simp only [hd, partA] at h
    obtain ⟨x, hx, g⟩ := optP_some h
    injection g with g; subst g
    rw [lget_eq] at hx
    refine ⟨?_, ?_⟩
    · simp [List.getElem?_map, hx, AV.conc, AW.conc]
    · intro hw; exact hw x (List.mem_of_getElem? hx)

theorem embList_spec (hr : TRel c nx t a.tmps) : ∀ {l : List Operand} {xs : List AX} {vs : List AV}, embList l = some xs → evL t xs = some vs →
    l.map a.eval = vs.map (AV.conc c) ∧ ∀ v ∈ vs, v.wf c nx := by
  intro l
  induction l with
  | nil => intro xs vs h1 h2; simp [embList] at h1; subst h1; rw [evL_nil] at h2; injection h2 with h2; subst h2; simp
  | cons o l ih =>
    intro xs vs h1 h2
    simp only [embList] at h1
    split at h1 <;> try (simp at h1; done)
    rename_i x hx
    split at h1 <;> try (simp at h1; done)
    rename_i r hr'
    injection h1 with h1; subst h1
    rw [evL_cons] at h2
    obtain ⟨v, hv, g⟩ := optP_some h2
    obtain ⟨q, hq, g⟩ := optP_some g
    injection g with g; subst g
    have e1 := ev_spec hr hx hv
    have e2 := ih hr' hq
    refine ⟨by simp [e1.1, e2.1], ?_⟩
    intro u hu
    rcases List.mem_cons.1 hu with rfl | hu
    · exact e1.2
    · exact e2.2 u hu
theorem capsA_spec : ∀ {vs : List AV} {ps : List (Nat × Nat)}, capsA vs = some ps → vs.map (AV.conc c) = ps.map (capPtr c) ∧ ((∀ v ∈ vs, v.wf c nx) → ∀ p ∈ ps, p.1 < nx) := by
  intro vs
  induction vs with
  | nil => intro ps h; rw [capsA_nil] at h; injection h with h; subst h; simp
  | cons v vs ih =>
    intro ps h
    rw [capsA_cons] at h
    obtain ⟨⟨x, y⟩, hp, g1⟩ := optP_some h
    obtain ⟨q, hq, g2⟩ := optP_some g1
    injection g2 with g2
    rw [← g2, asPtrA_spec hp]
    have := ih hq
    refine ⟨?_, ?_⟩
    · rw [List.map_cons, List.map_cons, this.1]; rfl
    · intro hw p hp
      rcases List.mem_cons.1 hp with rfl | hp
      · exact hw _ (List.mem_cons_self ..)
      · exact this.2 (fun v hv => hw v (List.mem_cons_of_mem _ hv)) p hp

end
end
end Go.Sy

/-! The symbolic executor, part I: operations that look at their operands alone are sound. -/
namespace Go.Sy
set_option linter.unusedVariables false
set_option linter.unusedSectionVars false
noncomputable section
section
variable {P : Program} {T : TyT} {c : Cx} {nx : Nat} {φ : Phi} {t : Tmps} {a : Act}

theorem run_value (r : Result Value) (v : Value) (w : World) (h : r = .ok v w) : (r.andThen fun v w' => (Result.ok (Next.value v) w' : Result Next)) = .ok (.value v) w := by subst h; rfl
theorem intCode (op : BinOp) (k : IntKind) (x y : Int) {o : Nat} (h : arCode op = some o) (w : World) : (binOp op 0 (.int k x) (.int k y)).run P w = .ok (.int k (k.wrap (arI o x y))) w := by
  cases op <;> simp [arCode] at h <;> subst h <;> simp [binOp, Op.intArith, arI] <;> rfl
theorem btRun (op : BinOp) (k : IntKind) (x y : Int) {o : Nat} (h : btCode op = some o) (w : World) : (binOp op 0 (.int k x) (.int k y)).run P w = .ok (.int k (bitsI o k x y)) w := by
  cases op <;> simp [btCode] at h <;> subst h <;> simp [binOp, Op.intBits, bitsI]
theorem binOp_int_type (op : BinOp) (xT : TypeId) (k k' : IntKind) (x y : Int) : binOp op xT (.int k x) (.int k' y) = binOp op 0 (.int k x) (.int k' y) := by
  cases op <;> simp [binOp]

theorem sound_bin (hr : TRel c nx t a.tmps) (hs : Sat c.σ φ) {op : BinOp} {xT : TypeId} {x y : Operand} {yT : TypeId} {dst : Option Tmp} {ty : TypeId} {pos : String} {af : Array Edge} {g : Option (Nat × Bool)} {po : POp}
    (hc : compBin op x y = some po) {v : AV} (hp : pureOp φ t po = some v) : PureOk P c nx (fun w => (execOp a.eval ⟨dst, .binOp op xT x y yT, ty, pos, af, g⟩).run P w) v := by
  have hne : op ≠ .eql ∧ op ≠ .neq := by
    constructor <;> rintro rfl <;> simp [compBin, arCode, btCode] at hc
  have key : ∀ {x' y' : AX} {k : IntKind} {p q : Tm} {r : Tm}, embO x = some x' → embO y = some y' → ev t x' = some (.w (.s (.int k p))) → ev t y' = some (.w (.s (.int k q))) →
      (∀ w, (binOp op 0 (.int k (p.eval c.σ)) (.int k (q.eval c.σ))).run P w = .ok (.int k (r.eval c.σ)) w) →
      PureOk P c nx (fun w => (execOp a.eval ⟨dst, .binOp op xT x y yT, ty, pos, af, g⟩).run P w) (vInt k r) := by
    intro x' y' k p q r hx hy h1 h2 hh
    refine ⟨fun w => ?_, trivial⟩
    have e1 := (ev_spec hr hx h1).1
    have e2 := (ev_spec hr hy h2).1
    simp only [AV.conc, AW.conc, AS.conc] at e1 e2
    show (execOp a.eval _).run P w = _
    rw [bin_run _ _ _ _ _ _ hne, e1, e2, binOp_int_type, hh w]; rfl
  unfold compBin at hc
  split at hc
  · obtain ⟨x', y', hx, hy, e⟩ := comp2_some hc
    subst e
    obtain ⟨k, p, q, h1, h2, h3⟩ := int2_some (show opDv φ t x' y' = some v from hp)
    obtain ⟨r, h4, h5⟩ := optP_some h3
    injection h5 with h5; subst h5
    have := sDiv_spec hs h4
    refine key hx hy h1 h2 (fun w => ?_)
    rw [this.2]
    simp [binOp, Op.intDiv, this.1]
  · obtain ⟨x', y', hx, hy, e⟩ := comp2_some hc
    subst e
    obtain ⟨k, p, q, h1, h2, h3⟩ := int2_some (show opMd φ t x' y' = some v from hp)
    obtain ⟨r, h4, h5⟩ := optP_some h3
    injection h5 with h5; subst h5
    have := sMod_spec hs h4
    refine key hx hy h1 h2 (fun w => ?_)
    rw [this.2]
    simp [binOp, Op.intDiv, this.1]
  · obtain ⟨x', y', hx, hy, e⟩ := comp2_some hc
    subst e
    have hp : opShl φ t x' y' = some v := hp
    obtain ⟨v1, h1, g1⟩ := optP_some hp
    obtain ⟨⟨k, p⟩, h2, g2⟩ := optP_some g1
    obtain ⟨v2, h3, g3⟩ := optP_some g2
    obtain ⟨n, h4, g4⟩ := optP_some g3
    injection g4 with g4; subst g4
    have e1 := asIntA_spec h2
    obtain ⟨k2, e2⟩ := asNatA_spec h4
    rw [e1] at h1; rw [e2] at h3
    have f1 := (ev_spec hr hx h1).1
    have f2 := (ev_spec hr hy h3).1
    refine ⟨fun w => ?_, trivial⟩
    simp only [AV.conc, AW.conc, AS.conc, Tm.eval, vInt, sShl_spec hs] at f1 f2 ⊢
    rw [bin_run _ _ _ _ _ _ (by decide), f1, f2]
    have hneg : ¬ ((n : Int) < 0) := by omega
    simp [binOp, Op.shift, hneg]
  · obtain ⟨x', y', hx, hy, e⟩ := comp2_some hc
    subst e
    have hp : opShr t x' y' = some v := hp
    obtain ⟨v1, h1, g1⟩ := optP_some hp
    obtain ⟨⟨k, p⟩, h2, g2⟩ := optP_some g1
    obtain ⟨v2, h3, g3⟩ := optP_some g2
    obtain ⟨n, h4, g4⟩ := optP_some g3
    injection g4 with g4; subst g4
    have e1 := asIntA_spec h2
    obtain ⟨k2, e2⟩ := asNatA_spec h4
    rw [e1] at h1; rw [e2] at h3
    have f1 := (ev_spec hr hx h1).1
    have f2 := (ev_spec hr hy h3).1
    refine ⟨fun w => ?_, trivial⟩
    simp only [AV.conc, AW.conc, AS.conc, Tm.eval, vInt, sShr_spec] at f1 f2 ⊢
    rw [bin_run _ _ _ _ _ _ (by decide), f1, f2]
    have hneg : ¬ ((n : Int) < 0) := by omega
    simp [binOp, Op.shift, hneg]
  · rename_i op' _ _ _ _
    split at hc
    · rename_i o ho
      obtain ⟨x', y', hx, hy, e⟩ := comp2_some hc
      subst e
      obtain ⟨k, p, q, h1, h2, h3⟩ := int2_some (show opAr φ t o x' y' = some v from hp)
      injection h3 with h3; subst h3
      refine key hx hy h1 h2 (fun w => ?_)
      rw [sqL_spec hs, sAr_spec hs]
      exact intCode _ _ _ _ ho w
    · split at hc <;> try (simp at hc; done)
      rename_i o ho
      obtain ⟨x', y', hx, hy, e⟩ := comp2_some hc
      subst e
      obtain ⟨k, p, q, h1, h2, h3⟩ := int2_some (show opBt φ t o x' y' = some v from hp)
      injection h3 with h3; subst h3
      refine key hx hy h1 h2 (fun w => ?_)
      rw [sBits_spec hs]
      exact btRun _ _ _ _ ho w

theorem sound_build (hT : TOk P T) (hr : TRel c nx t a.tmps) {ty : TypeId} {parts : Array (Nat × Operand)} {po : POp} (hc : compBuild T ty parts = some po) {v : AV} (hp : pureOp φ t po = some v) :
    (∀ w, (Instr.build ty (parts.map fun (i, x) => (i, a.eval x))).run P w = .ok (v.conc c) w) ∧ v.wf c nx := by
  unfold compBuild at hc
  split at hc <;> try (simp at hc; done)
  rename_i i hi
  have hi := hT _ _ hi
  split at hc <;> try (simp at hc; done)
  rename_i z hz
  have hzw : ∀ x ∈ z, x.wf c nx := by have := hi.zero c nx; rw [hz] at this; exact this
  have hzc : ∀ w, (zeroValue ty).run P w = .ok (.agg (z.map (AS.conc c)).toArray) w := fun w => by rw [hi.run_zero w c, hz]; rfl
  split at hc <;> try (simp at hc; done)
  · rename_i fs hd
    split at hc <;> try (simp at hc; done)
    rename_i pl hpl
    cases hps : compParts (fun i => pl[i]?) parts.toList with
    | none => rw [hps] at hc; cases hc
    | some ps =>
      rw [hps] at hc; injection hc with hc; subst hc
      obtain ⟨l, hl, g⟩ := optP_some (show opBuild t z ps = some v from hp)
      injection g with g; subst g
      have hf := fill_spec hr hps hl hzw
      refine ⟨fun w => ?_, hf.2.1⟩
      have hpw := fieldPlaces_spec hT w hpl
      have hpa : (fs.mapM (fun f => do pure (f.offset, ← sizeOf f.type) : Field → Sem (Nat × Nat))).run P w = .ok pl.toArray w := by
        rw [← Array.toArray_toList (xs := fs), List.mapM_toArray]
        simp only [Sem.run_map, hpw, Result.andThen_ok]
      simp only [Instr.build, Sem.run_bind, hzc w, Result.andThen_ok, hi.run_und w, hd, hpa, Value.cells, Array.toList_map]
      have e : (fun (x : Nat) => pl.toArray[x]?) = (fun (i : Nat) => pl[i]?) := by funext i; simp
      rw [e]
      have e2 : List.map (fun (x : Nat × Operand) => (x.1, a.eval x.2)) parts.toList = List.map (fun x => match x with | (i, x) => (i, a.eval x)) parts.toList := rfl
      rw [hf.1]
      rfl
  · rename_i n e hd
    split at hc <;> try (simp at hc; done)
    rename_i ie hie
    cases hps : compParts (fun i => some (i * ie.size, ie.size)) parts.toList with
    | none => rw [hps] at hc; cases hc
    | some ps =>
      rw [hps] at hc; injection hc with hc; subst hc
      obtain ⟨l, hl, g⟩ := optP_some (show opBuild t z ps = some v from hp)
      injection g with g; subst g
      have hf := fill_spec hr hps hl hzw
      refine ⟨fun w => ?_, hf.2.1⟩
      simp only [Instr.build, Sem.run_bind, hzc w, Result.andThen_ok, hi.run_und w, hd, (hT _ _ hie).run_size w, Value.cells, Array.toList_map]
      rw [hf.1]
      rfl

def moved (b off C l z : Nat) : Addr := if C = l then ⟨b, off, none⟩ else (⟨b, off, none⟩ : Addr).add (l * z)
theorem moved_eq {b off C l z : Nat} (h : C = l) : moved b off C l z = ⟨b, off, none⟩ := by unfold moved; rw [if_pos h]
theorem moved_ne {b off C l z : Nat} (h : C ≠ l) : moved b off C l z = ⟨b, off + l * z, none⟩ := by unfold moved; rw [if_neg h, addr_add]
theorem moved_zero (b off C z : Nat) : moved b off C 0 z = ⟨b, off, none⟩ := by
  unfold moved; split
  · rfl
  · rw [addr_add]; simp
theorem sliceA_spec {z id off len : Nat} {cap : ACap} {l h : Nat} {v : AV} (hw : (AS.slice id off len cap).wf c nx) (hs : sliceA z id off len cap l h = some v) :
    l ≤ h ∧ h ≤ cap.conc c id ∧ v.wf c nx ∧ v.conc c = .slice (some (moved (c.ι id) off (cap.conc c id) l z)) (h - l) (cap.conc c id - l) := by
  unfold sliceA at hs
  obtain ⟨h1, g1⟩ := ckB_some hs
  have h1 := (natBle_iff _ _).1 h1
  simp only [AS.wf] at hw
  split at g1
  · rename_i n
    obtain ⟨h2, g2⟩ := ckB_some g1
    have h2 := (natBle_iff _ _).1 h2
    injection g2 with g2
    rw [← g2]
    refine ⟨h1, h2, ⟨hw.1, ?_⟩, ?_⟩
    · show h - l ≤ n - l; omega
    · show Value.slice (some ⟨c.ι id, (match Nat.beq n l with | true => off | false => Nat.add off (Nat.mul l z)), none⟩) (h - l) (n - l) = Value.slice (some (moved (c.ι id) off n l z)) (h - l) (n - l)
      cases hb : Nat.beq n l with
      | true => rw [moved_eq ((natBeq_iff _ _).1 hb)]
      | false =>
        have : n ≠ l := fun e => by rw [(natBeq_iff _ _).2 e] at hb; cases hb
        rw [moved_ne this]; rfl
  · rename_i d
    obtain ⟨h2, g2⟩ := ckB_some g1
    have h2 := (natBle_iff _ _).1 h2
    simp only [ACap.wf] at hw
    split at g2
    · rename_i hb
      have hb := (natBeq_iff _ _).1 hb
      injection g2 with g2
      rw [← g2]
      refine ⟨h1, ?_, ⟨hw.1, ?_⟩, ?_⟩
      · show h ≤ c.κ id - d; omega
      · show h + d ≤ c.κ id; omega
      · show Value.slice (some ⟨c.ι id, off, none⟩) h (c.κ id - d) = Value.slice (some (moved (c.ι id) off (c.κ id - d) l z)) (h - l) (c.κ id - d - l)
        rw [hb, moved_zero]; rfl
    · rename_i hb
      obtain ⟨h3, g3⟩ := ckB_some g2
      have h3 : l + 1 ≤ len := (natBle_iff _ _).1 h3
      injection g3 with g3
      rw [← g3]
      refine ⟨h1, ?_, ⟨hw.1, ?_⟩, ?_⟩
      · show h ≤ c.κ id - d; omega
      · show (h - l) + (d + l) ≤ c.κ id; omega
      · show Value.slice (some ⟨c.ι id, off + l * z, none⟩) (h - l) (c.κ id - (d + l)) = Value.slice (some (moved (c.ι id) off (c.κ id - d) l z)) (h - l) (c.κ id - d - l)
        rw [moved_ne (by omega), Nat.sub_sub]

theorem callLen_run {x : Operand} {ty : TypeId} {dst : Option Tmp} {oty : TypeId} {pos : String} {af : Array Edge} {g : Option (Nat × Bool)} (args : Array Operand) (argTypes : Array TypeId) (w : World) :
    (execOp a.eval ⟨dst, .call ⟨.builtin .len, args, argTypes⟩, oty, pos, af, g⟩).run P w = ((Builtin.len_ argTypes oty (args.map a.eval)).run P w).andThen fun v w' => .ok (.value v) w' := by
  simp [execOp, resolve, invoke, builtin]

theorem pure_sound (hT : TOk P T) {o : Oper} {po : POp} (hc : compP T o.op = some po) (hr : TRel c nx t a.tmps) (hs : Sat c.σ φ) {v : AV} (hp : pureOp φ t po = some v) :
    PureOk P c nx (fun w => (execOp a.eval o).run P w) v := by
  obtain ⟨dst, op, ty, pos, af, g⟩ := o
  cases op with
  | move x =>
    obtain ⟨y, hy, e⟩ := comp1_some (show comp1 x .mv = some po from hc)
    subst e
    have := ev_spec hr hy (show ev t y = some v from hp)
    exact ⟨fun w => by simp [execOp, this.1], this.2⟩
  | assign x =>
    obtain ⟨y, hy, e⟩ := comp1_some (show comp1 x .mv = some po from hc)
    subst e
    have := ev_spec hr hy (show ev t y = some v from hp)
    exact ⟨fun w => by simp [execOp, this.1], this.2⟩
  | pick cc x y =>
    simp only [compP] at hc
    split at hc <;> try (simp at hc; done)
    rename_i c' hcc
    obtain ⟨x', y', hx, hy, e⟩ := comp2_some hc
    subst e
    obtain ⟨vc, h1, g1⟩ := optP_some (show opPick t c' x' y' = some v from hp)
    obtain ⟨b, h2, g2⟩ := optP_some g1
    have e := asBoolA_spec h2
    rw [e] at h1
    have e1 := (ev_spec hr hcc h1).1
    simp only [AV.conc, AW.conc, AS.conc] at e1
    cases b with
    | true => have := ev_spec hr hx g2; exact ⟨fun w => by simp [execOp, e1, asBool, this.1], this.2⟩
    | false => have := ev_spec hr hy g2; exact ⟨fun w => by simp [execOp, e1, asBool, this.1], this.2⟩
  | build ty' parts =>
    have := sound_build hT hr (show compBuild T ty' parts = some po from hc) hp
    exact ⟨fun w => by simp [execOp, this.1 w], this.2⟩
  | nilCheck x =>
    obtain ⟨y, hy, e⟩ := comp1_some (show comp1 x .nilCheck = some po from hc)
    subst e
    obtain ⟨u, hu, g⟩ := optP_some (show opNil t y = some v from hp)
    have := ev_spec hr hy hu
    split at g <;> try (simp at g; done)
    · injection g with g; subst g
      exact ⟨fun w => by simp [execOp, this.1, AV.conc, AW.conc, AS.conc], this.2⟩
    · injection g with g; subst g
      exact ⟨fun w => by simp [execOp, this.1, AV.conc, AW.conc, AS.conc], this.2⟩
  | binOp op xT x y yT => exact sound_bin hr hs (show compBin op x y = some po from hc) hp
  | unOp u xT x =>
    cases u with
    | not =>
      obtain ⟨y, hy, e⟩ := comp1_some (show comp1 x .not = some po from hc)
      subst e
      obtain ⟨vc, h1, g1⟩ := optP_some (show opNot t y = some v from hp)
      obtain ⟨b, h2, g2⟩ := optP_some g1
      injection g2 with g2; subst g2
      have e := asBoolA_spec h2
      rw [e] at h1
      have e1 := (ev_spec hr hy h1).1
      simp only [AV.conc, AW.conc, AS.conc] at e1
      exact ⟨fun w => by simp [execOp, e1, Op.unary, vBool, AV.conc, AW.conc, AS.conc]; cases b <;> rfl, trivial⟩
    | neg =>
      simp only [compP] at hc
      split at hc <;> try (simp at hc; done)
      rename_i i hi
      split at hc <;> try (simp at hc; done)
      rename_i k0 hk0
      obtain ⟨y, hy, e⟩ := comp1_some hc
      subst e
      obtain ⟨k, p, q, h1, h2, h3⟩ := int2_some (show opAr φ t 1 (.c (vInt k0 (.lit (.ofNat 0)))) y = some v from hp)
      injection h3 with h3; subst h3
      have h1' : some (vInt k0 (.lit (.ofNat 0))) = some (AV.w (.s (.int k p))) := h1
      simp only [vInt, Option.some.injEq, AV.w.injEq, AW.s.injEq, AS.int.injEq] at h1'
      obtain ⟨rfl, rfl⟩ := h1'
      have e1 := (ev_spec hr hy h2).1
      simp only [AV.conc, AW.conc, AS.conc] at e1
      have e2 : arI 1 ((Tm.lit (.ofNat 0)).eval c.σ) (q.eval c.σ) = 0 - q.eval c.σ := rfl
      exact ⟨fun w => by simp [execOp, e1, Op.unary, Op.intArith, vInt, AV.conc, AW.conc, AS.conc, sqL_spec hs, sAr_spec hs]; show k0.wrap (-(q.eval c.σ)) = k0.wrap (0 - q.eval c.σ); rw [Int.zero_sub], trivial⟩
    | xor =>
      simp only [compP] at hc
      split at hc <;> try (simp at hc; done)
      rename_i i hi
      split at hc <;> try (simp at hc; done)
      rename_i k0 hk0
      obtain ⟨y, hy, e⟩ := comp1_some hc
      subst e
      obtain ⟨k, p, q, h1, h2, h3⟩ := int2_some (show opBt φ t 2 (.c (vInt k0 (.lit (match k0.signed with | true => .negSucc 0 | false => .ofNat (kmax k0))))) y = some v from hp)
      injection h3 with h3; subst h3
      have h1' : some (vInt k0 (.lit (match k0.signed with | true => .negSucc 0 | false => .ofNat (kmax k0)))) = some (AV.w (.s (.int k p))) := h1
      simp only [vInt, Option.some.injEq, AV.w.injEq, AW.s.injEq, AS.int.injEq] at h1'
      obtain ⟨rfl, rfl⟩ := h1'
      have e1 := (ev_spec hr hy h2).1
      simp only [AV.conc, AW.conc, AS.conc] at e1
      have em : (if k0.signed then -1 else k0.max : Int) = (Tm.lit (match k0.signed with | true => .negSucc 0 | false => .ofNat (kmax k0))).eval c.σ := by cases k0 <;> rfl
      have hrun : ∀ w, (Op.unary .xor (.int k0 (q.eval c.σ))).run P w = .ok (.int k0 (bitsI 2 k0 ((Tm.lit (match k0.signed with | true => .negSucc 0 | false => .ofNat (kmax k0))).eval c.σ) (q.eval c.σ))) w := by
        intro w
        simp only [Op.unary, em]
        simp [Op.intBits, bitsI]
      exact ⟨fun w => by simp [execOp, e1, hrun w, vInt, AV.conc, AW.conc, AS.conc, sBits_spec hs], trivial⟩
    | _ => simp [compP] at hc
  | convert src dst' x =>
    simp only [compP] at hc
    split at hc <;> try (simp at hc; done)
    rename_i i d hi hd
    split at hc <;> try (simp at hc; done)
    rename_i k hk
    obtain ⟨y, hy, e⟩ := comp1_some hc
    subst e
    obtain ⟨vc, h1, g1⟩ := optP_some (show opConv φ t k y = some v from hp)
    obtain ⟨⟨k', p⟩, h2, g2⟩ := optP_some g1
    injection g2 with g2; subst g2
    have e := asIntA_spec h2
    rw [e] at h1
    have e1 := (ev_spec hr hy h1).1
    simp only [AV.conc, AW.conc, AS.conc] at e1
    refine ⟨fun w => ?_, trivial⟩
    have hconv : (convert src dst' (.int k' (p.eval c.σ))).run P w = .ok (.int k (k.wrap (p.eval c.σ))) w := by
      simp only [convert, Sem.run_bind, (hT _ _ hi).run_und w, (hT _ _ hd).run_und w, Result.andThen_ok, hk]
      simp [Conv.intToInt]
    simp [execOp, e1, hconv, vInt, AV.conc, AW.conc, AS.conc, sqL_spec hs, sConv_spec hs]
  | makeInterface ty' x =>
    simp only [compP] at hc
    split at hc <;> try (simp at hc; done)
    rename_i i hi
    split at hc <;> try (simp at hc; done)
    rename_i hif
    obtain ⟨y, hy, e⟩ := comp1_some hc
    subst e
    obtain ⟨vc, h1, g1⟩ := optP_some (show opMkif t ty' y = some v from hp)
    split at g1 <;> try (simp at g1; done)
    injection g1 with g1; subst g1
    have e1 := (ev_spec hr hy h1).1
    simp only [AV.conc, AW.conc, List.map_nil] at e1
    refine ⟨fun w => ?_, trivial⟩
    have hm : (Instr.makeInterface ty' (.agg #[])).run P w = .ok (.iface ty' (.agg #[])) w := by
      simp only [Instr.makeInterface, Sem.run_bind, (hT _ _ hi).run_und w, Result.andThen_ok]
      cases hd : i.desc <;> simp [hd, isIface] at hif ⊢
    simp [execOp, e1, hm, AV.conc, AW.conc, AS.conc]
  | makeFunc fn first caps =>
    cases fn <;> try (simp [compP] at hc; done)
    rename_i f
    simp only [compP] at hc
    split at hc <;> try (simp at hc; done)
    rename_i hf
    cases hl : embList caps.toList with
    | none => rw [hl] at hc; cases hc
    | some xs =>
      rw [hl] at hc; injection hc with hc; subst hc
      obtain ⟨vs, h1, g1⟩ := optP_some (show opMkfn t f xs = some v from hp)
      obtain ⟨ps, h2, g2⟩ := optP_some g1
      injection g2 with g2; subst g2
      have e1 := embList_spec hr hl h1
      have e2 := capsA_spec (c := c) (nx := nx) h2
      refine ⟨fun w => ?_, e2.2 e1.2⟩
      have hfirst : first = #[] := by apply Array.ext'; simpa using hf
      subst hfirst
      have hcaps : Array.map a.eval caps = (ps.map (capPtr c)).toArray := by
        apply Array.ext'
        rw [Array.toList_map, e1.1, e2.1]
      simp [execOp, Instr.makeFunc, hcaps, AV.conc, AW.conc, AS.conc]
  | slice ty' x lo hi mx =>
    cases mx with
    | some m =>
      cases lo with
      | some l => simp [compP] at hc
      | none =>
        cases hi with
        | none => simp [compP] at hc
        | some hh =>
          simp only [compP] at hc
          split at hc <;> try (simp at hc; done)
          rename_i i hi'
          have hi' := hT _ _ hi'
          split at hc <;> try (simp at hc; done)
          rename_i e hd
          split at hc <;> try (simp at hc; done)
          rename_i ie x' h' m' hie hx hh' hm'
          injection hc with hc; subst hc
          obtain ⟨u, hu, g1⟩ := optP_some (show opSlice3 t x' h' m' = some v from hp)
          obtain ⟨q, hq, g2⟩ := optP_some g1
          obtain ⟨hv, hv1, g3⟩ := optP_some g2
          obtain ⟨hn, hn1, g4⟩ := optP_some g3
          obtain ⟨mv, mv1, g5⟩ := optP_some g4
          obtain ⟨mn, mn1, g6⟩ := optP_some g5
          obtain ⟨hle, g7⟩ := ckB_some g6
          have hle := (natBle_iff _ _).1 hle
          rw [asS_spec hq] at hu
          have e1 := ev_spec hr hx hu
          obtain ⟨k1, ek1⟩ := asNatA_spec hn1
          rw [ek1] at hv1
          obtain ⟨k2, ek2⟩ := asNatA_spec mn1
          rw [ek2] at mv1
          have e2 := (ev_spec hr hh' hv1).1
          have e3 := (ev_spec hr hm' mv1).1
          simp only [AV.conc, AW.conc, AS.conc, Tm.eval] at e2 e3
          split at g7 <;> try (simp at g7; done)
          · rename_i id off len cap
            obtain ⟨hm1, g8⟩ := ckB_some g7
            have hm1 := (natBle_iff _ _).1 hm1
            injection g8 with g8; subst g8
            have hwf := e1.2
            simp only [AV.wf, AW.wf, AS.wf] at hwf
            have hmc : mn ≤ cap.conc c id := by
              cases cap with
              | ex n => exact hm1
              | op d =>
                have h1 := hwf.2
                simp only [ACap.wf] at h1
                simp only [ACap.conc]
                have hm1 : mn ≤ len := hm1
                omega
            refine ⟨fun w => ?_, ⟨hwf.1, hle⟩⟩
            have e1 := e1.1
            simp only [AV.conc, AW.conc, AS.conc] at e1
            have hrun : (Instr.sliceAt ty' (.slice (some ⟨c.ι id, off, none⟩) len (cap.conc c id)) none (some (.int k1 (hn : Int))) (some (.int k2 (mn : Int)))).run P w = .ok (.slice (some ⟨c.ι id, off, none⟩) hn mn) w := by
              simp only [Instr.sliceAt, Instr.slice, Sem.run_bind, hi'.run_und w, Result.andThen_ok, hd, Instr.sliceBounds, run_sliceBound hmc, run_sliceBound hle, (hT _ _ hie).run_size w, Sem.run_pure, Nat.sub_zero]
              split
              · rfl
              · simp [addr_add]
            simp [execOp, e1, e2, e3, AV.conc, AW.conc, AS.conc, ACap.conc]
            exact (congrArg (fun r => Result.andThen r fun (v : Value) w' => Result.ok (Next.value v) w') hrun)
          · obtain ⟨hm1, g8⟩ := ckB_some g7
            have hm1 := (natBeq_iff _ _).1 hm1
            injection g8 with g8; subst g8
            subst hm1
            have : hn = 0 := by omega
            subst this
            refine ⟨fun w => ?_, trivial⟩
            have e1 := e1.1
            simp only [AV.conc, AW.conc, AS.conc] at e1
            have hrun : (Instr.sliceAt ty' (.slice none 0 0) none (some (.int k1 ((0 : Nat) : Int))) (some (.int k2 ((0 : Nat) : Int)))).run P w = .ok (.slice none 0 0) w := by
              simp only [Instr.sliceAt, Instr.slice, Sem.run_bind, hi'.run_und w, Result.andThen_ok, hd, Instr.sliceBounds, run_sliceBound (Nat.le_refl 0), (hT _ _ hie).run_size w, Sem.run_pure, Nat.sub_zero]
              simp
            simp [execOp, e1, e2, e3, AV.conc, AW.conc, AS.conc]
            exact (congrArg (fun r => Result.andThen r fun (v : Value) w' => Result.ok (Next.value v) w') hrun)
    | none =>
      simp only [compP] at hc
      split at hc <;> try (simp at hc; done)
      rename_i i hi'
      have hi' := hT _ _ hi'
      split at hc <;> try (simp at hc; done)
      · rename_i n e hd
        split at hc <;> try (simp at hc; done)
        rename_i ie x' lo' hi'' hie hx hlo hhi
        injection hc with hc; subst hc
        obtain ⟨u, hu, g1⟩ := optP_some (show opASlice t n ie.size x' lo' hi'' = some v from hp)
        obtain ⟨⟨id, off⟩, hp1, g2⟩ := optP_some g1
        obtain ⟨l, hl, g3⟩ := optP_some g2
        obtain ⟨h, hh, g4⟩ := optP_some g3
        have e := asPtrA_spec hp1
        rw [e] at hu
        have e1 := ev_spec hr hx hu
        have hsp := sliceA_spec (c := c) (nx := nx) (show (AS.slice id off n (.ex n)).wf c nx from ⟨e1.2, Nat.le_refl _⟩) g4
        simp only [ACap.conc] at hsp
        refine ⟨fun w => ?_, hsp.2.2.1⟩
        have e1 := e1.1
        simp only [AV.conc, AW.conc, AS.conc] at e1
        have hb := bounds_run (P := P) hr hlo hhi (cap := n) false hl hh hsp.1 hsp.2.1 (fun _ => Nat.le_refl _) w
        have hrun : (Instr.sliceAt ty' (.pointer (some ⟨c.ι id, off, none⟩)) (lo.map a.eval) (hi.map a.eval) none).run P w = .ok (v.conc c) w := by
          simp only [Instr.sliceAt, Sem.run_bind, hi'.run_und w, Result.andThen_ok, hd, Instr.sureAddr, Sem.run_pure, hb, (hT _ _ hie).run_size w, hsp.2.2.2]
          rfl
        simp [execOp, e1, hrun]
      · rename_i e hd
        split at hc <;> try (simp at hc; done)
        rename_i ie x' lo' hi'' hie hx hlo hhi
        injection hc with hc; subst hc
        obtain ⟨u, hu, g1⟩ := optP_some (show opSlice t ie.size x' lo' hi'' = some v from hp)
        obtain ⟨q, hq, g2⟩ := optP_some g1
        have e := asS_spec hq
        rw [e] at hu
        have e1 := ev_spec hr hx hu
        split at g2 <;> try (simp at g2; done)
        · rename_i id off len cap
          obtain ⟨l, hl, g3⟩ := optP_some g2
          obtain ⟨h, hh, g4⟩ := optP_some g3
          have hsp := sliceA_spec (c := c) (nx := nx) e1.2 g4
          refine ⟨fun w => ?_, hsp.2.2.1⟩
          have hlc : len ≤ cap.conc c id := by
            have := e1.2
            simp only [AV.wf, AW.wf, AS.wf] at this
            cases cap <;> simp [ACap.wf, ACap.conc] at this ⊢ <;> omega
          have e1 := e1.1
          simp only [AV.conc, AW.conc, AS.conc] at e1
          have hb := bounds_run (P := P) hr hlo hhi (cap := cap.conc c id) true hl hh hsp.1 hsp.2.1 (fun _ => hlc) w
          have hrun : (Instr.sliceAt ty' (.slice (some ⟨c.ι id, off, none⟩) len (cap.conc c id)) (lo.map a.eval) (hi.map a.eval) none).run P w = .ok (v.conc c) w := by
            simp only [Instr.sliceAt, Instr.slice, Sem.run_bind, hi'.run_und w, Result.andThen_ok, hd, hb, (hT _ _ hie).run_size w, hsp.2.2.2, Sem.run_pure]
            have em : (if cap.conc c id = l then (some (⟨c.ι id, off, none⟩ : Addr)) else Option.map (fun x => x.add (l * ie.size)) (some (⟨c.ι id, off, none⟩ : Addr))) = some (moved (c.ι id) off (cap.conc c id) l ie.size) := by
              unfold moved; split <;> rfl
            rw [em]
          simp [execOp, e1, hrun]
        · obtain ⟨l, hl, g3⟩ := optP_some g2
          obtain ⟨h, hh, g4⟩ := optP_some g3
          obtain ⟨hz, g5⟩ := ckB_some g4
          obtain ⟨z1, z2⟩ := and2_iff.1 hz
          have z1 := (natBeq_iff _ _).1 z1
          have z2 := (natBeq_iff _ _).1 z2
          subst z1; subst z2
          injection g5 with g5; subst g5
          refine ⟨fun w => ?_, trivial⟩
          have e1 := e1.1
          simp only [AV.conc, AW.conc, AS.conc] at e1
          have hb := bounds_run (P := P) hr hlo hhi (cap := 0) true hl hh (Nat.le_refl _) (Nat.le_refl _) (fun _ => Nat.le_refl _) w
          have hrun : (Instr.sliceAt ty' (.slice none 0 0) (lo.map a.eval) (hi.map a.eval) none).run P w = .ok (.slice none 0 0) w := by
            simp only [Instr.sliceAt, Instr.slice, Sem.run_bind, hi'.run_und w, Result.andThen_ok, hd, hb, (hT _ _ hie).run_size w, Sem.run_pure]
            simp
          simp [execOp, e1, hrun, AV.conc, AW.conc, AS.conc]
  | sliceToArrayPointer d x =>
    simp only [compP] at hc
    split at hc <;> try (simp at hc; done)
    rename_i i hi
    split at hc <;> try (simp at hc; done)
    rename_i n te hd
    obtain ⟨y, hy, e⟩ := comp1_some hc
    subst e
    obtain ⟨u, hu, g1⟩ := optP_some (show opS2a t n y = some v from hp)
    obtain ⟨x', hx, g2⟩ := optP_some g1
    have ex := asS_spec hx
    split at g2 <;> try (simp at g2; done)
    rename_i id off len cap
    obtain ⟨h1, h2⟩ := ckB_some g2
    injection h2 with h2; subst h2
    have h1 := (natBle_iff _ _).1 h1
    rw [ex] at hu
    have e1 := ev_spec hr hy hu
    refine ⟨fun w => ?_, e1.2.1⟩
    have e1 := e1.1
    simp only [AV.conc, AW.conc, AS.conc] at e1
    have hrun : (Instr.arrayAt d (.slice (some ⟨c.ι id, off, none⟩) len (cap.conc c id))).run P w = .ok (.pointer (some ⟨c.ι id, off, none⟩)) w := by
      simp [Instr.arrayAt, (hT _ _ hi).run_und w, hd, show ¬ len < n by omega]
    simp [execOp, e1, hrun, AV.conc, AW.conc, AS.conc]
  | fieldAddr ty' x f =>
    simp only [compP] at hc
    split at hc <;> try (simp at hc; done)
    rename_i i hi
    split at hc <;> try (simp at hc; done)
    rename_i fs hd
    split at hc <;> try (simp at hc; done)
    rename_i fd hfd
    split at hc <;> try (simp at hc; done)
    rename_i fi hfi
    split at hc <;> try (simp at hc; done)
    rename_i m hm
    obtain ⟨y, hy, e⟩ := comp1_some hc
    subst e
    obtain ⟨u, hu, g1⟩ := optP_some (show opFaddr t fd.offset y = some v from hp)
    obtain ⟨⟨id, off⟩, hp1, g2⟩ := optP_some g1
    injection g2 with g2; subst g2
    have e := asPtrA_spec hp1
    rw [e] at hu
    have e1 := ev_spec hr hy hu
    refine ⟨fun w => ?_, e1.2⟩
    have e1 := e1.1
    simp only [AV.conc, AW.conc, AS.conc] at e1
    have hrun : (Instr.fieldAt ty' (.pointer (some ⟨c.ι id, off, none⟩)) f).run P w = .ok (.pointer (some ⟨c.ι id, off + fd.offset, none⟩)) w := by
      simp only [Instr.fieldAt, Sem.run_bind, (hT _ _ hi).run_und w, Result.andThen_ok, hd, hfd, Instr.sureAddr, Sem.run_pure, fieldPlace, (hT _ _ hfi).run_size w, hm]
      simp [addr_add]
    simp [execOp, e1, hrun, AV.conc, AW.conc, AS.conc]
  | field ty' x f =>
    simp only [compP] at hc
    split at hc <;> try (simp at hc; done)
    rename_i i hi
    split at hc <;> try (simp at hc; done)
    rename_i fs hd
    split at hc <;> try (simp at hc; done)
    rename_i fd hfd
    split at hc <;> try (simp at hc; done)
    rename_i fi hfi
    obtain ⟨y, hy, e⟩ := comp1_some hc
    subst e
    obtain ⟨u, hu, g1⟩ := optP_some (show opField t (aggSize fi) fd.offset y = some v from hp)
    obtain ⟨l, hp1, g2⟩ := optP_some g1
    have e := asAggA_spec hp1
    rw [e] at hu
    have e1 := ev_spec hr hy hu
    refine ⟨fun w => ?_, (part_run (P := P) (c := c) (nx := nx) hT hfi g2 default).2 e1.2⟩
    have hpr := (part_run (P := P) (c := c) (nx := nx) hT hfi g2 w).1
    have e1 := e1.1
    simp only [AV.conc, AW.conc] at e1
    have hrun : (Instr.field ty' (.agg (l.map (AS.conc c)).toArray) f).run P w = .ok (v.conc c) w := by
      simp only [Instr.field, Sem.run_bind, (hT _ _ hi).run_und w, Result.andThen_ok, hd, hfd, asAgg, Sem.run_pure, hpr]
    simp [execOp, e1, hrun]
  | indexAddr ty' x ix =>
    simp only [compP] at hc
    split at hc <;> try (simp at hc; done)
    rename_i i hi
    split at hc <;> try (simp at hc; done)
    · rename_i n e hd
      split at hc <;> try (simp at hc; done)
      rename_i ie hie
      obtain ⟨x', y', hx, hy, e⟩ := comp2_some hc
      subst e
      obtain ⟨u, hu, g1⟩ := optP_some (show opIaddrA t n ie.size x' y' = some v from hp)
      obtain ⟨⟨id, off⟩, hp1, g2⟩ := optP_some g1
      obtain ⟨u2, hu2, g3⟩ := optP_some g2
      obtain ⟨m, hm, g4⟩ := optP_some g3
      obtain ⟨hlt, g5⟩ := ckB_some g4
      have hlt : m + 1 ≤ n := (natBle_iff _ _).1 hlt
      injection g5 with g5; subst g5
      have e := asPtrA_spec hp1
      rw [e] at hu
      obtain ⟨k, e'⟩ := asNatA_spec hm
      rw [e'] at hu2
      have e1 := ev_spec hr hx hu
      have e2 := (ev_spec hr hy hu2).1
      refine ⟨fun w => ?_, e1.2⟩
      have e1 := e1.1
      simp only [AV.conc, AW.conc, AS.conc, Tm.eval] at e1 e2
      have hrun : (Instr.indexAt ty' (.pointer (some ⟨c.ι id, off, none⟩)) (.int k m)).run P w = .ok (.pointer (some ⟨c.ι id, off + m * ie.size, none⟩)) w := by
        simp only [Instr.indexAt, Sem.run_bind, asIntOf, Sem.run_pure, (hT _ _ hi).run_und w, Result.andThen_ok, hd, Instr.sureAddr]
        rw [if_pos (by omega)]
        simp [(hT _ _ hie).run_size w, addr_add]
      simp [execOp, e1, e2, hrun, AV.conc, AW.conc, AS.conc]
    · rename_i e hd
      split at hc <;> try (simp at hc; done)
      rename_i ie hie
      obtain ⟨x', y', hx, hy, e⟩ := comp2_some hc
      subst e
      obtain ⟨u, hu, g1⟩ := optP_some (show opIaddrS t ie.size x' y' = some v from hp)
      obtain ⟨q, hq, g2⟩ := optP_some g1
      split at g2 <;> try (simp at g2; done)
      rename_i id off len cap
      obtain ⟨u2, hu2, g3⟩ := optP_some g2
      obtain ⟨m, hm, g4⟩ := optP_some g3
      obtain ⟨hlt, g5⟩ := ckB_some g4
      have hlt : m + 1 ≤ len := (natBle_iff _ _).1 hlt
      injection g5 with g5; subst g5
      have e := asS_spec hq
      rw [e] at hu
      obtain ⟨k, e'⟩ := asNatA_spec hm
      rw [e'] at hu2
      have e1 := ev_spec hr hx hu
      have e2 := (ev_spec hr hy hu2).1
      refine ⟨fun w => ?_, e1.2.1⟩
      have e1 := e1.1
      simp only [AV.conc, AW.conc, AS.conc, Tm.eval] at e1 e2
      have hrun : (Instr.indexAt ty' (.slice (some ⟨c.ι id, off, none⟩) len (cap.conc c id)) (.int k m)).run P w = .ok (.pointer (some ⟨c.ι id, off + m * ie.size, none⟩)) w := by
        simp only [Instr.indexAt, Sem.run_bind, asIntOf, Sem.run_pure, (hT _ _ hi).run_und w, Result.andThen_ok, hd]
        rw [if_pos (by omega)]
        simp [(hT _ _ hie).run_size w, addr_add]
      simp [execOp, e1, e2, hrun, AV.conc, AW.conc, AS.conc]
  | index ty' x ix =>
    simp only [compP] at hc
    split at hc <;> try (simp at hc; done)
    rename_i i hi
    split at hc <;> try (simp at hc; done)
    rotate_left
    · rename_i hd
      split at hc <;> try (simp at hc; done)
      rename_i sb
      obtain ⟨y', hy, e⟩ := comp1_some hc
      subst e
      obtain ⟨u2, hu2, g3⟩ := optP_some (show opSidx t (sb.data.toList.map UInt8.toNat) y' = some v from hp)
      obtain ⟨m, hm, g4⟩ := optP_some g3
      obtain ⟨b, hb, g5⟩ := optP_some g4
      obtain ⟨_, g6⟩ := ckB_some g5
      injection g6 with g6; subst g6
      obtain ⟨k, e'⟩ := asNatA_spec hm
      rw [e'] at hu2
      have e2 := (ev_spec hr hy hu2).1
      simp only [AV.conc, AW.conc, AS.conc, Tm.eval] at e2
      rw [lget_eq, List.getElem?_map] at hb
      cases hq : sb.data.toList[m]? with
      | none => rw [hq] at hb; cases hb
      | some ub =>
        rw [hq] at hb
        injection hb with hb
        have hs1 : sb[m]? = some ub := by
          rw [Array.getElem?_toList] at hq
          have hlt : m < sb.data.size := (Array.getElem?_eq_some_iff.1 hq).1
          have hget := (Array.getElem?_eq_some_iff.1 hq).2
          rw [getElem?_pos sb m (by exact hlt)]
          exact congrArg some hget
        refine ⟨fun w => ?_, trivial⟩
        have hrun : (Instr.index ty' (.string sb) (.int k (m : Int))).run P w = .ok (.int .u8 (b : Int)) w := by
          simp only [Instr.index, Sem.run_bind, asIntOf, Sem.run_pure, (hT _ _ hi).run_und w, Result.andThen_ok, hd]
          simp [hs1, ← hb]
        have e0 : a.eval (.const (.string sb)) = .string sb := rfl
        simp [execOp, e0, e2, vInt, AV.conc, AW.conc, AS.conc, Tm.eval]
        exact (congrArg (fun r => Result.andThen r fun (v : Value) w' => Result.ok (Next.value v) w') hrun)
    rename_i n e hd
    split at hc <;> try (simp at hc; done)
    rename_i ie hie
    obtain ⟨x', y', hx, hy, e⟩ := comp2_some hc
    subst e
    obtain ⟨u, hu, g1⟩ := optP_some (show opIndex t (aggSize ie) n ie.size x' y' = some v from hp)
    obtain ⟨l, hp1, g2⟩ := optP_some g1
    obtain ⟨u2, hu2, g3⟩ := optP_some g2
    obtain ⟨m, hm, g4⟩ := optP_some g3
    obtain ⟨hlt, g5⟩ := ckB_some g4
    have hlt : m + 1 ≤ n := (natBle_iff _ _).1 hlt
    have e := asAggA_spec hp1
    rw [e] at hu
    obtain ⟨k, e'⟩ := asNatA_spec hm
    rw [e'] at hu2
    have e1 := ev_spec hr hx hu
    have e2 := (ev_spec hr hy hu2).1
    refine ⟨fun w => ?_, (part_run (P := P) (c := c) (nx := nx) hT hie g5 default).2 e1.2⟩
    have hpr := (part_run (P := P) (c := c) (nx := nx) hT hie g5 w).1
    have e1 := e1.1
    simp only [AV.conc, AW.conc, AS.conc, Tm.eval] at e1 e2
    have hrun : (Instr.index ty' (.agg (l.map (AS.conc c)).toArray) (.int k m)).run P w = .ok (v.conc c) w := by
      simp only [Instr.index, Sem.run_bind, asIntOf, Sem.run_pure, (hT _ _ hi).run_und w, Result.andThen_ok, hd]
      rw [if_pos (by omega)]
      simp only [Sem.run_bind, (hT _ _ hie).run_size w, Result.andThen_ok, Int.toNat_natCast]
      exact hpr
    simp [execOp, e1, e2, hrun]
  | extract x i =>
    obtain ⟨y, hy, e⟩ := comp1_some (show comp1 x (fun x => .ext x i) = some po from hc)
    subst e
    obtain ⟨u, hu, g⟩ := optP_some (show opExt t y i = some v from hp)
    have e1 := ev_spec hr hy hu
    split at g <;> try (simp at g; done)
    rename_i l
    obtain ⟨x', hx', g⟩ := optP_some g
    injection g with g; subst g
    rw [lget_eq] at hx'
    refine ⟨fun w => ?_, e1.2 _ (List.mem_of_getElem? hx')⟩
    have e1 := e1.1
    simp only [AV.conc] at e1
    simp [execOp, e1, Instr.extract, List.getElem?_map, hx', AV.conc]
  | typeAssert x xT ty' ok =>
    cases ok with
    | false => simp [compP] at hc
    | true =>
      simp only [compP] at hc
      split at hc <;> try (simp at hc; done)
      rename_i i hi
      have hi := hT _ _ hi
      split at hc <;> try (simp at hc; done)
      rename_i hif
      obtain ⟨y, hy, e⟩ := comp1_some hc
      subst e
      obtain ⟨u, hu, g1⟩ := optP_some (show opTass t ty' i.zero y = some v from hp)
      obtain ⟨q, hq, g2⟩ := optP_some g1
      have e := asS_spec hq
      rw [e] at hu
      have e1 := (ev_spec hr hy hu).1
      split at g2 <;> try (simp at g2; done)
      · rename_i ty''
        simp only [AV.conc, AW.conc, AS.conc] at e1
        cases hb : Nat.beq ty'' ty' with
        | true =>
          rw [hb] at g2
          injection g2 with g2; subst g2
          have he := (natBeq_iff _ _).1 hb
          subst he
          refine ⟨fun w => ?_, by intro x hx; rcases List.mem_cons.1 hx with rfl | hx; · intro y hy; cases hy
                                  · simp at hx; subst hx; trivial⟩
          have hrun : (Instr.typeAssert (.iface ty'' (.agg #[])) xT ty'' true).run P w = .ok (.tuple #[.agg #[], .bool true]) w := by
            simp only [Instr.typeAssert, Sem.run_bind, hi.run_und w, Result.andThen_ok]
            cases hd : i.desc <;> simp [hd, isIface] at hif ⊢
          simp [execOp, e1, hrun, AV.conc, AW.conc, AS.conc]
        | false =>
          rw [hb] at g2
          injection g2 with g2; subst g2
          have he : ty'' ≠ ty' := fun e => by rw [(natBeq_iff _ _).2 e] at hb; cases hb
          refine ⟨fun w => ?_, by intro x hx; rcases List.mem_cons.1 hx with rfl | hx; · exact hi.zero c nx
                                  · simp at hx; subst hx; trivial⟩
          have hrun : (Instr.typeAssert (.iface ty'' (.agg #[])) xT ty' true).run P w = .ok (.tuple #[i.zero.conc c, .bool false]) w := by
            simp only [Instr.typeAssert, Sem.run_bind, hi.run_und w, Result.andThen_ok]
            cases hd : i.desc <;> simp [hd, isIface] at hif ⊢ <;> simp [he, hi.run_zero w c]
          simp [execOp, e1, hrun, AV.conc, AW.conc, AS.conc]
      · injection g2 with g2; subst g2
        simp only [AV.conc, AW.conc, AS.conc] at e1
        refine ⟨fun w => ?_, by intro x hx; rcases List.mem_cons.1 hx with rfl | hx; · exact hi.zero c nx
                                · simp at hx; subst hx; trivial⟩
        have hrun : (Instr.typeAssert .nilIface xT ty' true).run P w = .ok (.tuple #[i.zero.conc c, .bool false]) w := by
          simp only [Instr.typeAssert, Sem.run_bind, hi.run_und w, Result.andThen_ok]
          cases hd : i.desc <;> simp [hd, isIface] at hif ⊢ <;> simp [hi.run_zero w c]
        simp [execOp, e1, hrun, AV.conc, AW.conc, AS.conc]
  | call cl =>
    obtain ⟨callee, args, argTypes⟩ := cl
    simp only [compP] at hc
    split at hc <;> try (simp at hc; done)
    split at hc <;> try (simp at hc; done)
    rename_i x ty' hargs htys
    split at hc <;> try (simp at hc; done)
    rename_i i hi
    split at hc <;> try (simp at hc; done)
    rename_i e hd
    obtain ⟨y, hy, e⟩ := comp1_some hc
    subst e
    obtain ⟨u, hu, g1⟩ := optP_some (show opLen t y = some v from hp)
    obtain ⟨q, hq, g2⟩ := optP_some g1
    have e := asS_spec hq
    rw [e] at hu
    have e1 := (ev_spec hr hy hu).1
    have ha : args = #[x] := by apply Array.ext'; simpa using hargs
    have ht : argTypes = #[ty'] := by apply Array.ext'; simpa using htys
    subst ha; subst ht
    split at g2 <;> try (simp at g2; done)
    · injection g2 with g2; subst g2
      simp only [AV.conc, AW.conc, AS.conc] at e1
      refine ⟨fun w => ?_, trivial⟩
      show (execOp a.eval _).run P w = _
      rw [callLen_run (x := x) (ty := ty')]
      simp [Builtin.len_, e1, (hT _ _ hi).run_und w, hd, vInt, AV.conc, AW.conc, AS.conc, Tm.eval, goInt]
    · injection g2 with g2; subst g2
      simp only [AV.conc, AW.conc, AS.conc] at e1
      refine ⟨fun w => ?_, trivial⟩
      show (execOp a.eval _).run P w = _
      rw [callLen_run (x := x) (ty := ty')]
      simp [Builtin.len_, e1, (hT _ _ hi).run_und w, hd, vInt, AV.conc, AW.conc, AS.conc, Tm.eval, goInt]
  | _ => simp [compP] at hc
end
end
end Go.Sy

