/- The symbolic executor: parts K, L, M, N, O, Na. Sound by one theorem (callA_ok). No condition. -/
import Derived.Test.YtcpeflfonacdgaaGreatSy1
import Derived.Maps.RangeRun
set_option linter.unusedVariables false
set_option linter.unusedSimpArgs false
set_option linter.unusedSectionVars false
/-! The symbolic executor, part K: operations that read memory, and those that make a block. -/
namespace Go.Sy
set_option linter.unusedVariables false
set_option linter.unusedSectionVars false
noncomputable section

/-! turning them -/
def compK1 (T : TyT) (t : TypeId) : Option KT1 := match T t with
  | none => none
  | some i => (match i.desc with
    | .int k => (match Nat.beq i.size 1 with | true => some (.int k) | false => none)
    | .array n e => (match T e with
      | none => none
      | some ie => (match ie.desc with
        | .int k => (match Nat.beq ie.size 1, Nat.beq i.size n with | true, true => some (.arr n e k) | _, _ => none)
        | _ => none))
    | _ => none)
def compFs (T : TyT) : List Field → Option (List (Nat × TypeId × KT1))
  | [] => some []
  | f :: fl => match f.name == "_" with
    | true => none
    | false => (match compK1 T f.type with | none => none | some k => (match compFs T fl with | none => none | some r => some ((f.offset, f.type, k) :: r)))
def compKT (T : TyT) (t : TypeId) : Option KT := match T t with
  | none => none
  | some i => (match i.desc with
    | .struct fs => (match i.plain with | true => (compFs T fs.toList).map .str | false => none)
    | _ => (compK1 T t).map .one)
def compR (T : TyT) (o : Op) : Option ROp := match o with
  | .load t a => (match T t with | none => none | some i => (match embO a with | none => none | some x => some (.load (aggSize i) x)))
  | .lookup t x k ok => (match T t with
    | none => none
    | some i => (match i.desc with
      | .map kt et => (match T et, compKT T kt, embO x, embO k with | some ie, some q, some x, some k => some (.lookup q ie.zero x k ok) | _, _, _, _ => none)
      | _ => none))
  | .convert src dst x => (match T src, T dst with
    | some i, some d => (match i.desc, d.desc with
      | .slice e, .string => (match T e with | some ie => (match ie.desc with | .int .u8 => (embO x).map .cstr | _ => none) | none => none)
      | _, _ => none)
    | _, _ => none)
  | .call c => (match c.callee with
    | .builtin .len => (match c.args.toList, c.argTypes.toList with
      | [x], [t] => (match T t with | some i => (match i.desc with | .map _ _ => (embO x).map .mlen | _ => none) | none => none)
      | _, _ => none)
    | _ => none)
  | _ => none
def compM (T : TyT) (o : Op) : Option MOp := match o with
  | .alloc e => (match T e with | none => none | some i => some (.alloc e (cellsW i.zero)))
  | .box e x => (match embO x with | none => none | some x => some (.box e x))
  | .buildSlice t n ps => (match T t with
    | none => none
    | some i => (match i.desc with
      | .slice e => (match T e with
        | none => none
        | some ie => (match Nat.ble (n * ie.size) 16777216, compParts (fun i => some (i * ie.size, ie.size)) ps.toList with
          | true, some ps => some (.bslice e n (cellsW ie.zero) ps)
          | _, _ => none))
      | _ => none))
  | .makeMap _ none => some .mkmap
  | .makeSlice t n c => (match T t with
    | none => none
    | some i => (match i.desc with
      | .slice e => (match T e, embO n, embO c with | some ie, some n, some c => some (.mkslice e ie.bytes (cellsW ie.zero) n c) | _, _, _ => none)
      | _ => none))
  | _ => none

section
variable {P : Program} {T : TyT}
theorem compK1_ok (hT : TOk P T) {t : TypeId} {k : KT1} (h : compK1 T t = some k) : K1Ok P t k := by
  unfold compK1 at h
  split at h <;> try (simp at h; done)
  rename_i i hi
  have hi := hT _ _ hi
  obtain ⟨inf, hinf, hsz, _⟩ := hi.info
  have hund := hi.und
  split at h <;> try (simp at h; done)
  · rename_i k' hd
    split at h <;> try (simp at h; done)
    rename_i hb
    have hb := (natBeq_iff _ _).1 hb
    injection h with h; subst h
    exact ⟨by rw [hund, hd], inf, hinf, by rw [hsz, hb]; rfl⟩
  · rename_i n e hd
    split at h <;> try (simp at h; done)
    rename_i ie hie
    have hie := hT _ _ hie
    obtain ⟨inf2, hinf2, hsz2, _⟩ := hie.info
    split at h <;> try (simp at h; done)
    rename_i k' hd2
    split at h <;> try (simp at h; done)
    rename_i hb1 hb2
    have hb1 := (natBeq_iff _ _).1 hb1
    have hb2 := (natBeq_iff _ _).1 hb2
    injection h with h; subst h
    exact ⟨⟨by rw [hund, hd], by rw [hie.und, hd2], inf2, hinf2, by rw [hsz2, hb1]⟩, inf, hinf, by rw [hsz, hb2]; rfl⟩
theorem compFs_ok (hT : TOk P T) : ∀ {fl : List Field} {gl : List (Nat × TypeId × KT1)}, compFs T fl = some gl → FsOk P fl gl := by
  intro fl
  induction fl with
  | nil => intro gl h; simp [compFs] at h; subst h; trivial
  | cons f fl ih =>
    intro gl h
    simp only [compFs] at h
    split at h <;> try (simp at h; done)
    rename_i hn
    split at h <;> try (simp at h; done)
    rename_i k hk
    split at h <;> try (simp at h; done)
    rename_i r hr
    injection h with h; subst h
    exact ⟨rfl, rfl, by simpa using hn, compK1_ok hT hk, ih hr⟩
theorem compKT_ok (hT : TOk P T) {t : TypeId} {k : KT} (h : compKT T t = some k) : KOk P t k := by
  unfold compKT at h
  split at h <;> try (simp at h; done)
  rename_i i hi
  have hi := hT _ _ hi
  split at h
  · rename_i fs hd
    split at h <;> try (simp at h; done)
    rename_i hp
    cases hf : compFs T fs.toList with
    | none => rw [hf] at h; cases h
    | some gl =>
      rw [hf] at h; injection h with h; subst h
      exact ⟨fs, by rw [hi.und, hd], compFs_ok hT hf, (hi.plain hp).1⟩
  · cases hk : compK1 T t with
    | none => rw [hk] at h; cases h
    | some x => rw [hk] at h; injection h with h; subst h; exact compK1_ok hT hk
end

/-- What a state says of a world's blocks. -/
structure View (c : Cx) (nx : Nat) (s : S) (w : World) : Prop where
  sat : Sat c.σ s.φ
  wf : ∀ id o, s.at id = some o → o.wf c nx
  obj : ∀ id o, s.at id = some o → ObjRel c id o (w.heap[c.ι id]?)
theorem Rel.view {c : Cx} {s : S} {w : World} (h : Rel c s w) : View c s.nx s w := ⟨h.sat, h.wf, h.obj⟩
theorem S.get_eq (s : S) (id : Nat) : s.get id = s.at id := rfl

theorem obj_cell {c : Cx} {id : Nat} {o : AObj} {w : World} (h : ObjRel c id o (w.heap[c.ι id]?)) {l : List AS} (hl : cellsOfObj o = some l) {j : Nat} {x : AS} (hx : l[j]? = some x) :
    w.cell? ⟨c.ι id, j, none⟩ = some (x.conc c) := by
  cases o with
  | map es cl => cases hl
  | iter q a l b => cases hl
  | cells m e =>
    simp only [cellsOfObj] at hl; injection hl with hl; subst hl
    simp only [ObjRel] at h
    simp [World.cell?, h, List.getElem?_map, hx]
  | row m e z =>
    simp only [cellsOfObj] at hl; injection hl with hl; subst hl
    obtain ⟨cur, h1, h2, h3, h4⟩ := h
    have : cur.toList[j]? = some (x.conc c) := by
      have e : (cur.toList.take m.length)[j]? = some (x.conc c) := by rw [h4]; simp [hx]
      rw [List.getElem?_take] at e
      split at e
      · exact e
      · cases e
    simp [World.cell?, h1]
    simpa using this
theorem obj_frozen {c : Cx} {id : Nat} {o : AObj} {w : World} (h : ObjRel c id o (w.heap[c.ι id]?)) (j : Nat) : w.frozen? ⟨c.ι id, j, none⟩ = false := by
  cases o with
  | map es cl => simp only [ObjRel] at h; simp [World.frozen?, h]
  | iter q x l b => simp only [ObjRel] at h; simp [World.frozen?, h]
  | cells m e => simp only [ObjRel] at h; simp [World.frozen?, h]
  | row m e z => obtain ⟨cur, h1, _⟩ := h; simp [World.frozen?, h1]
/-- a run of cells -/
theorem obj_cells {c : Cx} {id : Nat} {o : AObj} {w : World} (h : ObjRel c id o (w.heap[c.ι id]?)) {l : List AS} (hl : cellsOfObj o = some l) {off k : Nat} {r : List AS} (hr : takeN l off k = some r) :
    (∀ j v, (r.map (AS.conc c))[j]? = some v → w.cell? ((⟨c.ι id, off, none⟩ : Addr).add j) = some v) ∧ r.length = k ∧ (∀ x ∈ r, x ∈ l) := by
  unfold takeN at hr
  obtain ⟨h1, h2⟩ := ckB_some hr
  have h1 : off + k ≤ llen l := (natBle_iff _ _).1 h1
  rw [llen_eq] at h1
  injection h2 with h2
  rw [ltake_eq, ldrop_eq] at h2
  subst h2
  refine ⟨?_, by simp; omega, fun x hx => List.mem_of_mem_drop (List.mem_of_mem_take hx)⟩
  intro j v hv
  rw [addr_add]
  simp only [List.getElem?_map, Option.map_eq_some_iff] at hv
  obtain ⟨x, hx, rfl⟩ := hv
  rw [List.getElem?_take] at hx
  split at hx
  · rw [List.getElem?_drop] at hx
    exact obj_cell h hl hx
  · cases hx

section
variable {P : Program} {T : TyT} {c : Cx} {nx : Nat} {t : Tmps} {a : Act} {s : S} {w : World}

theorem bytesA_cons (x : AS) (l : List AS) : bytesA (x :: l) = match x with | .int .u8 t => optP (bytesA l) none fun r => some (t :: r) | _ => none := by
  cases x with
  | int k t => cases k <;> rfl
  | _ => rfl
theorem bytesA_spec : ∀ {l : List AS} {b : List Tm}, bytesA l = some b → l = b.map (fun t => AS.int .u8 t) := by
  intro l
  induction l with
  | nil => intro b h; injection h with h; subst h; rfl
  | cons x l ih =>
    intro b h
    rw [bytesA_cons] at h
    split at h <;> try (simp at h; done)
    rename_i q
    obtain ⟨r, hr, h⟩ := optP_some h
    injection h with h; subst h
    rw [ih hr]; rfl

theorem bytesLoop (f : Value → ByteArray → Sem (ForInStep ByteArray)) (hf : ∀ n s, f (.int .u8 n) s = pure (ForInStep.yield (s.push (UInt8.ofNat n.toNat)))) (vs : List Int) :
    ∀ (s : ByteArray), (forIn (vs.map (fun n => Value.int .u8 n)) s f : Sem ByteArray).run P w = .ok ⟨s.data ++ (vs.map fun n => UInt8.ofNat n.toNat).toArray⟩ w := by
  induction vs with
  | nil => intro s; simp
  | cons n vs ih =>
    intro s
    simp only [List.map_cons, List.forIn_cons, hf, Sem.run_bind, Sem.run_pure, Result.andThen_ok]
    rw [ih]
    congr 1
    apply ByteArray.ext
    simp [ByteArray.push]

theorem read_sound (hT : TOk P T) {o : Oper} {ro : ROp} (hc : compR T o.op = some ro) (hr : TRel c nx t a.tmps) (hv : View c nx s w) {v : AV} (hp : readOp t s ro = some v) :
    (execOp a.eval o).run P w = .ok (.value (v.conc c)) w ∧ v.wf c nx := by
  obtain ⟨dst, op, ty, pos, af, g⟩ := o
  cases op with
  | load ty' ad =>
    simp only [compR] at hc
    split at hc <;> try (simp at hc; done)
    rename_i i hi
    split at hc <;> try (simp at hc; done)
    rename_i x hx
    injection hc with hc; subst hc
    have hi := hT _ _ hi
    obtain ⟨u, hu, g1⟩ := optP_some (show opLoad t s (aggSize i) x = some v from hp)
    obtain ⟨⟨id, off⟩, h2, g2⟩ := optP_some g1
    obtain ⟨ob, h3, g3⟩ := optP_some g2
    obtain ⟨l, h4, g4⟩ := optP_some g3
    rw [S.get_eq] at h3
    have e := asPtrA_spec h2
    rw [e] at hu
    have e1 := (ev_spec hr hx hu).1
    simp only [AV.conc, AW.conc, AS.conc] at e1
    have hob := hv.obj id ob h3
    have hwf := hv.wf id ob h3
    have hlw : ∀ y ∈ l, y.wf c nx := by
      cases ob with
      | map => cases h4
      | iter => cases h4
      | cells m e => injection h4 with h4; subst h4; exact hwf
      | row m e z => injection h4 with h4; subst h4; exact hwf
    cases hd : isAggD i.desc with
    | false =>
      simp only [aggSize, hd] at g4
      obtain ⟨y, h5, g5⟩ := optP_some g4
      rw [lget_eq] at h5
      injection g5 with g5; subst g5
      have hcell := obj_cell hob h4 h5
      refine ⟨?_, hlw _ (List.mem_of_getElem? h5)⟩
      simp [execOp, e1, Instr.loadAt, Instr.sureAddr, loadVar, hi.run_isAgg w, hd, hcell, AV.conc, AW.conc]
    | true =>
      simp only [aggSize, hd] at g4
      obtain ⟨r, h5, g5⟩ := optP_some g4
      injection g5 with g5; subst g5
      obtain ⟨hcs, hlen, hmem⟩ := obj_cells hob h4 h5
      have hrun := run_loadCells_list (P := P) w ⟨c.ι id, off, none⟩ (r.map (AS.conc c)) hcs
      rw [List.length_map, hlen] at hrun
      refine ⟨?_, fun y hy => hlw y (hmem y hy)⟩
      simp [execOp, e1, Instr.loadAt, Instr.sureAddr, loadVar, hi.run_isAgg w, hd, hi.run_size w, hrun, AV.conc, AW.conc]
  | lookup ty' x k ok =>
    simp only [compR] at hc
    split at hc <;> try (simp at hc; done)
    rename_i i hi
    split at hc <;> try (simp at hc; done)
    rename_i kty ety hd
    split at hc <;> try (simp at hc; done)
    rename_i ie q x' k' hie hq hx hk
    injection hc with hc; subst hc
    have hi := hT _ _ hi
    have hie := hT _ _ hie
    have hK := compKT_ok hT hq
    obtain ⟨h0, n0, φ0⟩ := s
    obtain ⟨u, hu, g1⟩ := optP_some (show opLook φ0 t ⟨h0, n0, φ0⟩ q ie.zero x' k' ok = some v from hp)
    obtain ⟨m, hm, g2⟩ := optP_some g1
    have e := asS_spec hm
    rw [e] at hu
    have e1 := (ev_spec hr hx hu).1
    have res : ∀ (y : AW) (b : Bool), y.wf c nx → (if ok = true then (Value.tuple #[y.conc c, .bool b]) else y.conc c) = (lookRes y b ok).conc c ∧ (lookRes y b ok).wf c nx := by
      intro y b hy
      cases ok
      · exact ⟨rfl, hy⟩
      · refine ⟨by simp [lookRes, AV.conc, AW.conc, AS.conc], ?_⟩
        intro z hz
        rcases List.mem_cons.1 hz with rfl | hz
        · exact hy
        · simp at hz; subst hz; trivial
    split at g2 <;> try (simp at g2; done)
    · obtain ⟨kv, hkv, g3⟩ := optP_some g2
      split at g3 <;> try (simp at g3; done)
      rename_i kw
      obtain ⟨hsh, g4⟩ := ckB_some g3
      injection g4 with g4; subst g4
      have ek : a.eval k = kw.conc c := (ev_spec hr hk hkv).1
      simp only [AV.conc, AW.conc, AS.conc] at e1
      have hck : (Instr.checkKey true 10000 kty (kw.conc c)).run P w = .ok () w := checkK (P := P) w hK (shapeK_spec hsh c) true 9997
      have hemp : (([] : List MapEntry).isEmpty) = true := rfl
      have hr0 := res ie.zero false (hie.zero c nx)
      refine ⟨?_, hr0.2⟩
      have hfind : (Instr.findKey kty (kw.conc c) []).run P w = .ok none w := by
        obtain ⟨d, hd2⟩ : ∃ d, P.underlying kty = some d := by
          cases q with
          | one z => cases z with
            | int k => exact ⟨_, hK.und⟩
            | arr => exact ⟨_, hK.und.1⟩
          | str fs => exact ⟨_, hK.choose_spec.1⟩
        simp [Instr.findKey, run_underlying hd2, Instr.findNow]
      have hrun : (Instr.lookup ty' (.map none) (kw.conc c) ok).run P w = .ok ((lookRes ie.zero false ok).conc c) w := by
        rw [← hr0.1]
        simp only [Instr.lookup, Sem.run_bind, hi.run_und w, Result.andThen_ok, hd, Sem.run_pure, hie.run_zero w c]
        simp only [List.isEmpty_toArray, hemp, hck, Result.andThen_ok, hfind, Sem.run_bind, hie.run_zero w c, Sem.run_pure]
      simp [execOp, e1, ek, hrun]
    · rename_i id
      obtain ⟨ob, h3, g3⟩ := optP_some g2
      rw [S.get_eq] at h3
      split at g3 <;> try (simp at g3; done)
      rename_i es clock
      obtain ⟨kv, hkv, g4⟩ := optP_some g3
      split at g4 <;> try (simp at g4; done)
      rename_i kw
      obtain ⟨hsh, g5⟩ := ckB_some g4
      obtain ⟨r, hfe, g6⟩ := optP_some g5
      have ek : a.eval k = kw.conc c := (ev_spec hr hk hkv).1
      simp only [AV.conc, AW.conc, AS.conc] at e1
      have hob := hv.obj id _ h3
      have hwf := hv.wf id _ h3
      simp only [ObjRel] at hob
      have hck : (Instr.checkKey ((es.map (AEnt.conc c)).toArray).isEmpty 10000 kty (kw.conc c)).run P w = .ok () w := checkK (P := P) w hK (shapeK_spec hsh c) _ 9997
      obtain ⟨hfk, hfk2⟩ := findKey_spec (P := P) hv.sat hK hsh w hfe
      have hget : (getObj (c.ι id)).run P w = .ok (.map (es.map (AEnt.conc c)).toArray clock) w := by
        simp [getObj, Sem.run, hob]
      cases r with
      | none =>
        simp only at g6
        injection g6 with g6; subst g6
        have hr0 := res ie.zero false (hie.zero c nx)
        refine ⟨?_, hr0.2⟩
        have hrun : (Instr.lookup ty' (.map (some (c.ι id))) (kw.conc c) ok).run P w = .ok ((lookRes ie.zero false ok).conc c) w := by
          rw [← hr0.1]
          simp only [Instr.lookup, Sem.run_bind, hi.run_und w, Result.andThen_ok, hd, Sem.run_pure, hget, hck]
          simp only [Option.map_none] at hfk
          simp only [hfk, Result.andThen_ok, Sem.run_bind, hie.run_zero w c, Sem.run_pure]
        simp [execOp, e1, ek, hrun]
      | some p =>
        obtain ⟨j, en⟩ := p
        simp only at g6
        injection g6 with g6; subst g6
        have hen := hfk2 j en rfl
        have hr0 := res en.val true (hwf en (List.mem_of_getElem? hen.1)).2
        refine ⟨?_, hr0.2⟩
        have hrun : (Instr.lookup ty' (.map (some (c.ι id))) (kw.conc c) ok).run P w = .ok ((lookRes en.val true ok).conc c) w := by
          rw [← hr0.1]
          simp only [Instr.lookup, Sem.run_bind, hi.run_und w, Result.andThen_ok, hd, Sem.run_pure, hget, hck]
          simp only [Option.map_some] at hfk
          simp only [hfk, Result.andThen_ok, Sem.run_bind, Sem.run_pure]
        simp [execOp, e1, ek, hrun]
  | convert src dst' x =>
    simp only [compR] at hc
    split at hc <;> try (simp at hc; done)
    rename_i i d hi hdd
    split at hc <;> try (simp at hc; done)
    rename_i e hd1 hd2
    split at hc <;> try (simp at hc; done)
    rename_i ie hie
    split at hc <;> try (simp at hc; done)
    rename_i hd3
    cases hx : embO x with
    | none => rw [hx] at hc; cases hc
    | some x' =>
      rw [hx] at hc; injection hc with hc; subst hc
      have hi := hT _ _ hi
      have hdd := hT _ _ hdd
      have hie := hT _ _ hie
      obtain ⟨u, hu, g1⟩ := optP_some (show opCstr t s x' = some v from hp)
      obtain ⟨m, hm, g2⟩ := optP_some g1
      have e := asS_spec hm
      rw [e] at hu
      have e1 := (ev_spec hr hx hu).1
      have hconv : ∀ y : Option Addr × Nat × Nat, (convert src dst' (.slice y.1 y.2.1 y.2.2)).run P w = (Conv.bytesToString (.slice y.1 y.2.1 y.2.2)).run P w := by
        intro y
        simp only [convert, Sem.run_bind, hi.run_und w, hdd.run_und w, Result.andThen_ok, hd1, hd2, hie.run_und w, hd3]
      split at g2 <;> try (simp at g2; done)
      · injection g2 with g2; subst g2
        simp only [AV.conc, AW.conc, AS.conc] at e1
        refine ⟨?_, trivial⟩
        have := hconv (none, 0, 0)
        simp only at this
        simp [execOp, e1, this, Conv.bytesToString, AV.conc]
        rfl
      · rename_i id off len cap
        obtain ⟨ob, h3, g3⟩ := optP_some g2
        obtain ⟨l, h4, g4⟩ := optP_some g3
        obtain ⟨r, h5, g5⟩ := optP_some g4
        obtain ⟨b, h6, g6⟩ := optP_some g5
        injection g6 with g6; subst g6
        rw [S.get_eq] at h3
        simp only [AV.conc, AW.conc, AS.conc] at e1
        have hob := hv.obj id ob h3
        obtain ⟨hcs, hlen, hmem⟩ := obj_cells hob h4 h5
        have hrun := run_loadCells_list (P := P) w ⟨c.ι id, off, none⟩ (r.map (AS.conc c)) hcs
        rw [List.length_map, hlen] at hrun
        refine ⟨?_, trivial⟩
        have hb := bytesA_spec h6
        subst hb
        have := hconv (some ⟨c.ι id, off, none⟩, len, cap.conc c id)
        simp only at this
        have hmap : (List.map (AS.conc c) (b.map (fun t => AS.int .u8 t))) = (b.map (fun t => t.eval c.σ)).map (fun n => Value.int .u8 n) := by simp [AS.conc, Function.comp_def]
        rw [hmap] at hrun
        have hstr : (Conv.bytesToString (.slice (some ⟨c.ι id, off, none⟩) len (cap.conc c id))).run P w = .ok (.string ⟨(b.map (byteT c.σ)).toArray⟩) w := by
          simp only [Conv.bytesToString, Sem.run_bind, hrun, Result.andThen_ok]
          rw [List.forIn_toArray]
          rw [bytesLoop _ (fun _ _ => rfl)]
          simp [byteT, Function.comp_def]
        simp [execOp, e1, this, hstr, AV.conc]
  | call cl =>
    obtain ⟨callee, args, argTypes⟩ := cl
    simp only [compR] at hc
    split at hc <;> try (simp at hc; done)
    split at hc <;> try (simp at hc; done)
    rename_i x ty' hargs htys
    split at hc <;> try (simp at hc; done)
    rename_i i hi
    split at hc <;> try (simp at hc; done)
    rename_i kty ety hd
    cases hx : embO x with
    | none => rw [hx] at hc; cases hc
    | some y =>
      rw [hx] at hc; injection hc with hc; subst hc
      obtain ⟨u, hu, g1⟩ := optP_some (show opMlen t s y = some v from hp)
      obtain ⟨q, hq, g2⟩ := optP_some g1
      have e := asS_spec hq
      rw [e] at hu
      have e1 := (ev_spec hr hx hu).1
      have ha : args = #[x] := by apply Array.ext'; simpa using hargs
      have ht : argTypes = #[ty'] := by apply Array.ext'; simpa using htys
      subst ha; subst ht
      split at g2 <;> try (simp at g2; done)
      · injection g2 with g2; subst g2
        simp only [AV.conc, AW.conc, AS.conc] at e1
        refine ⟨?_, trivial⟩
        rw [callLen_run (x := x) (ty := ty')]
        simp [Builtin.len_, e1, (hT _ _ hi).run_und w, hd, vInt, AV.conc, AW.conc, AS.conc, Tm.eval, goInt]
      · rename_i id
        obtain ⟨ob, h3, g3⟩ := optP_some g2
        rw [S.get_eq] at h3
        split at g3 <;> try (simp at g3; done)
        rename_i es clock
        injection g3 with g3; subst g3
        have hob := hv.obj id _ h3
        simp only [ObjRel] at hob
        have hget : (getObj (c.ι id)).run P w = .ok (.map (es.map (AEnt.conc c)).toArray clock) w := by
          simp [getObj, Sem.run, hob]
        simp only [AV.conc, AW.conc, AS.conc] at e1
        refine ⟨?_, trivial⟩
        rw [callLen_run (x := x) (ty := ty')]
        simp [Builtin.len_, e1, (hT _ _ hi).run_und w, hd, hget, vInt, AV.conc, AW.conc, AS.conc, Tm.eval, goInt, llen_eq]
  | _ => simp [compR] at hc
end
end
end Go.Sy

/-! The symbolic executor, part L: operations that make a block. -/
namespace Go.Sy
set_option linter.unusedVariables false
set_option linter.unusedSectionVars false
noncomputable section

theorem repA_eq (z : List AS) (n : Nat) : repA z n = (List.replicate n z).flatten := by
  induction n with
  | zero => rfl
  | succ n ih => rw [repA_succ, lapp_eq, ih]; simp [List.replicate_succ]
theorem rep_range (z : List Value) (n : Nat) : (List.range (n * z.length)).map (fun i => z.toArray[i % z.toArray.size]!) = (List.replicate n z).flatten := by
  induction n with
  | zero => simp
  | succ n ih =>
    have e : (n + 1) * z.length = z.length + n * z.length := by rw [Nat.add_mul, Nat.one_mul, Nat.add_comm]
    rw [e, List.range_add, List.map_append, List.replicate_succ, List.flatten_cons, ← ih]
    congr 1
    · apply List.ext_getElem
      · simp
      · intro i h1 h2
        simp only [List.length_map, List.length_range] at h1
        simp [Nat.mod_eq_of_lt h1, getElem!_pos, h1]
    · rw [List.map_map]
      apply List.map_congr_left
      intro i hi
      simp [Function.comp_def]

section
variable {P : Program} {T : TyT} {c : Cx} {t : Tmps} {a : Act} {s : S} {w : World}

theorem cellsW_conc (x : AW) : (x.conc c).cells = ((cellsW x).map (AS.conc c)).toArray := by
  cases x with
  | s x =>
    have := AS.oneCell c x
    simp only [AW.conc, cellsW, List.map_cons, List.map_nil]
    cases hx : x.conc c <;> simp_all [Value.cells, Value.oneCell']
  | agg l => rfl
theorem cellsW_wf {nx : Nat} {x : AW} (h : x.wf c nx) : ∀ y ∈ cellsW x, y.wf c nx := by
  cases x with
  | s x => intro y hy; simp [cellsW] at hy; subst hy; exact h
  | agg l => exact h

/-- a block of cells that is made -/
theorem make_cells (l : List AS) (e : TypeId) (hl : ∀ x ∈ l, x.wf c s.nx) :
    let c' := c.set2 s.nx w.heap.size 0
    (AObj.cells l e).wf c' (s.nx + 1) ∧ ObjRel c' s.nx (.cells l e) (some (.cells (l.map (AS.conc c)).toArray e)) := by
  have he := Cx.set2_ext c s.nx w.heap.size 0
  refine ⟨fun x hx => AS.wf_ext he (by omega) (hl x hx), ?_⟩
  simp only [ObjRel]
  rw [concL_ext he hl]

theorem rep_run {e : TypeId} {ie : TyA} (hie : TyOk P e ie) (n : Nat) :
    (if n * ie.size = 0 then (pure #[] : Sem (Array Value)) else do pure (← zeroValue e).cells).run P w = .ok (if n * ie.size = 0 then #[] else ((cellsW ie.zero).map (AS.conc c)).toArray) w := by
  split
  · rfl
  · simp [hie.run_zero w c, cellsW_conc]
theorem rep_cells {e : TypeId} {ie : TyA} (hie : TyOk P e ie) (n : Nat) :
    (Array.range (n * ie.size)).map ((fun (zero : Array Value) i => zero[i % zero.size]!) (if n * ie.size = 0 then #[] else ((cellsW ie.zero).map (AS.conc c)).toArray)) = ((repA (cellsW ie.zero) n).map (AS.conc c)).toArray := by
  have hlen := hie.len
  have hr := rep_range ((cellsW ie.zero).map (AS.conc c)) n
  rw [List.length_map, hlen] at hr
  apply Array.ext'
  rw [repA_eq]
  have e : List.map (AS.conc c) (List.replicate n (cellsW ie.zero)).flatten = (List.replicate n ((cellsW ie.zero).map (AS.conc c))).flatten := by
    rw [List.map_flatten, List.map_replicate]
  rw [e, ← hr]
  by_cases h0 : n * ie.size = 0
  · rw [h0]; simp
  · rw [if_neg h0]; simp

theorem make_sound (hT : TOk P T) {o : Oper} {mo : MOp} (hc : compM T o.op = some mo) (hr : TRel c s.nx t a.tmps) {obj : AObj} {v : AV} (hp : makeOp t s.nx mo = some (obj, v)) :
    ∃ ob, (execOp a.eval o).run P w = .ok (.value (v.conc (c.set2 s.nx w.heap.size 0))) (w.alloc ob) ∧ v.wf (c.set2 s.nx w.heap.size 0) (s.nx + 1) ∧
      obj.wf (c.set2 s.nx w.heap.size 0) (s.nx + 1) ∧ ObjRel (c.set2 s.nx w.heap.size 0) s.nx obj (some ob) := by
  have hin : (c.set2 s.nx w.heap.size 0).ι s.nx = w.heap.size := by simp [Cx.set2]
  obtain ⟨dst, op, ty, pos, af, g⟩ := o
  cases op with
  | alloc e =>
    simp only [compM] at hc
    split at hc <;> try (simp at hc; done)
    rename_i i hi
    have hi := hT _ _ hi
    injection hc with hc; subst hc
    simp only [makeOp] at hp
    injection hp with hp; injection hp with h1 h2; subst h1; subst h2
    have hm := make_cells (c := c) (s := s) (w := w) (cellsW i.zero) e (cellsW_wf (hi.zero c s.nx))
    refine ⟨_, ?_, ?_, hm.1, hm.2⟩
    · have hrun : (Instr.alloc e true (.tuple #[])).run P w = .ok (.pointer (some ⟨w.heap.size, 0, none⟩)) (w.alloc (.cells ((cellsW i.zero).map (AS.conc c)).toArray e)) := by
        simp [Instr.alloc, hi.run_zero w c, newVar, newRow, cellsW_conc]
      simp only [execOp, Sem.run_bind, hrun, Result.andThen_ok, Sem.run_pure]
      simp [AV.conc, AW.conc, AS.conc, hin]
    · show s.nx < s.nx + 1; omega
  | box e x =>
    simp only [compM] at hc
    split at hc <;> try (simp at hc; done)
    rename_i x' hx
    injection hc with hc; subst hc
    obtain ⟨u, hu, g1⟩ := optP_some (show (optP (ev t x') none fun v => optP (cellsA v) none fun l => some (AObj.cells l e, AV.w (.s (.ptr s.nx 0)))) = some (obj, v) from hp)
    obtain ⟨l, hl, g2⟩ := optP_some g1
    injection g2 with g2; injection g2 with h1 h2; subst h1; subst h2
    have e1 := ev_spec hr hx hu
    have e2 := cellsA_spec hl c s.nx
    have hm := make_cells (c := c) (s := s) (w := w) l e (e2.2 e1.2)
    refine ⟨_, ?_, ?_, hm.1, hm.2⟩
    · have hrun : (Instr.box e (a.eval x)).run P w = .ok (.pointer (some ⟨w.heap.size, 0, none⟩)) (w.alloc (.cells (l.map (AS.conc c)).toArray e)) := by
        simp [Instr.box, newVar, newRow, e1.1, e2.1]
      simp only [execOp, Sem.run_bind, hrun, Result.andThen_ok, Sem.run_pure]
      simp [AV.conc, AW.conc, AS.conc, hin]
    · show s.nx < s.nx + 1; omega
  | buildSlice ty' n ps =>
    simp only [compM] at hc
    split at hc <;> try (simp at hc; done)
    rename_i i hi
    split at hc <;> try (simp at hc; done)
    rename_i e hd
    split at hc <;> try (simp at hc; done)
    rename_i ie hie
    split at hc <;> try (simp at hc; done)
    rename_i ps' hb hps
    have hb := (natBle_iff _ _).1 hb
    injection hc with hc; subst hc
    have hi := hT _ _ hi
    have hie := hT _ _ hie
    obtain ⟨l, hl, g1⟩ := optP_some (show (optP (fillA t ps' (repA (cellsW ie.zero) n)) none fun l => some (AObj.cells l e, AV.w (.s (.slice s.nx 0 n (.ex n))))) = some (obj, v) from hp)
    injection g1 with g1; injection g1 with h1 h2; subst h1; subst h2
    have hzw : ∀ x ∈ repA (cellsW ie.zero) n, x.wf c s.nx := by
      intro x hx
      rw [repA_eq] at hx
      simp only [List.mem_flatten, List.mem_replicate] at hx
      obtain ⟨m, ⟨_, rfl⟩, hx⟩ := hx
      exact cellsW_wf (hie.zero c s.nx) x hx
    have hf := fill_spec hr hps hl hzw
    have hm := make_cells (c := c) (s := s) (w := w) l e hf.2.1
    refine ⟨_, ?_, ?_, hm.1, hm.2⟩
    · have hrun : (Instr.buildSlice ty' n (ps.map fun (i, x) => (i, a.eval x))).run P w = .ok (.slice (some ⟨w.heap.size, 0, none⟩) n n) (w.alloc (.cells (l.map (AS.conc c)).toArray e)) := by
        simp only [Instr.buildSlice, Sem.run_bind, hi.run_und w, Result.andThen_ok, hd, hie.run_size w]
        rw [if_neg (by omega)]
        have hrc := rep_cells (c := c) hie n
        have hf1 := hf.1
        by_cases h0 : n * ie.size = 0
        · rw [if_pos h0] at hrc ⊢
          simp only [Sem.run_bind, Sem.run_pure, Result.andThen_ok, Array.toList_map]
          rw [hrc, hf1]
          simp [newRow]
        · rw [if_neg h0] at hrc ⊢
          simp only [Sem.run_bind, Sem.run_pure, Result.andThen_ok, hie.run_zero w c, cellsW_conc, Array.toList_map]
          rw [hrc, hf1]
          simp [newRow]
      simp [execOp, hrun, AV.conc, AW.conc, AS.conc, ACap.conc, hin]
    · exact ⟨by show s.nx < s.nx + 1; omega, Nat.le_refl _⟩
  | makeMap ty' r =>
    cases r with
    | some r => simp [compM] at hc
    | none =>
      simp only [compM] at hc
      injection hc with hc; subst hc
      simp only [makeOp] at hp
      injection hp with hp; injection hp with h1 h2; subst h1; subst h2
      refine ⟨.map #[] 0, ?_, ?_, ?_, ?_⟩
      · simp [execOp, Instr.makeMap, AV.conc, AW.conc, AS.conc, hin]
      · show s.nx < s.nx + 1; omega
      · intro e he; cases he
      · simp [ObjRel]
  | makeSlice ty' n cp =>
    simp only [compM] at hc
    split at hc <;> try (simp at hc; done)
    rename_i i hi
    split at hc <;> try (simp at hc; done)
    rename_i e hd
    split at hc <;> try (simp at hc; done)
    rename_i ie n' cp' hie hn hcp
    injection hc with hc; subst hc
    have hi := hT _ _ hi
    have hie := hT _ _ hie
    obtain ⟨inf, hinf, _, hby, _⟩ := hie.info
    obtain ⟨u, hu, g1⟩ := optP_some (show (optP (ev t n') none fun v => optP (asNatA v) none fun n => optP (ev t cp') none fun v => optP (asNatA v) none fun c =>
      ckB (and2 (Nat.ble n c) (and2 (Nat.ble c 1048576) (Nat.ble ie.bytes 1048576))) none (some (AObj.cells (repA (cellsW ie.zero) c) e, AV.w (.s (.slice s.nx 0 n (.ex c)))))) = some (obj, v) from hp)
    obtain ⟨m, hm, g2⟩ := optP_some g1
    obtain ⟨u2, hu2, g3⟩ := optP_some g2
    obtain ⟨m2, hm2, g4⟩ := optP_some g3
    obtain ⟨hk, g5⟩ := ckB_some g4
    obtain ⟨k1, hk⟩ := and2_iff.1 hk
    obtain ⟨k2, k3⟩ := and2_iff.1 hk
    have k1 := (natBle_iff _ _).1 k1
    have k2 := (natBle_iff _ _).1 k2
    have k3 := (natBle_iff _ _).1 k3
    injection g5 with g5; injection g5 with h1 h2; subst h1; subst h2
    obtain ⟨q1, e1⟩ := asNatA_spec hm
    obtain ⟨q2, e2⟩ := asNatA_spec hm2
    rw [e1] at hu; rw [e2] at hu2
    have f1 := (ev_spec hr hn hu).1
    have f2 := (ev_spec hr hcp hu2).1
    simp only [AV.conc, AW.conc, AS.conc, Tm.eval] at f1 f2
    have hzw : ∀ x ∈ repA (cellsW ie.zero) m2, x.wf c s.nx := by
      intro x hx
      rw [repA_eq] at hx
      simp only [List.mem_flatten, List.mem_replicate] at hx
      obtain ⟨m, ⟨_, rfl⟩, hx⟩ := hx
      exact cellsW_wf (hie.zero c s.nx) x hx
    have hmk := make_cells (c := c) (s := s) (w := w) (repA (cellsW ie.zero) m2) e hzw
    refine ⟨_, ?_, ?_, hmk.1, hmk.2⟩
    · have hw1 : IntKind.i64.wrap (m : Int) = m := wrap_nat (by show m ≤ 9223372036854775807; omega)
      have hw2 : IntKind.i64.wrap (m2 : Int) = m2 := wrap_nat (by show m2 ≤ 9223372036854775807; omega)
      have hbnd : ¬ ((ie.bytes : Int) * (m2 : Int) > 2 ^ 48) := by
        have h1 : ie.bytes * m2 ≤ 1048576 * 1048576 := Nat.mul_le_mul k3 k2
        have h2 : ((ie.bytes * m2 : Nat) : Int) = (ie.bytes : Int) * (m2 : Int) := by simp
        rw [← h2]; omega
      have hrun : (Instr.makeSlice ty' (.int q1 m) (.int q2 m2)).run P w = .ok (.slice (some ⟨w.heap.size, 0, none⟩) m m2) (w.alloc (.cells ((repA (cellsW ie.zero) m2).map (AS.conc c)).toArray e)) := by
        simp only [Instr.makeSlice, Sem.run_bind, hi.run_und w, Result.andThen_ok, hd, asInt, asIntOf, Sem.run_pure, typeInfo, run_program, hinf, hw1, hw2, hby]
        have hc1 : ¬ (((m2 : Int) < 0) ∨ ((ie.bytes : Int) * (m2 : Int) > 2 ^ 48)) := by omega
        have hcond : ((decide ((m2 : Int) < 0) || decide ((ie.bytes : Int) * (m2 : Int) > 2 ^ 48)) || decide ((m : Int) < 0) || decide ((m : Int) > (m2 : Int))) = false := by
          simp only [Bool.or_eq_false_iff, decide_eq_false_iff_not]
          refine ⟨⟨⟨by omega, hbnd⟩, by omega⟩, by omega⟩
        simp only [hcond, Bool.false_eq_true, if_false, Sem.run_pure, Result.andThen_ok, run_askRoom, Sem.run_bind, hie.run_size w, Int.toNat_natCast]
        have hrc := rep_cells (c := c) hie m2
        by_cases h0 : m2 * ie.size = 0
        · rw [if_pos h0] at hrc ⊢
          simp only [Sem.run_bind, Sem.run_pure, Result.andThen_ok]
          rw [hrc]
          simp [newRow]
        · rw [if_neg h0] at hrc ⊢
          simp only [Sem.run_bind, Sem.run_pure, Result.andThen_ok, hie.run_zero w c, cellsW_conc]
          rw [hrc]
          simp [newRow]
      simp [execOp, f1, f2, hrun, AV.conc, AW.conc, AS.conc, ACap.conc, hin]
    · exact ⟨by show s.nx < s.nx + 1; omega, k1⟩
  | _ => simp [compM] at hc
end
end
end Go.Sy

/-! The symbolic executor, part M: operations that write. -/
namespace Go.Sy
set_option linter.unusedVariables false
set_option linter.unusedSectionVars false
noncomputable section

def S.updK (s : S) (id : Nat) (o : AObj) (k : S → Bool) : Bool := match s with | .mk h nx φ => h.setK (some o) (Nat.succ id) fun h => k ⟨h, nx, φ⟩
def S.newK (s : S) (o : AObj) (k : S → Bool) : Bool := match s with | .mk h nx φ => h.setK (some o) (Nat.succ nx) fun h => forceN (Nat.add nx 1) fun nx => k ⟨h, nx, φ⟩
def S.moveK (s : S) (id : Nat) (o : AObj) (k : S → Bool) : Bool := match s with
  | .mk h nx φ => h.setK none (Nat.succ id) fun h => h.setK (some o) (Nat.succ nx) fun h => forceN (Nat.add nx 1) fun nx => k ⟨h, nx, φ⟩
def S.move (s : S) (id : Nat) (o : AObj) : S := ⟨(s.h.set none (Nat.succ id)).set (some o) (Nat.succ s.nx), Nat.succ s.nx, s.φ⟩
theorem S.updK_eq (s : S) (id : Nat) (o : AObj) (k : S → Bool) : s.updK id o k = k (s.upd id o) := by cases s; simp only [S.updK, Tree.setK_eq]; rfl
theorem S.newK_eq (s : S) (o : AObj) (k : S → Bool) : s.newK o k = k (s.new o) := by cases s; simp only [S.newK, Tree.setK_eq, forceN_eq]; rfl
theorem S.moveK_eq (s : S) (id : Nat) (o : AObj) (k : S → Bool) : s.moveK id o k = k (s.move id o) := by cases s; simp only [S.moveK, Tree.setK_eq, forceN_eq]; rfl

def optB {α : Type} (o : Option α) (k : α → Bool) : Bool := match o with | none => false | some x => k x
theorem optB_true {α : Type} {o : Option α} {k : α → Bool} (h : optB o k = true) : ∃ x, o = some x ∧ k x = true := by
  cases o with
  | none => cases h
  | some x => exact ⟨x, rfl, h⟩
def ifB (b k : Bool) : Bool := match b with | true => k | false => false
theorem ifB_true {b k : Bool} (h : ifB b k = true) : b = true ∧ k = true := by cases b <;> simp_all [ifB]
/-- other cells in an object -/
def setCellsK (o : AObj) (l : List AS) (k : AObj → Bool) : Bool := match o with | .cells _ e => k (.cells l e) | .row _ e z => k (.row l e z) | .map _ _ => false | .iter _ _ _ _ => false
abbrev BK := AV → S → Bool

def bStore (n : Nat) (a v : AV) (s : S) (k : BK) : Bool := optB (asPtrA a) fun p => optB (s.get p.1) fun o => optB (cellsOfObj o) fun l => optB (cellsA v) fun xs =>
  ifB (and2 (Nat.beq (llen xs) n) (Nat.ble (Nat.add p.2 n) (llen l))) (lsetK l p.2 xs fun l' => setCellsK o l' fun o' => s.updK p.1 o' fun s => k .undef s)
def esSetK (es : List AEnt) : Nat → AEnt → (List AEnt → Bool) → Bool :=
  List.rec (fun _ _ k => k []) (fun x l ih n e k => Nat.casesOn n (k (e :: l)) fun n => ih n e fun l' => k (x :: l')) es
def esDelK (es : List AEnt) : Nat → (List AEnt → Bool) → Bool :=
  List.rec (fun _ k => k []) (fun x l ih n k => Nat.casesOn n (k l) fun n => ih n fun l' => k (x :: l')) es
def esAddK (es : List AEnt) (e : AEnt) : (List AEnt → Bool) → Bool :=
  List.rec (fun k => k [e]) (fun x _ ih k => ih fun l' => k (x :: l')) es
theorem esSetK_eq (e : AEnt) : ∀ (es : List AEnt) (n : Nat) (k : List AEnt → Bool), esSetK es n e k = k (es.set n e) := by
  intro es
  induction es with
  | nil => intro n k; rfl
  | cons x l ih =>
    intro n k
    cases n with
    | zero => rfl
    | succ n => show esSetK l n e (fun l' => k (x :: l')) = _; rw [ih]; rfl
theorem esDelK_eq : ∀ (es : List AEnt) (n : Nat) (k : List AEnt → Bool), esDelK es n k = k (es.eraseIdx n) := by
  intro es
  induction es with
  | nil => intro n k; rfl
  | cons x l ih =>
    intro n k
    cases n with
    | zero => rfl
    | succ n => show esDelK l n (fun l' => k (x :: l')) = _; rw [ih]; rfl
theorem esAddK_eq (e : AEnt) : ∀ (es : List AEnt) (k : List AEnt → Bool), esAddK es e k = k (es ++ [e]) := by
  intro es
  induction es with
  | nil => intro k; rfl
  | cons x l ih => intro k; show esAddK l e (fun l' => k (x :: l')) = _; rw [ih]; rfl
def asW (v : AV) : Option AW := match v with | .w x => some x | _ => none
theorem asW_spec {v : AV} {x : AW} (h : asW v = some x) : v = .w x := by unfold asW at h; split at h <;> simp_all
def mapOf (o : AObj) : Option (List AEnt × Nat) := match o with | .map es cl => some (es, cl) | _ => none
theorem mapOf_spec {o : AObj} {es : List AEnt} {cl : Nat} (h : mapOf o = some (es, cl)) : o = .map es cl := by unfold mapOf at h; split at h <;> simp_all
def S.phi (s : S) : Phi := match s with | .mk _ _ φ => φ
def bMupd (kt : KT) (m key v : AV) (s : S) (k : BK) : Bool := optB (asMapA m) fun id => optB (s.get id) fun o => optB (mapOf o) fun p => optB (asW key) fun kw => optB (asW v) fun vw =>
  ifB (shapeK kt kw) (optB (findE s.phi kw p.1 0) fun r => match r with
    | some (i, e) => esSetK p.1 i ⟨kw, vw, e.born⟩ fun es => s.updK id (.map es p.2) fun s => k .undef s
    | none => esAddK p.1 ⟨kw, vw, p.2⟩ fun es => s.updK id (.map es (Nat.succ p.2)) fun s => k .undef s)
def bDel (kt : KT) (m key : AV) (s : S) (k : BK) : Bool := optB (asMapA m) fun id => optB (s.get id) fun o => optB (mapOf o) fun p => optB (asW key) fun kw =>
  ifB (shapeK kt kw) (optB (findE s.phi kw p.1 0) fun r => match r with
    | some (i, _) => esDelK p.1 i fun es => s.updK id (.map es p.2) fun s => k (.tup []) s
    | none => k (.tup []) s)

section
variable {P : Program} {T : TyT} {c : Cx} {s : S} {w : World}

theorem setRow_eq_of {w : World} {g : Nat} {cur : Array Value} {e : TypeId} (hg : w.heap[g]? = some (.cells cur e (0, 0))) (cs : Array Value) : (w.setRow g cs).heap[g]? = some (.cells cs e (0, 0)) := setRow_heap w g cur cs e _ hg

/-- a row of cells over a part of an object's cells -/
theorem over_row {id : Nat} {o : AObj} {w : World} (h : ObjRel c id o (w.heap[c.ι id]?)) {l : List AS} (hl : cellsOfObj o = some l) {off : Nat} {xs : List AS} (hfit : off + xs.length ≤ l.length)
    {k : AObj → Bool} (hk : setCellsK o (lset l off xs) k = true) :
    ∃ cur e o', w.heap[c.ι id]? = some (.cells cur e (0, 0)) ∧ off + xs.length ≤ cur.size ∧ k o' = true ∧ (∀ nx, o.wf c nx → (∀ x ∈ xs, x.wf c nx) → o'.wf c nx) ∧
      ObjRel c id o' (some (.cells ((cur.toList.take off ++ xs.map (AS.conc c) ++ cur.toList.drop (off + xs.length)).toArray) e (0, 0))) := by
  rw [lset_eq _ _ _ hfit] at hk
  have hmem : ∀ {nx : Nat}, (∀ x ∈ l, x.wf c nx) → (∀ x ∈ xs, x.wf c nx) → ∀ x ∈ l.take off ++ xs ++ l.drop (off + xs.length), x.wf c nx := by
    intro nx h1 h2 x hx
    simp only [List.mem_append] at hx
    rcases hx with (hx | hx) | hx
    · exact h1 x (List.mem_of_mem_take hx)
    · exact h2 x hx
    · exact h1 x (List.mem_of_mem_drop hx)
  cases o with
  | map es cl => cases hl
  | iter q a l b => cases hl
  | cells m e =>
    simp only [cellsOfObj] at hl; injection hl with hl; subst hl
    simp only [ObjRel] at h
    refine ⟨_, e, _, h, by simpa using hfit, hk, fun nx h1 h2 => hmem h1 h2, ?_⟩
    simp [ObjRel, List.map_take, List.map_drop]
  | row m e z =>
    simp only [cellsOfObj] at hl; injection hl with hl; subst hl
    obtain ⟨cur, h1, h2, h3, h4⟩ := h
    have hlen : m.length ≤ cur.size := by
      have := congrArg List.length h4
      simp at this; omega
    refine ⟨cur, e, _, h1, by omega, hk, fun nx h1 h2 => hmem h1 h2, ?_⟩
    refine ⟨_, rfl, h2, ?_, ?_⟩
    · rw [← h3]; simp; omega
    · have e1 : (m.take off ++ xs ++ m.drop (off + xs.length)).length = m.length := by simp; omega
      rw [e1]
      simp only [List.map_append, List.map_take, List.map_drop, ← h4]
      rw [List.append_assoc, List.append_assoc]
      have hl1 : (cur.toList.take off).length = off := by simp; omega
      have t1 : ∀ (A B C : List Value), A.length = off → B.length = xs.length → (A ++ (B ++ C)).take m.length = A ++ (B ++ C.take (m.length - (off + xs.length))) := by
        intro A B C hA hB
        rw [List.take_append, List.take_append, hA, hB]
        rw [List.take_of_length_le (by omega), List.take_of_length_le (by omega)]
        have : m.length - off - xs.length = m.length - (off + xs.length) := by omega
        rw [this]
      rw [t1 _ _ _ hl1 (by simp)]
      congr 1
      · rw [List.take_take]; congr 1; omega
      · congr 1
        rw [List.drop_take]

theorem store_step {id : Nat} {o o' : AObj} {w : World} (h : Rel c s w) (hid : s.at id = some o) {cur : Array Value} {e : TypeId} (hcur : w.heap[c.ι id]? = some (.cells cur e (0, 0))) (cs : Array Value)
    (hw : o'.wf c s.nx) (ho : ObjRel c id o' (some (.cells cs e (0, 0)))) : Rel c (s.upd id o') (w.setRow (c.ι id) cs) ∧ Step c c s (s.upd id o') w (w.setRow (c.ι id) cs) := by
  have hother : ∀ b, b ≠ c.ι id → (w.setRow (c.ι id) cs).heap[b]? = w.heap[b]? := fun b hb => setRow_other w _ b cs hb
  refine ⟨h.upd hid hw (by rw [setRow_eq_of hcur]; exact ho) hother, Step.upd o' hid rfl rfl rfl (by simp) hother⟩

/-- What comes of an operation that writes. -/
def BOk (P : Program) (c : Cx) (s : S) (w : World) (r : Result Next) (k : BK) : Prop :=
  ∃ c' v s' w', r = .ok (.value (v.conc c')) w' ∧ v.wf c' s'.nx ∧ Step c c' s s' w w' ∧ Rel c' s' w' ∧ k v s' = true

theorem store_sound {t : TypeId} {i : TyA} (hi : TyOk P t i) (h : Rel c s w) {a v : AV} (ha : a.wf c s.nx) (hv : v.wf c s.nx) {k : BK} (hk : bStore i.size a v s k = true) :
    ∃ s' w', (Instr.storeAt t (a.conc c) (v.conc c)).run P w = .ok () w' ∧ Step c c s s' w w' ∧ Rel c s' w' ∧ k .undef s' = true := by
  unfold bStore at hk
  obtain ⟨⟨id, off⟩, h1, hk1⟩ := optB_true hk
  obtain ⟨o, h2, hk2⟩ := optB_true hk1
  obtain ⟨l, h3, hk3⟩ := optB_true hk2
  obtain ⟨xs, h4, hk4⟩ := optB_true hk3
  obtain ⟨h5, hk5⟩ := ifB_true hk4
  clear hk hk1 hk2 hk3 hk4
  obtain ⟨h5, h6⟩ := and2_iff.1 h5
  have h5 := (natBeq_iff _ _).1 h5
  have h6 : off + i.size ≤ llen l := (natBle_iff _ _).1 h6
  rw [llen_eq] at h5 h6
  rw [lsetK_eq] at hk5
  rw [S.get_eq] at h2
  have e := asPtrA_spec h1
  subst e
  have hob := h.obj id o h2
  obtain ⟨cur, e, o', g1, g2, g3, g4, g5⟩ := over_row hob h3 (show off + xs.length ≤ l.length by omega) hk5
  rw [S.updK_eq] at g3
  have hcl := cellsA_spec h4 c s.nx
  have hst := store_step h h2 g1 _ (g4 s.nx (h.wf id o h2) (hcl.2 hv)) g5
  refine ⟨_, _, ?_, hst.2, hst.1, g3⟩
  have hrun := run_storeCells_at P (c.ι id) off e (xs.map (AS.conc c)) 0 cur w g1 (by simpa using g2) (by
    intro u hu
    simp only [List.mem_map] at hu
    obtain ⟨x, _, rfl⟩ := hu
    exact AS.oneCell c x)
  have ea : (AV.w (.s (.ptr id off))).conc c = .pointer (some ⟨c.ι id, off, none⟩) := rfl
  rw [ea]
  simp only [Instr.storeAt, Instr.sureAddr, Sem.run_bind, Sem.run_pure, Result.andThen_ok, storeVar, hcl.1, hi.run_size w]
  rw [if_neg (by simp; omega)]
  simp only [Nat.add_zero, List.length_map] at hrun
  exact hrun
end
end
end Go.Sy

/-! The symbolic executor, part N: maps written, slices appended to and copied. -/
namespace Go.Sy
set_option linter.unusedVariables false
set_option linter.unusedSectionVars false
noncomputable section

section
variable {P : Program} {T : TyT} {c : Cx} {s : S} {w : World}

def setObjW (w : World) (r : Nat) (o : Obj) : World := { w with heap := w.heap.setIfInBounds r o }
theorem setObjW_heap {w : World} {r : Nat} {o : Obj} (h : r < w.heap.size) : (setObjW w r o).heap[r]? = some o := by simp [setObjW, h]
theorem setObjW_other {w : World} {r : Nat} {o : Obj} {b : Nat} (h : b ≠ r) : (setObjW w r o).heap[b]? = w.heap[b]? := by
  simp only [setObjW]; rw [Array.getElem?_setIfInBounds_ne (by omega)]
theorem map_step {id : Nat} {es es' : List AEnt} {cl cl' : Nat} (h : Rel c s w) (hid : s.at id = some (.map es cl)) (hw : (AObj.map es' cl').wf c s.nx) :
    Rel c (s.upd id (.map es' cl')) (setObjW w (c.ι id) (.map (es'.map (AEnt.conc c)).toArray cl')) ∧
    Step c c s (s.upd id (.map es' cl')) w (setObjW w (c.ι id) (.map (es'.map (AEnt.conc c)).toArray cl')) := by
  have hlt := h.ι_lt hid
  have hother : ∀ b, b ≠ c.ι id → (setObjW w (c.ι id) (.map (es'.map (AEnt.conc c)).toArray cl')).heap[b]? = w.heap[b]? := fun b hb => setObjW_other hb
  refine ⟨h.upd hid hw ?_ hother, Step.upd _ hid rfl rfl rfl (by simp [setObjW]) hother⟩
  rw [setObjW_heap hlt]; rfl
theorem run_setObj {r : Nat} {es : Array MapEntry} {cl : Nat} (o : Obj) (h : w.heap[r]? = some (.map es cl)) : (setObj r o).run P w = .ok () (setObjW w r o) := by
  simp [setObj, Sem.run, h, setObjW]
theorem run_getMap {r : Nat} {es : Array MapEntry} {cl : Nat} (h : w.heap[r]? = some (.map es cl)) : (getObj r).run P w = .ok (.map es cl) w := by
  simp [getObj, Sem.run, h]

theorem sameBits_ints {k : IntKind} : ∀ (vs : List Value), IntsV k vs → (vs.zip vs).all (fun (x, y) => Instr.sameBits 9999 x y) = true := by
  intro vs
  induction vs with
  | nil => intro _; rfl
  | cons v vs ih =>
    intro h
    obtain ⟨n, rfl⟩ := h v (by simp)
    simp only [List.zip_cons_cons, List.all_cons, Bool.and_eq_true]
    exact ⟨by simp [Instr.sameBits], ih (fun u hu => h u (by simp [hu]))⟩
theorem allInts_S : ∀ {fs : List (Nat × TypeId × KT1)} {cs : List Value} {cur : Nat}, ShS fs cs cur → ∀ v ∈ cs.drop cur, ∃ k n, v = .int k n := by
  intro fs
  induction fs with
  | nil => intro cs cur h v hv; simp only [ShS] at h; rw [h] at hv; cases hv
  | cons g fs ih =>
    intro cs cur h v hv
    obtain ⟨h1, h2, h3⟩ := h
    rw [← List.take_append_drop (kt1Size g.2.2) (cs.drop cur)] at hv
    rcases List.mem_append.1 hv with hv | hv
    · obtain ⟨n, rfl⟩ := h2.2 v hv; exact ⟨_, n, rfl⟩
    · rw [List.drop_drop] at hv; exact ih h3 v hv
theorem sameBits_all (vs : List Value) (h : ∀ v ∈ vs, ∃ k n, v = .int k n) : (vs.zip vs).all (fun (x, y) => Instr.sameBits 9999 x y) = true := by
  induction vs with
  | nil => rfl
  | cons v vs ih =>
    obtain ⟨k, n, rfl⟩ := h v (by simp)
    simp only [List.zip_cons_cons, List.all_cons, Bool.and_eq_true]
    exact ⟨by simp [Instr.sameBits], ih (fun u hu => h u (by simp [hu]))⟩
theorem sameBits_K {kt : KT} {v : Value} (h : ShK kt v) : Instr.sameBits 10000 v v = true := by
  have agg : ∀ vs : List Value, (∀ v ∈ vs, ∃ k n, v = .int k n) → Instr.sameBits 10000 (.agg vs.toArray) (.agg vs.toArray) = true := by
    intro vs hv
    have := sameBits_all vs hv
    simp only [Instr.sameBits]
    simpa using this
  cases kt with
  | str fs =>
    obtain ⟨vs, rfl, hs⟩ := h
    exact agg vs (fun v hv => allInts_S hs v (by simpa using hv))
  | one x =>
    obtain ⟨vs, rfl, hl, hi⟩ := h
    cases x with
    | int k =>
      match vs, hl with
      | [u], _ => obtain ⟨n, rfl⟩ := hi u (by simp); simp [v1, Instr.sameBits]
    | arr n e k => exact agg vs (fun v hv => by obtain ⟨n, rfl⟩ := hi v hv; exact ⟨_, n, rfl⟩)

theorem asMapA_spec {v : AV} {id : Nat} (h : asMapA v = some id) : v = .w (.s (.map id)) := by unfold asMapA at h; split at h <;> simp_all
theorem modify_set (es : List MapEntry) (j : Nat) (f : MapEntry → MapEntry) {e : MapEntry} (h : es[j]? = some e) : (es.toArray.modify j f) = (es.set j (f e)).toArray := by
  apply Array.ext'
  rw [Array.toList_modify]
  apply List.ext_getElem?
  intro i
  rw [List.getElem?_modify, List.getElem?_set]
  by_cases hi : j = i
  · subst hi
    have hlt : j < es.length := by
      rcases Nat.lt_or_ge j es.length with hh | hh
      · exact hh
      · rw [List.getElem?_eq_none hh] at h; cases h
    have : es[j] = e := by rw [List.getElem?_eq_getElem hlt] at h; injection h
    simp [hlt, this]
  · simp [hi]
theorem map_set_conc (c : Cx) (es : List AEnt) (j : Nat) (e : AEnt) : (es.set j e).map (AEnt.conc c) = (es.map (AEnt.conc c)).set j (e.conc c) := by
  rw [List.map_set]

theorem mupd_sound (hT : TOk P T) {t kty ety : TypeId} {i : TyA} (hi : TyOk P t i) (hd : i.desc = .map kty ety) {kt : KT} (hK : KOk P kty kt) (h : Rel c s w) {m key v : AV}
    (hv : v.wf c s.nx) (hkey : key.wf c s.nx) {k : BK} (hk : bMupd kt m key v s k = true) :
    ∃ s' w', (Instr.mapUpdate t (m.conc c) (key.conc c) (v.conc c)).run P w = .ok () w' ∧ Step c c s s' w w' ∧ Rel c s' w' ∧ k .undef s' = true := by
  unfold bMupd at hk
  obtain ⟨id, h1, hk1⟩ := optB_true hk
  obtain ⟨o, h2, hk2⟩ := optB_true hk1
  obtain ⟨⟨es, cl⟩, h3, hk3⟩ := optB_true hk2
  obtain ⟨kw, h4, hk4⟩ := optB_true hk3
  obtain ⟨vw, h5, hk5⟩ := optB_true hk4
  obtain ⟨h6, hk6⟩ := ifB_true hk5
  obtain ⟨r, h7, hk7⟩ := optB_true hk6
  clear hk hk1 hk2 hk3 hk4 hk5 hk6
  have e1 := asMapA_spec h1
  have e3 := mapOf_spec h3
  have e4 := asW_spec h4
  have e5 := asW_spec h5
  subst e1; subst e3; subst e4; subst e5
  rw [S.get_eq] at h2
  have hphi : s.phi = s.φ := by cases s; rfl
  rw [hphi] at h7
  have hob := h.obj id _ h2
  have hwf := h.wf id _ h2
  simp only [ObjRel] at hob
  have hsh := shapeK_spec h6 c
  have hck : (Instr.checkKey false 10000 kty (kw.conc c)).run P w = .ok () w := checkK w hK hsh false 9997
  obtain ⟨hf1, hf2⟩ := findKey_spec (P := P) h.sat hK h6 w h7
  have ea : (AV.w (.s (.map id))).conc c = .map (some (c.ι id)) := rfl
  have ek : (AV.w kw).conc c = kw.conc c := rfl
  have ev' : (AV.w vw).conc c = vw.conc c := rfl
  rw [ea, ek, ev']
  cases r with
  | none =>
    simp only [esAddK_eq, S.updK_eq] at hk7
    have hw' : (AObj.map (es ++ [⟨kw, vw, cl⟩]) (cl + 1)).wf c s.nx := by
      intro e he
      rcases List.mem_append.1 he with he | he
      · exact hwf e he
      · simp at he; subst he; exact ⟨hkey, hv⟩
    have hst := map_step h h2 hw'
    refine ⟨_, _, ?_, hst.2, hst.1, hk7⟩
    simp only [Option.map_none] at hf1
    simp only [Instr.mapUpdate, Sem.run_bind, hi.run_und w, Result.andThen_ok, hd, run_getMap hob, hck, hf1, run_setObj _ hob]
    congr 2
    simp [AEnt.conc]
  | some p =>
    obtain ⟨j, en⟩ := p
    simp only [esSetK_eq, S.updK_eq] at hk7
    obtain ⟨hj, hkeq⟩ := hf2 j en rfl
    have hw' : (AObj.map (es.set j ⟨kw, vw, en.born⟩) cl).wf c s.nx := by
      intro e he
      rcases List.mem_or_eq_of_mem_set he with he | he
      · exact hwf e he
      · subst he; exact ⟨hkey, hv⟩
    have hst := map_step h h2 hw'
    refine ⟨_, _, ?_, hst.2, hst.1, hk7⟩
    simp only [Option.map_some] at hf1
    have hkk : (((es.map (AEnt.conc c)).toArray[j]?).map (·.key)).getD (kw.conc c) = kw.conc c := by
      simp [hj, AEnt.conc, hkeq]
    have hkeep : (Instr.keyThatStays (kw.conc c) (kw.conc c)).run P w = .ok (kw.conc c) w := by simp [Instr.keyThatStays, sameBits_K hsh]
    simp only [Instr.mapUpdate, Sem.run_bind, hi.run_und w, Result.andThen_ok, hd, run_getMap hob, hck, hf1, hkk, hkeep, run_setObj _ hob]
    congr 2
    have hje : (es.map (AEnt.conc c))[j]? = some (en.conc c) := by simp [hj]
    rw [modify_set _ j _ hje, map_set_conc]
    rfl

theorem del_sound (hT : TOk P T) {t kty ety : TypeId} {i : TyA} (hi : TyOk P t i) (hd : i.desc = .map kty ety) {kt : KT} (hK : KOk P kty kt) (h : Rel c s w) {m key : AV} {rty : TypeId}
    {k : BK} (hk : bDel kt m key s k = true) :
    ∃ s' w', (Builtin.delete_ #[t, kty] rty #[m.conc c, key.conc c]).run P w = .ok (.tuple #[]) w' ∧ Step c c s s' w w' ∧ Rel c s' w' ∧ k (.tup []) s' = true := by
  unfold bDel at hk
  obtain ⟨id, h1, hk1⟩ := optB_true hk
  obtain ⟨o, h2, hk2⟩ := optB_true hk1
  obtain ⟨⟨es, cl⟩, h3, hk3⟩ := optB_true hk2
  obtain ⟨kw, h4, hk4⟩ := optB_true hk3
  obtain ⟨h6, hk6⟩ := ifB_true hk4
  obtain ⟨r, h7, hk7⟩ := optB_true hk6
  clear hk hk1 hk2 hk3 hk4 hk6
  have e1 := asMapA_spec h1
  have e3 := mapOf_spec h3
  have e4 := asW_spec h4
  subst e1; subst e3; subst e4
  rw [S.get_eq] at h2
  have hphi : s.phi = s.φ := by cases s; rfl
  rw [hphi] at h7
  have hob := h.obj id _ h2
  have hwf := h.wf id _ h2
  simp only [ObjRel] at hob
  have hsh := shapeK_spec h6 c
  have hck : ∀ b, (Instr.checkKey b 10000 kty (kw.conc c)).run P w = .ok () w := fun b => checkK w hK hsh b 9997
  obtain ⟨hf1, hf2⟩ := findKey_spec (P := P) h.sat hK h6 w h7
  have ea : (AV.w (.s (.map id))).conc c = .map (some (c.ι id)) := rfl
  have ek : (AV.w kw).conc c = kw.conc c := rfl
  have hers : ∀ j, ((es.map (AEnt.conc c)).eraseIdx j) = (es.eraseIdx j).map (AEnt.conc c) := by
    intro j
    rw [List.eraseIdx_eq_take_drop_succ, List.eraseIdx_eq_take_drop_succ]
    simp [List.map_take, List.map_drop]
  rw [ea, ek]
  cases r with
  | none =>
    simp only at hk7
    have hst := map_step (es' := es) (cl' := cl) h h2 hwf
    have hself : setObjW w (c.ι id) (.map (es.map (AEnt.conc c)).toArray cl) = w := by
      simp only [setObjW]
      have : w.heap.setIfInBounds (c.ι id) (.map (es.map (AEnt.conc c)).toArray cl) = w.heap := by
        apply Array.ext_getElem?
        intro i
        by_cases hi' : i = c.ι id
        · subst hi'; rw [hob]; have := h.ι_lt h2; simp [this]
        · rw [Array.getElem?_setIfInBounds_ne (by omega)]
      rw [this]
    refine ⟨s, w, ?_, Step.refl c s w, h, hk7⟩
    simp only [Option.map_none] at hf1
    have hrs := run_setObj (P := P) (.map (es.map (AEnt.conc c)).toArray cl) hob
    rw [hself] at hrs
    simp [Builtin.delete_, hi.run_und w, hd, run_getMap hob, hck, hf1, hrs]
  | some p =>
    obtain ⟨j, en⟩ := p
    simp only [esDelK_eq, S.updK_eq] at hk7
    have hw' : (AObj.map (es.eraseIdx j) cl).wf c s.nx := fun e he => hwf e (List.mem_of_mem_eraseIdx he)
    have hst := map_step h h2 hw'
    refine ⟨_, _, ?_, hst.2, hst.1, hk7⟩
    simp only [Option.map_some] at hf1
    simp [Builtin.delete_, hi.run_und w, hd, run_getMap hob, hck, hf1, run_setObj _ hob, hers]
end
end
end Go.Sy

/-! The symbolic executor, part O: append and copy. -/
namespace Go.Sy
set_option linter.unusedVariables false
set_option linter.unusedSectionVars false
noncomputable section

/-- the first n, then others -/
def tappK (l : List AS) : Nat → List AS → (List AS → Bool) → Bool :=
  List.rec (fun _ xs k => k xs) (fun x _ ih n xs k => Nat.casesOn n (k xs) fun n => ih n xs fun l' => k (x :: l')) l
theorem tappK_eq : ∀ (l : List AS) (n : Nat) (xs : List AS) (k : List AS → Bool), tappK l n xs k = k (l.take n ++ xs) := by
  intro l
  induction l with
  | nil => intro n xs k; show k xs = _; simp
  | cons x l ih =>
    intro n xs k
    cases n with
    | zero => rfl
    | succ n => show tappK l n xs (fun l' => k (x :: l')) = _; rw [ih]; rfl
def srcA (xv : AV) (s : S) (z : Nat) : Option (Nat × List AS) := optP (asS xv) none fun q => match q with
  | .nils => some (0, [])
  | .slice id off m _ => optP (s.get id) none fun o => optP (cellsOfObj o) none fun l => optP (takeN l off (Nat.mul m z)) none fun xs => some (m, xs)
  | _ => none
def fitsA (n bytes : Nat) : Bool := and2 (Nat.ble n 9223372036854775807) (Nat.ble (Nat.mul n bytes) 140737488355328)
def rowOf (o : AObj) (e : TypeId) (z : Nat) : Option (List AS) := match o with | .row l e' z' => (match and2 (Nat.beq e e') (Nat.beq z z') with | true => some l | false => none) | _ => none
def S.next (s : S) : Nat := match s with | .mk _ nx _ => nx
def aIn (id len m : Nat) (cap : ACap) (o : AObj) (l xs : List AS) (z : Nat) (s : S) (k : BK) : Bool :=
  ifB (Nat.ble (Nat.add (Nat.mul len z) (llen xs)) (llen l)) (lsetK l (Nat.mul len z) xs fun l' => setCellsK o l' fun o' => s.updK id o' fun s => forceN (Nat.add len m) fun n => k (.w (.s (.slice id 0 n cap))) s)
def aNew (need : Nat) (l : List AS) (e : TypeId) (z bytes : Nat) (s : S) (k : BK) : Bool :=
  ifB (fitsA need bytes) (s.newK (.row l e z) fun s' => forceN need fun n => k (.w (.s (.slice s.next 0 n (.op 0)))) s')
def aMove (id need : Nat) (l : List AS) (e : TypeId) (z bytes : Nat) (s : S) (k : BK) : Bool :=
  ifB (fitsA need bytes) (s.moveK id (.row l e z) fun s' => forceN need fun n => k (.w (.s (.slice s.next 0 n (.op 0)))) s')
def aSlice (e : TypeId) (z bytes id off len : Nat) (cap : ACap) (m : Nat) (xs : List AS) (o : AObj) (l : List AS) (s : S) (k : BK) : Bool := match cap with
  | .ex n => (match Nat.ble (Nat.add len m) n with
    | true => ifB (Nat.beq off 0) (aIn id len m (.ex n) o l xs z s k)
    | false => optB (takeN l off (Nat.mul len z)) fun olds => tappK olds (llen olds) xs fun r => aNew (Nat.add len m) r e z bytes s k)
  | .op d => ifB (and2 (Nat.beq off 0) (Nat.beq d 0)) (optB (rowOf o e z) fun _ => match Nat.ble (Nat.mul (Nat.add len m) z) (llen l) with
    | true => aIn id len m (.op 0) o l xs z s k
    | false => ifB (Nat.ble (Nat.mul len z) (llen l)) (tappK l (Nat.mul len z) xs fun r => aMove id (Nat.add len m) r e z bytes s k))
def appCore (e : TypeId) (z bytes : Nat) (q : AS) (m : Nat) (xs : List AS) (s : S) (k : BK) : Bool := match q with
  | .nils => (match m with | 0 => k (.w (.s .nils)) s | n + 1 => aNew (Nat.succ n) xs e z bytes s k)
  | .slice id off len cap => optB (s.get id) fun o => optB (cellsOfObj o) fun l => aSlice e z bytes id off len cap m xs o l s k
  | _ => false
def bAppend (e : TypeId) (z bytes : Nat) (sv xv : AV) (s : S) (k : BK) : Bool := optB (asS sv) fun q => optB (srcA xv s z) fun p => appCore e z bytes q p.1 p.2 s k
/-- append of a make: so many zeros -/
def bAppendz (e : TypeId) (z bytes : Nat) (zero : List AS) (sv nv : AV) (s : S) (k : BK) : Bool := optB (asS sv) fun q => optB (asNatA nv) fun n => ifB (and2 (Nat.ble n 16777216) (Nat.ble bytes 1048576)) (appCore e z bytes q n (repA zero n) s k)
def bCopy (z : Nat) (dv xv : AV) (s : S) (k : BK) : Bool := optB (asS dv) fun q => match q with
  | .slice id off dl _ => optB (asS xv) fun y => (match y with
    | .nils => k (vInt .i64 (.lit (.ofNat 0))) s
    | .slice id2 off2 sl _ => optB (s.get id2) fun o2 => optB (cellsOfObj o2) fun l2 => forceN (natMin sl dl) fun n => optB (takeN l2 off2 (Nat.mul n z)) fun xs =>
        optB (s.get id) fun o => optB (cellsOfObj o) fun l => ifB (Nat.ble (Nat.add off (llen xs)) (llen l)) (lsetK l off xs fun l' => setCellsK o l' fun o' => s.updK id o' fun s => k (vInt .i64 (.lit (.ofNat n))) s)
    | _ => false)
  | .nils => optB (asS xv) fun y => (match y with
    | .nils => k (vInt .i64 (.lit (.ofNat 0))) s
    | .slice _ _ _ _ => k (vInt .i64 (.lit (.ofNat 0))) s
    | _ => false)
  | _ => false

section
variable {P : Program} {T : TyT} {c : Cx} {s : S} {w : World}

/-- what an append takes from its second operand -/
theorem src_run {e : TypeId} {ie : TyA} (hie : TyOk P e ie) (h : Rel c s w) {xv : AV} {m : Nat} {xs : List AS} (hs : srcA xv s ie.size = some (m, xs)) (hx : xv.wf c s.nx) :
    xs.length = m * ie.size ∧ (∀ x ∈ xs, x.wf c s.nx) ∧
    ((xv.conc c = .slice none 0 0 ∧ m = 0) ∨ ∃ a cp, xv.conc c = .slice (some a) m cp ∧ ∀ j v, (xs.map (AS.conc c))[j]? = some v → w.cell? (a.add j) = some v) := by
  unfold srcA at hs
  obtain ⟨q, h1, g1⟩ := optP_some hs
  have e1 := asS_spec h1
  subst e1
  split at g1 <;> try (simp at g1; done)
  · injection g1 with g1; injection g1 with g1 g2; subst g1; subst g2
    exact ⟨by simp, by simp, .inl ⟨rfl, rfl⟩⟩
  · rename_i id off m' cap
    obtain ⟨o, h2, g2⟩ := optP_some g1
    obtain ⟨l, h3, g3⟩ := optP_some g2
    obtain ⟨ys, h4, g4⟩ := optP_some g3
    injection g4 with g4; injection g4 with e1 e2; subst e1; subst e2
    rw [S.get_eq] at h2
    obtain ⟨hc, hl, hm⟩ := obj_cells (h.obj id o h2) h3 h4
    have hw := h.wf id o h2
    have hlw : ∀ y ∈ l, y.wf c s.nx := by
      cases o with
      | map => cases h3
      | iter => cases h3
      | cells m e => injection h3 with h3; subst h3; exact hw
      | row m e z => injection h3 with h3; subst h3; exact hw
    exact ⟨hl, fun x hx => hlw x (hm x hx), .inr ⟨_, _, rfl, hc⟩⟩

theorem AS.oneL (c : Cx) (xs : List AS) : ∀ u ∈ xs.map (AS.conc c), u.oneCell' = true := by
  intro u hu
  simp only [List.mem_map] at hu
  obtain ⟨x, _, rfl⟩ := hu
  exact AS.oneCell c x

/-- an append within what there is -/
theorem run_append_in {t ty e : TypeId} {i : TyA} {ie : TyA} (hi : TyOk P t i) (hd : i.desc = .slice e) (hie : TyOk P e ie) (g len cap : Nat) (cur : Array Value) (te : TypeId)
    (hg : w.heap[g]? = some (.cells cur te (0, 0))) {xv : Value} {m : Nat} {news : List Value} (hl : news.length = m * ie.size)
    (hx : (xv = .slice none 0 0 ∧ m = 0) ∨ ∃ a cp, xv = .slice (some a) m cp ∧ ∀ j v, news[j]? = some v → w.cell? (a.add j) = some v) (h1 : ∀ u ∈ news, u.oneCell' = true)
    (hroom : len + m ≤ cap) (hfit : len * ie.size + news.length ≤ cur.size) :
    (Builtin.append_ #[t, t] ty #[.slice (some ⟨g, 0, none⟩) len cap, xv]).run P w =
      .ok (.slice (some ⟨g, 0, none⟩) (len + m) cap) (w.setRow g (cur.toList.take (len * ie.size) ++ news ++ cur.toList.drop (len * ie.size + news.length)).toArray) := by
  obtain ⟨inf, hinf, hsz, _⟩ := hie.info
  have hund : P.underlying t = some (.slice e) := by rw [hi.und, hd]
  have hst := run_storeCells_at P g (len * ie.size) te news 0 cur w hg (by simpa using hfit) h1
  simp only [Nat.add_zero] at hst
  rcases hx with ⟨rfl, rfl⟩ | ⟨a, cp, rfl, hc⟩
  · have hn : news = [] := List.eq_nil_of_length_eq_zero (by simpa using hl)
    subst hn
    simp [Builtin.append_, run_underlying hund, sizeOf, typeInfo, hinf, hsz, Builtin.lenOf, show len ≤ cap from hroom, run_firstCells_none, addr_add]
    simp at hst
    simp [hst]
  · have hf := run_firstCells_some (P := P) w ie.size m a m cp news hl hc
    simp [Builtin.append_, run_underlying hund, sizeOf, typeInfo, hinf, hsz, Builtin.lenOf, hroom, hf, addr_add, hst]

theorem fitsA_spec {n b : Nat} (h : fitsA n b = true) : n ≤ 9223372036854775807 ∧ n * b ≤ 140737488355328 := by
  obtain ⟨h1, h2⟩ := and2_iff.1 h
  exact ⟨(natBle_iff _ _).1 h1, (natBle_iff _ _).1 h2⟩

theorem new_row (h : Rel c s w) {l : List AS} (hl : ∀ x ∈ l, x.wf c s.nx) (e : TypeId) (z cap : Nat) (rest : List Value) (hcap : cap ≤ maxLen) (hsz : l.length + rest.length = cap * z) :
    Rel (c.set2 s.nx w.heap.size cap) (s.new (.row l e z)) (w.drew.alloc (.cells (l.map (AS.conc c) ++ rest).toArray e)) ∧
    Step c (c.set2 s.nx w.heap.size cap) s (s.new (.row l e z)) w (w.drew.alloc (.cells (l.map (AS.conc c) ++ rest).toArray e)) := by
  have he := Cx.set2_ext c s.nx w.heap.size cap
  have hd : Rel c s w.drew := h.drewBy (w.drawn + 1)
  have h1 : Rel (c.set2 s.nx w.drew.heap.size cap) (s.new (.row l e z)) (w.drew.alloc (.cells (l.map (AS.conc c) ++ rest).toArray e)) := by
    refine hd.new (fun x hx => AS.wf_ext he (by omega) (hl x hx)) ?_
    refine ⟨_, rfl, ?_, ?_, ?_⟩
    · simpa [Cx.set2] using hcap
    · simp [Cx.set2]; omega
    · have : l.map (AS.conc (c.set2 s.nx w.drew.heap.size cap)) = l.map (AS.conc c) := concL_ext he hl
      rw [this]; simp
  have h2 : Step c (c.set2 s.nx w.drew.heap.size cap) s (s.new (.row l e z)) w.drew (w.drew.alloc (.cells (l.map (AS.conc c) ++ rest).toArray e)) := Step.new _ _ _
  exact ⟨h1, (Step.drewBy c s w (w.drawn + 1)).trans h2⟩

/-- a slice that was appended to and may have moved -/
theorem S.at_move (s : S) (id : Nat) (o : AObj) (hid : id ≠ s.nx) (id' : Nat) : (s.move id o).at id' = if id' = s.nx then some o else if id' = id then none else s.at id' := by
  simp only [S.at, S.move]
  rw [Tree.get_set _ _ _ _ (by omega) (by omega)]
  by_cases h1 : id' = s.nx
  · simp [h1]
  · rw [if_neg (by omega), if_neg h1, Tree.get_set _ _ _ _ (by omega) (by omega)]
    by_cases h2 : id' = id
    · simp [h2]
    · rw [if_neg (by omega), if_neg h2]
theorem move_step (h : Rel c s w) {id : Nat} {o0 : AObj} (h0 : s.at id = some o0) {l : List AS} (hl : ∀ x ∈ l, x.wf c s.nx) (e : TypeId) (z cap g : Nat) {w' : World} (cur : Array Value)
    (hg : w'.heap[g]? = some (.cells cur e (0, 0))) (hcap : cap ≤ maxLen) (hsz : cur.size = cap * z) (htk : cur.toList.take l.length = l.map (AS.conc c))
    (hor : g = c.ι id ∨ g = w.heap.size) (hos : w'.os = w.os) (ht : w'.tape = w.tape) (hou : w'.output = w.output) (hs : w.heap.size ≤ w'.heap.size)
    (hother : ∀ b, b < w.heap.size → b ≠ g → w'.heap[b]? = w.heap[b]?) :
    Rel (c.set2 s.nx g cap) (s.move id (.row l e z)) w' ∧ Step c (c.set2 s.nx g cap) s (s.move id (.row l e z)) w w' := by
  have he := Cx.set2_ext c s.nx g cap
  have hlt := h.lt id o0 h0
  have hin : (c.set2 s.nx g cap).ι s.nx = g := by simp [Cx.set2]
  have hne : id ≠ s.nx := by omega
  have old : ∀ id' o', (s.move id (.row l e z)).at id' = some o' → id' ≠ s.nx → s.at id' = some o' ∧ id' ≠ id := by
    intro id' o' ho hn
    rw [S.at_move _ _ _ hne, if_neg hn] at ho
    by_cases h2 : id' = id
    · rw [if_pos h2] at ho; cases ho
    · rw [if_neg h2] at ho; exact ⟨ho, h2⟩
  have new : ∀ o', (s.move id (.row l e z)).at s.nx = some o' → o' = .row l e z := by
    intro o' ho
    rw [S.at_move _ _ _ hne, if_pos rfl] at ho
    injection ho with ho; exact ho.symm
  have gne : ∀ id' o', s.at id' = some o' → id' ≠ id → c.ι id' ≠ g := by
    intro id' o' ho hn hg'
    rcases hor with hor | hor
    · exact hn (h.inj _ _ _ _ ho h0 (hg'.trans hor))
    · have := h.ι_lt ho; omega
  refine ⟨⟨h.sat, ?_, ?_, ?_, ?_⟩, ⟨he, by show s.nx ≤ s.nx + 1; omega, hos, ht, hou, hs, ?_, ?_⟩⟩
  · intro id' o' ho
    by_cases hn : id' = s.nx
    · subst hn; show s.nx < s.nx + 1; omega
    · have := h.lt id' o' (old id' o' ho hn).1; show id' < s.nx + 1; omega
  · intro id' o' ho
    by_cases hn : id' = s.nx
    · subst hn; rw [new o' ho]; exact fun x hx => AS.wf_ext he (by show s.nx ≤ s.nx + 1; omega) (hl x hx)
    · exact AObj.wf_ext he (by show s.nx ≤ s.nx + 1; omega) (h.wf id' o' (old id' o' ho hn).1)
  · intro id' o' ho
    by_cases hn : id' = s.nx
    · subst hn; rw [new o' ho, hin, hg]
      refine ⟨cur, rfl, ?_, ?_, ?_⟩
      · simpa [Cx.set2] using hcap
      · simpa [Cx.set2] using hsz
      · rw [concL_ext he hl]; exact htk
    · obtain ⟨h1, h2⟩ := old id' o' ho hn
      have hl' := h.lt id' o' h1
      rw [he.ι id' hl', hother _ (h.ι_lt h1) (gne id' o' h1 h2)]
      exact ObjRel.ext he hl' (h.wf id' o' h1) (h.obj id' o' h1)
  · intro id1 id2 o1 o2 h1 h2 heq
    by_cases n1 : id1 = s.nx <;> by_cases n2 : id2 = s.nx
    · omega
    · exfalso
      subst n1
      obtain ⟨a1, a2⟩ := old id2 o2 h2 n2
      rw [hin, he.ι id2 (h.lt id2 o2 a1)] at heq
      exact gne id2 o2 a1 a2 heq.symm
    · exfalso
      subst n2
      obtain ⟨a1, a2⟩ := old id1 o1 h1 n1
      rw [hin, he.ι id1 (h.lt id1 o1 a1)] at heq
      exact gne id1 o1 a1 a2 heq
    · obtain ⟨a1, _⟩ := old id1 o1 h1 n1
      obtain ⟨b1, _⟩ := old id2 o2 h2 n2
      rw [he.ι id1 (h.lt id1 o1 a1), he.ι id2 (h.lt id2 o2 b1)] at heq
      exact h.inj _ _ _ _ a1 b1 heq
  · intro b hb hnot
    refine hother b hb ?_
    rintro rfl
    rcases hor with hor | hor
    · exact hnot id o0 h0 hor.symm
    · omega
  · intro id' o' ho
    by_cases hn : id' = s.nx
    · subst hn
      rw [hin]
      rcases hor with hor | hor
      · exact .inr ⟨id, o0, h0, hor.symm⟩
      · exact .inl (by omega)
    · obtain ⟨a1, _⟩ := old id' o' ho hn
      exact .inr ⟨id', o', a1, (he.ι id' (h.lt id' o' a1)).symm⟩

theorem wf_obj_cells {o : AObj} {l : List AS} (h : cellsOfObj o = some l) {nx : Nat} (hw : o.wf c nx) : ∀ x ∈ l, x.wf c nx := by
  cases o with
  | map => cases h
  | iter => cases h
  | cells m e => injection h with h; subst h; exact hw
  | row m e z => injection h with h; subst h; exact hw

/-- How an append runs: x bears m elements, of which the cells are news. -/
structure AppRun (P : Program) (w : World) (t t2 ty e : TypeId) (size bytes : Nat) (zc : Array Value) (x : Value) (m : Nat) (news : List Value) : Prop where
  room : ∀ (g len cap : Nat) (cur : Array Value) (te : TypeId), w.heap[g]? = some (.cells cur te (0, 0)) → len + m ≤ cap → len * size + news.length ≤ cur.size →
    (Builtin.append_ #[t, t2] ty #[.slice (some ⟨g, 0, none⟩) len cap, x]).run P w =
      .ok (.slice (some ⟨g, 0, none⟩) (len + m) cap) (w.setRow g (cur.toList.take (len * size) ++ news ++ cur.toList.drop (len * size + news.length)).toArray)
  grow : ∀ (b : Addr) (len cap : Nat) (olds : List Value), olds.length = len * size → (∀ j v, olds[j]? = some v → w.cell? (b.add j) = some v) → len ≤ cap → cap < len + m → len + m ≤ 9223372036854775807 →
    (len + m) * bytes ≤ 140737488355328 →
    (Builtin.append_ #[t, t2] ty #[.slice (some b) len cap, x]).run P w =
      .ok (.slice (some ⟨w.heap.size, 0, none⟩) (len + m) (grownCap w (len + m) cap e))
        (w.drew.alloc (.cells (olds.toArray ++ news.toArray ++ Builtin.zeroCells zc (grownCap w (len + m) cap e - (len + m))) e))
  nil0 : m = 0 → (Builtin.append_ #[t, t2] ty #[.slice none 0 0, x]).run P w = .ok (.slice none 0 0) w
  nil : 0 < m → m ≤ 9223372036854775807 → m * bytes ≤ 140737488355328 → (Builtin.append_ #[t, t2] ty #[.slice none 0 0, x]).run P w =
      .ok (.slice (some ⟨w.heap.size, 0, none⟩) m (grownCap w m 0 e)) (w.drew.alloc (.cells (news.toArray ++ Builtin.zeroCells zc (grownCap w m 0 e - m)) e))

theorem src_appRun {t ty e : TypeId} {i ie : TyA} (hi : TyOk P t i) (hd : i.desc = .slice e) (hie : TyOk P e ie) {x : Value} {m : Nat} {news : List Value} (hl : news.length = m * ie.size)
    (hx : (x = .slice none 0 0 ∧ m = 0) ∨ ∃ a cp, x = .slice (some a) m cp ∧ ∀ j v, news[j]? = some v → w.cell? (a.add j) = some v) (h1 : ∀ u ∈ news, u.oneCell' = true) (hz : 0 < ie.size) :
    AppRun P w t t ty e ie.size ie.bytes (ie.zero.conc c).cells x m news := by
  obtain ⟨inf, hinf, hsz, hby, zv, hzv, hzc⟩ := hie.info
  have hund : P.underlying t = some (.slice e) := by rw [hi.und, hd]
  refine ⟨?_, ?_, ?_, ?_⟩
  · intro g len cap cur te hg hroom hfit
    exact run_append_in hi hd hie g len cap cur te hg hl hx h1 hroom hfit
  · intro b len cap olds hol hoc hlc hlt h63 hb
    rcases hx with ⟨_, hm⟩ | ⟨a, cp, rfl, hc⟩
    · omega
    · rw [hzc c]
      exact run_append_grow (P := P) w t ty e inf zv hund hinf hzv b len cap olds (by rw [hsz]; exact hol) hoc a m cp news (by rw [hsz]; exact hl) hc hlt (by omega) (by rw [hby]; exact growslice_fits hlt hb)
  · intro hm
    rcases hx with ⟨rfl, _⟩ | ⟨a, cp, rfl, hc⟩
    · simp [Builtin.append_, run_underlying hund, sizeOf, typeInfo, hinf, Builtin.lenOf, run_firstCells_none]
    · subst hm
      have hne : news = [] := List.eq_nil_of_length_eq_zero (by simpa using hl)
      have hf := run_firstCells_some (P := P) w ie.size 0 a 0 cp [] (by simp) (by simp)
      simp [Builtin.append_, run_underlying hund, sizeOf, typeInfo, hinf, hsz, Builtin.lenOf, hf]
  · intro h0 h63 hb
    rcases hx with ⟨_, hm⟩ | ⟨a, cp, rfl, hc⟩
    · omega
    · rw [hzc c]
      exact run_append_nil (P := P) w t ty e inf zv hund hinf hzv a m cp news (by rw [hsz]; exact hl) hc h0 (by omega) (by rw [hby]; omega)

theorem append_core {t t2 ty e : TypeId} {ie : TyA} (hie : TyOk P e ie) (hz : 0 < ie.size) (h : Rel c s w) {q : AS} (hsv : q.wf c s.nx) {x : Value} {m : Nat} {xs : List AS}
    (hlen : xs.length = m * ie.size) (hxw : ∀ x ∈ xs, x.wf c s.nx) (hap : AppRun P w t t2 ty e ie.size ie.bytes (ie.zero.conc c).cells x m (xs.map (AS.conc c)))
    {k : BK} (hk2 : appCore e ie.size ie.bytes q m xs s k = true) :
    ∃ c' v s' w', (Builtin.append_ #[t, t2] ty #[q.conc c, x]).run P w = .ok (v.conc c') w' ∧ v.wf c' s'.nx ∧ Step c c' s s' w w' ∧ Rel c' s' w' ∧ k v s' = true := by
  have hnext : s.next = s.nx := by cases s; rfl
  have hzs : (ie.zero.conc c).cells.size = ie.size := by rw [cellsW_conc]; simp [hie.len]
  have hlen' : (xs.map (AS.conc c)).length = m * ie.size := by simpa using hlen
  unfold appCore at hk2
  -- a new row
  have fresh : ∀ {olds : List AS} {need : Nat}, need = olds.length / ie.size + m → olds.length = (need - m) * ie.size → (∀ x ∈ olds, x.wf c s.nx) → ∀ {kk : BK}, aNew need (olds ++ xs) e ie.size ie.bytes s kk = true →
      (∀ cap, need ≤ cap → cap ≤ maxLen → ∃ w', w' = w.drew.alloc (.cells ((olds ++ xs).map (AS.conc c) ++ (Builtin.zeroCells (ie.zero.conc c).cells (cap - need)).toList).toArray e) ∧
        ∃ c' s', Rel c' s' w' ∧ Step c c' s s' w w' ∧ (AV.w (.s (.slice s.nx 0 need (.op 0)))).conc c' = .slice (some ⟨w.heap.size, 0, none⟩) need cap ∧
          (AV.w (.s (.slice s.nx 0 need (.op 0)))).wf c' s'.nx ∧ kk (AV.w (.s (.slice s.nx 0 need (.op 0)))) s' = true) := by
    intro olds need hneed holds how kk hkk cap hcap hmax
    unfold aNew at hkk
    obtain ⟨_, hkk⟩ := ifB_true hkk
    rw [S.newK_eq, forceN_eq, hnext] at hkk
    refine ⟨_, rfl, c.set2 s.nx w.heap.size cap, s.new (.row (olds ++ xs) e ie.size), ?_, ?_, ?_, ?_, hkk⟩
    all_goals
      have hle : m ≤ need := by rw [hneed]; exact Nat.le_add_left _ _
      have hnr := new_row h (l := olds ++ xs) (by
        intro x hx
        rcases List.mem_append.1 hx with hx | hx
        · exact how x hx
        · exact hxw x hx) e ie.size cap (Builtin.zeroCells (ie.zero.conc c).cells (cap - need)).toList hmax (by
          rw [List.length_append, holds, hlen, Array.length_toList, size_zeroCells, hzs, ← Nat.add_mul, ← Nat.add_mul]
          congr 1; omega)
    · exact hnr.1
    · exact hnr.2
    · simp [AV.conc, AW.conc, AS.conc, ACap.conc, Cx.set2]
    · refine ⟨by show s.nx < s.nx + 1; omega, ?_⟩
      simp [ACap.wf, Cx.set2]; omega
  split at hk2 <;> try (simp at hk2; done)
  · -- onto nil
    have esv : AS.nils.conc c = .slice none 0 0 := rfl
    cases m with
    | zero =>
      simp only at hk2
      refine ⟨c, .w (.s .nils), s, w, ?_, trivial, Step.refl c s w, h, hk2⟩
      rw [esv, hap.nil0 rfl]; rfl
    | succ n =>
      simp only at hk2
      have hfit := fitsA_spec (ifB_true (show ifB (fitsA (n + 1) ie.bytes) _ = true from hk2)).1
      have hrun := hap.nil (by omega) hfit.1 hfit.2
      have hge := grownCap_ge w (n + 1) 0 e
      have hmax := grownCap_le_maxLen w (n + 1) 0 e (by unfold maxLen; omega)
      obtain ⟨w', hw', c', s', r1, r2, r3, r4, r5⟩ := fresh (olds := []) (need := n + 1) (by simp) (by simp) (by simp) (by simpa using hk2) _ hge hmax
      refine ⟨c', _, s', w', ?_, r4, r2, r1, r5⟩
      rw [esv, hrun, r3, hw']
      congr 2
      simp
  · -- onto a slice
    rename_i id off len cap
    obtain ⟨o, h3, hk3⟩ := optB_true hk2
    obtain ⟨l, h4, hk4⟩ := optB_true hk3
    clear hk2 hk3
    rw [S.get_eq] at h3
    have hob := h.obj id o h3
    have hlw := wf_obj_cells h4 (h.wf id o h3)
    have hidlt := h.lt id o h3
    -- within what there is
    have inPlace : ∀ {cp : ACap}, off = 0 → len + m ≤ cp.conc c id → cp.wf c id (len + m) → aIn id len m cp o l xs ie.size s k = true →
        ∃ c' v s' w', (Builtin.append_ #[t, t2] ty #[.slice (some ⟨c.ι id, 0, none⟩) len (cp.conc c id), x]).run P w = .ok (v.conc c') w' ∧ v.wf c' s'.nx ∧ Step c c' s s' w w' ∧ Rel c' s' w' ∧ k v s' = true := by
      intro cp hoff hroom hcw hin
      unfold aIn at hin
      obtain ⟨hf1, hin⟩ := ifB_true hin
      have hf1 : len * ie.size + llen xs ≤ llen l := (natBle_iff _ _).1 hf1
      rw [llen_eq, llen_eq] at hf1
      rw [lsetK_eq] at hin
      obtain ⟨cur, te, o', g1, g2, g3, g4, g5⟩ := over_row hob h4 hf1 hin
      rw [S.updK_eq, forceN_eq] at g3
      have hst := store_step h h3 g1 _ (g4 s.nx (h.wf id o h3) hxw) g5
      refine ⟨c, .w (.s (.slice id 0 (len + m) cp)), s.upd id o', _, ?_, ⟨hidlt, hcw⟩, hst.2, hst.1, g3⟩
      have := hap.room (c.ι id) len (cp.conc c id) cur te g1 hroom (by simpa using g2)
      rw [this]
      simp [AV.conc, AW.conc, AS.conc]
    cases cap with
    | ex n =>
      simp only [aSlice] at hk4
      cases hb : Nat.ble (Nat.add len m) n with
      | true =>
        simp only [hb] at hk4
        obtain ⟨ho, hk5⟩ := ifB_true hk4
        have ho := (natBeq_iff _ _).1 ho
        subst ho
        have hb : len + m ≤ n := (natBle_iff _ _).1 hb
        exact inPlace (cp := .ex n) rfl hb hb hk5
      | false =>
        simp only [hb] at hk4
        have hb : ¬ len + m ≤ n := fun x => by rw [show Nat.ble (Nat.add len m) n = true from (natBle_iff _ _).2 x] at hb; cases hb
        obtain ⟨olds, h5, hk5⟩ := optB_true hk4
        rw [tappK_eq, llen_eq, List.take_length] at hk5
        obtain ⟨hoc, hol, hom⟩ := obj_cells hob h4 h5
        have hln : len ≤ n := hsv.2
        have hfit := fitsA_spec (ifB_true (show ifB (fitsA (len + m) ie.bytes) _ = true from hk5)).1
        have hrun := hap.grow ⟨c.ι id, off, none⟩ len n (olds.map (AS.conc c)) (by simpa using hol) hoc hln (by omega) hfit.1 hfit.2
        have hge := grownCap_ge w (len + m) n e
        have hmax := grownCap_le_maxLen w (len + m) n e (by unfold maxLen; omega)
        have hol' : olds.length = len * ie.size := hol
        obtain ⟨w', hw', c', s', r1, r2, r3, r4, r5⟩ := fresh (olds := olds) (need := len + m) (by rw [hol', Nat.mul_div_cancel _ hz]) (by rw [hol']; congr 1; omega) (fun x hx => hlw x (hom x hx)) hk5 _ hge hmax
        refine ⟨c', _, s', w', ?_, r4, r2, r1, r5⟩
        rw [r3, hw']
        have e9 : (AS.slice id off len (.ex n)).conc c = .slice (some ⟨c.ι id, off, none⟩) len n := rfl
        rw [e9, hrun]
        congr 2
        simp
    | op d =>
      simp only [aSlice] at hk4
      obtain ⟨ho, hk5⟩ := ifB_true hk4
      obtain ⟨ho, hd0⟩ := and2_iff.1 ho
      have ho := (natBeq_iff _ _).1 ho
      have hd0 := (natBeq_iff _ _).1 hd0
      subst ho; subst hd0
      obtain ⟨l2, h5, hk6⟩ := optB_true hk5
      have hrow : o = .row l e ie.size := by
        unfold rowOf at h5
        split at h5 <;> try (simp at h5; done)
        rename_i l3 e' z'
        split at h5 <;> try (simp at h5; done)
        rename_i hb
        obtain ⟨b1, b2⟩ := and2_iff.1 hb
        rw [(natBeq_iff _ _).1 b1, (natBeq_iff _ _).1 b2]
        simp only [cellsOfObj] at h4; injection h4 with h4; rw [h4]
      subst hrow
      obtain ⟨cur, k1, k2, k3, k4⟩ := hob
      have hlc : l.length ≤ cur.size := by
        have := congrArg List.length k4
        simp at this; omega
      have esv : (AS.slice id 0 len (.op 0)).conc c = .slice (some ⟨c.ι id, 0, none⟩) len (c.κ id) := by simp [AS.conc, ACap.conc]
      have hlk : len ≤ c.κ id := by have := hsv.2; simp only [ACap.wf] at this; omega
      cases hb : Nat.ble (Nat.mul (Nat.add len m) ie.size) (llen l) with
      | true =>
        simp only [hb] at hk6
        have hb : (len + m) * ie.size ≤ llen l := (natBle_iff _ _).1 hb
        rw [llen_eq] at hb
        have hroom : len + m ≤ c.κ id := by
          have : (len + m) * ie.size ≤ c.κ id * ie.size := by omega
          exact Nat.le_of_mul_le_mul_right this hz
        have := inPlace (cp := .op 0) rfl (by simpa [ACap.conc] using hroom) (by simpa [ACap.wf] using hroom) hk6
        rw [esv]
        simpa [ACap.conc] using this
      | false =>
        simp only [hb] at hk6
        have hb : ¬ (len + m) * ie.size ≤ llen l := fun x => by rw [show Nat.ble (Nat.mul (Nat.add len m) ie.size) (llen l) = true from (natBle_iff _ _).2 x] at hb; cases hb
        obtain ⟨h6, hk7⟩ := ifB_true hk6
        have h6 : len * ie.size ≤ llen l := (natBle_iff _ _).1 h6
        rw [llen_eq] at h6 hb
        rw [tappK_eq] at hk7
        unfold aMove at hk7
        obtain ⟨hfit, hk8⟩ := ifB_true hk7
        have hfit : len + m ≤ 9223372036854775807 ∧ (len + m) * ie.bytes ≤ 140737488355328 := fitsA_spec hfit
        rw [S.moveK_eq, forceN_eq, hnext] at hk8
        have hm0 : m ≠ 0 := by rintro rfl; simp at hb; omega
        have hlen2 : (l.take (len * ie.size)).length = len * ie.size := by simp; omega
        have hnl : ((l.take (len * ie.size)) ++ xs).length = (len + m) * ie.size := by rw [List.length_append, hlen2, hlen, Nat.add_mul]
        have hnw : ∀ x ∈ (l.take (len * ie.size)) ++ xs, x.wf c s.nx := by
          intro x hx
          rcases List.mem_append.1 hx with hx | hx
          · exact hlw x (List.mem_of_mem_take hx)
          · exact hxw x hx
        have htake : cur.toList.take (len * ie.size) = (l.take (len * ie.size)).map (AS.conc c) := by
          rw [List.map_take, ← k4, List.take_take]; congr 1; omega
        have finish : ∀ (g cp : Nat) (w' : World) (cur' : Array Value), (Builtin.append_ #[t, t2] ty #[.slice (some ⟨c.ι id, 0, none⟩) len (c.κ id), x]).run P w = .ok (.slice (some ⟨g, 0, none⟩) (len + m) cp) w' →
            w'.heap[g]? = some (.cells cur' e (0, 0)) → cp ≤ maxLen → cur'.size = cp * ie.size → cur'.toList.take ((len + m) * ie.size) = ((l.take (len * ie.size)) ++ xs).map (AS.conc c) → len + m ≤ cp →
            (g = c.ι id ∨ g = w.heap.size) → w'.os = w.os → w'.tape = w.tape → w'.output = w.output → w.heap.size ≤ w'.heap.size → (∀ b, b < w.heap.size → b ≠ g → w'.heap[b]? = w.heap[b]?) →
            ∃ c' v s' w', (Builtin.append_ #[t, t2] ty #[(AS.slice id 0 len (.op 0)).conc c, x]).run P w = .ok (v.conc c') w' ∧ v.wf c' s'.nx ∧ Step c c' s s' w w' ∧ Rel c' s' w' ∧ k v s' = true := by
          intro g cp w' cur' hrun a1 a2 a3 a4 a5 a6 a7 a8 a9 a10 a11
          have hmv := move_step h h3 hnw e ie.size cp g cur' a1 a2 a3 (by rw [hnl]; exact a4) a6 a7 a8 a9 a10 a11
          refine ⟨_, .w (.s (.slice s.nx 0 (len + m) (.op 0))), _, w', ?_, ⟨by show s.nx < s.nx + 1; omega, ?_⟩, hmv.2, hmv.1, hk8⟩
          · rw [esv, hrun]; simp [AV.conc, AW.conc, AS.conc, ACap.conc, Cx.set2]
          · simp [ACap.wf, Cx.set2]; omega
        by_cases hroom : len + m ≤ c.κ id
        · have hfit2 : len * ie.size + (xs.map (AS.conc c)).length ≤ cur.size := by
            rw [hlen', k3, ← Nat.add_mul]; exact Nat.mul_le_mul_right _ hroom
          have hrun := hap.room (c.ι id) len (c.κ id) cur e k1 hroom hfit2
          refine finish _ _ _ _ hrun (setRow_eq_of k1 _) k2 ?_ ?_ hroom (.inl rfl) rfl rfl rfl (by simp) (fun b _ hb => setRow_other w _ b _ hb)
          · rw [← k3]
            simp only [List.size_toArray, List.length_append, List.length_take, List.length_drop, Array.length_toList]
            simp only [List.length_map] at hfit2 ⊢
            omega
          · rw [htake, ← hnl]
            rw [List.map_append, ← List.length_map (f := AS.conc c), List.map_append]
            exact List.take_left
        · have holds : ∀ j v, ((l.take (len * ie.size)).map (AS.conc c))[j]? = some v → w.cell? ((⟨c.ι id, 0, none⟩ : Addr).add j) = some v := by
            intro j v hj
            rw [addr_add, Nat.zero_add]
            rw [← htake, List.getElem?_take] at hj
            split at hj
            · simp [World.cell?, k1]; simpa using hj
            · cases hj
          have hrun := hap.grow ⟨c.ι id, 0, none⟩ len (c.κ id) ((l.take (len * ie.size)).map (AS.conc c)) (by simpa using hlen2) holds hlk (by omega) hfit.1 hfit.2
          have hge := grownCap_ge w (len + m) (c.κ id) e
          have hmax := grownCap_le_maxLen w (len + m) (c.κ id) e (by unfold maxLen; omega)
          refine finish _ _ _ _ hrun (heap_alloc_new w.drew _) hmax ?_ ?_ hge (.inr rfl) rfl rfl rfl (by simp) (fun b hb _ => heap_alloc_old w.drew _ hb)
          · simp only [Array.size_append, List.size_toArray, size_zeroCells, hzs, List.length_map, hlen2, hlen, ← Nat.add_mul]
            congr 1; omega
          · rw [← hnl, ← List.length_map (f := AS.conc c), List.map_append]
            simp only [Array.toList_append, List.append_assoc]
            rw [← List.append_assoc]
            exact List.take_left

theorem append_sound {t ty e : TypeId} {i ie : TyA} (hi : TyOk P t i) (hd : i.desc = .slice e) (hie : TyOk P e ie) (hz : 0 < ie.size) (h : Rel c s w) {sv xv : AV}
    (hsv : sv.wf c s.nx) (hxv : xv.wf c s.nx) {k : BK} (hk : bAppend e ie.size ie.bytes sv xv s k = true) :
    ∃ c' v s' w', (Builtin.append_ #[t, t] ty #[sv.conc c, xv.conc c]).run P w = .ok (v.conc c') w' ∧ v.wf c' s'.nx ∧ Step c c' s s' w w' ∧ Rel c' s' w' ∧ k v s' = true := by
  unfold bAppend at hk
  obtain ⟨q, h1, hk1⟩ := optB_true hk
  obtain ⟨⟨m, xs⟩, h2, hk2⟩ := optB_true hk1
  clear hk hk1
  have e1 := asS_spec h1
  subst e1
  obtain ⟨hlen, hxw, hsrc⟩ := src_run hie h h2 hxv
  exact append_core hie hz h hsv hlen hxw (src_appRun hi hd hie (by simpa using hlen) hsrc (AS.oneL c xs) hz) hk2

theorem zeroCells_rep {ie : TyA} {e : TypeId} (hie : TyOk P e ie) (n : Nat) : Builtin.zeroCells (ie.zero.conc c).cells n = ((repA (cellsW ie.zero) n).map (AS.conc c)).toArray := by
  have hr := rep_range ((cellsW ie.zero).map (AS.conc c)) n
  rw [List.length_map, hie.len] at hr
  apply Array.ext'
  rw [repA_eq, cellsW_conc]
  have e : List.map (AS.conc c) (List.replicate n (cellsW ie.zero)).flatten = (List.replicate n ((cellsW ie.zero).map (AS.conc c))).flatten := by
    rw [List.map_flatten, List.map_replicate]
  simp only [Builtin.zeroCells]
  rw [Array.toList_map, Array.toList_range]
  show _ = (List.map (AS.conc c) (List.replicate n (cellsW ie.zero)).flatten)
  rw [e, ← hr]
  simp [hie.len]

theorem zeros_appRun {t t2 ty e : TypeId} {i i2 ie : TyA} {k2 : IntKind} (hi : TyOk P t i) (hd : i.desc = .slice e) (hi2 : TyOk P t2 i2) (hd2 : i2.desc = .int k2) (hie : TyOk P e ie) (hz : 0 < ie.size) {k : IntKind} {m : Nat}
    (hm : m ≤ 16777216) (hb : ie.bytes ≤ 1048576) : AppRun P w t t2 ty e ie.size ie.bytes (ie.zero.conc c).cells (.int k m) m ((repA (cellsW ie.zero) m).map (AS.conc c)) := by
  obtain ⟨inf, hinf, hsz, hby, zv, hzv, hzc⟩ := hie.info
  have hund : P.underlying t = some (.slice e) := by rw [hi.und, hd]
  have hund2 : P.underlying t2 = some (.int k2) := by rw [hi2.und, hd2]
  have hw : IntKind.i64.wrap (m : Int) = m := wrap_nat (by show m ≤ 9223372036854775807; omega)
  have hbm : ¬ (281474976710656 < (m : Int) * (ie.bytes : Int)) := by
    have h1 : m * ie.bytes ≤ 16777216 * 1048576 := Nat.mul_le_mul hm hb
    have h2 : ((m * ie.bytes : Nat) : Int) = (m : Int) * (ie.bytes : Int) := by simp
    rw [← h2]; omega
  have hneg : ¬ ((m : Int) < 0) := by omega
  refine ⟨?_, ?_, ?_, ?_⟩
  · intro g len cap cur te hg hroom hfit
    have hst := run_storeCells_at P g (len * ie.size) te ((repA (cellsW ie.zero) m).map (AS.conc c)) 0 cur w hg (by simpa using hfit) (AS.oneL c _)
    simp only [Nat.add_zero] at hst
    by_cases hm0 : m = 0
    · subst hm0
      simp only [repA_zero, List.map_nil, List.append_nil, List.length_nil] at hst ⊢
      simp at hst
      simp [Builtin.append_, run_underlying hund, run_underlying hund2, sizeOf, typeInfo, hinf, hsz, asInt, asIntOf, IntKind.wrap, IntKind.signed, IntKind.bits, show len ≤ cap from hroom, addr_add, hst]
    · have h0 : ¬ (m * ie.size = 0) := fun h => by rcases Nat.mul_eq_zero.1 h with h | h <;> omega
      have h0' : m ≠ 0 ∧ ie.size ≠ 0 := ⟨hm0, by omega⟩
      simp [Builtin.append_, run_underlying hund, run_underlying hund2, hie.run_size w, hie.run_zero w c, typeInfo, hinf, asInt, asIntOf, hw, hneg, hbm, hby, hroom, h0', zeroCells_rep hie, addr_add]
      simp at hst
      simp [hst]
      intro hh; exact absurd hh h0
  · intro b len cap olds hol hoc hlc hlt h63 hbb
    have hm0 : m ≠ 0 := by omega
    have h0' : m ≠ 0 ∧ ie.size ≠ 0 := ⟨hm0, by omega⟩
    have hn : ¬ (len + m ≤ cap) := by omega
    have h63' : ¬ (9223372036854775807 < ((len : Int) + (m : Int))) := by omega
    have h48' : ¬ (281474976710656 < Builtin.nextslicecap (len + m) cap * ie.bytes) := by have := growslice_fits hlt hbb; omega
    have hfo := run_firstCells_some (P := P) w.drew ie.size len b len cap olds hol (by simpa using hoc)
    simp [Builtin.append_, run_underlying hund, run_underlying hund2, hie.run_size w, hie.run_size w.drew, hie.run_zero w c, hie.run_zero w.drew c, typeInfo, hinf, asInt, asIntOf, hw, hneg, hbm, hby, hn, h63', h48', h0', zeroCells_rep hie, Question.forced, hfo, newRow, grownCap]
    intro hh
    rcases Nat.mul_eq_zero.1 hh with h | h <;> omega
  · intro hm0
    subst hm0
    simp [Builtin.append_, run_underlying hund, run_underlying hund2, sizeOf, typeInfo, hinf, hsz, asInt, asIntOf, IntKind.wrap, IntKind.signed, IntKind.bits]
  · intro hm0 h63 hbb
    have h0' : m ≠ 0 ∧ ie.size ≠ 0 := ⟨by omega, by omega⟩
    have h63' : ¬ (9223372036854775807 < ((m : Int))) := by omega
    have h48' : ¬ (281474976710656 < Builtin.nextslicecap m 0 * ie.bytes) := by have := growslice_fits (old := 0) (by omega) hbb; omega
    simp [Builtin.append_, run_underlying hund, run_underlying hund2, hie.run_size w, hie.run_size w.drew, hie.run_zero w c, hie.run_zero w.drew c, typeInfo, hinf, asInt, asIntOf, hw, hneg, hbm, hby, h63', h48', h0', zeroCells_rep hie, Question.forced, run_firstCells_none, newRow, grownCap]
    intro hh
    rcases Nat.mul_eq_zero.1 hh with h | h <;> omega
end
end
end Go.Sy

/-! The symbolic executor, part Na: ranging over a map. -/
namespace Go.Sy
open Go.ChangeMaps (setBlock)
set_option linter.unusedVariables false
set_option linter.unusedSectionVars false
noncomputable section

def nmem (b : Nat) (l : List Nat) : Bool := List.rec false (fun x _ ih => match Nat.beq x b with | true => true | false => ih) l
def leftA (seen : List Nat) (es : List AEnt) : List AEnt := List.rec [] (fun e _ ih => match nmem e.born seen with | true => ih | false => e :: ih) es
def snocN (l : List Nat) (b : Nat) : List Nat := List.rec [b] (fun x _ ih => x :: ih) l
def findB (b : Nat) (es : List AEnt) : Option AEnt := List.rec none (fun e _ ih => match Nat.beq e.born b with | true => some e | false => ih) es
def lastN (l : List Nat) : Option Nat := List.rec none (fun x _ ih => match ih with | none => some x | some y => some y) l
theorem nmem_cons (b x : Nat) (l : List Nat) : nmem b (x :: l) = match Nat.beq x b with | true => true | false => nmem b l := rfl
theorem nmem_eq (b : Nat) (l : List Nat) : nmem b l = l.contains b := by
  induction l with
  | nil => rfl
  | cons x l ih =>
    rw [nmem_cons, ih, List.contains_cons]
    cases hb : Nat.beq x b with
    | true => have := (natBeq_iff _ _).1 hb; subst this; simp
    | false =>
      have : x ≠ b := fun e => by rw [(natBeq_iff x b).2 e] at hb; cases hb
      simp [Ne.symm this]
theorem leftA_cons (seen : List Nat) (e : AEnt) (l : List AEnt) : leftA seen (e :: l) = match nmem e.born seen with | true => leftA seen l | false => e :: leftA seen l := rfl
theorem leftA_eq (seen : List Nat) (es : List AEnt) : leftA seen es = es.filter fun e => !seen.contains e.born := by
  induction es with
  | nil => rfl
  | cons e l ih =>
    rw [leftA_cons, ih, nmem_eq, List.filter_cons]
    cases hb : seen.contains e.born <;> simp
theorem snocN_cons (x b : Nat) (l : List Nat) : snocN (x :: l) b = x :: snocN l b := rfl
theorem snocN_eq (l : List Nat) (b : Nat) : snocN l b = l ++ [b] := by
  induction l with
  | nil => rfl
  | cons x l ih => rw [snocN_cons, ih]; rfl
theorem findB_cons (b : Nat) (e : AEnt) (l : List AEnt) : findB b (e :: l) = match Nat.beq e.born b with | true => some e | false => findB b l := rfl
theorem findB_eq (b : Nat) (es : List AEnt) : findB b es = es.find? fun e => e.born == b := by
  induction es with
  | nil => rfl
  | cons e l ih =>
    rw [findB_cons, ih, List.find?_cons]
    cases hb : Nat.beq e.born b with
    | true => have := (natBeq_iff _ _).1 hb; simp [this]
    | false =>
      have : e.born ≠ b := fun h => by rw [(natBeq_iff _ _).2 h] at hb; cases hb
      have hb' : (e.born == b) = false := by simpa using this
      rw [hb']
theorem lastN_cons (x : Nat) (l : List Nat) : lastN (x :: l) = match lastN l with | none => some x | some y => some y := rfl
theorem lastN_eq (l : List Nat) : lastN l = l.getLast? := by
  induction l with
  | nil => rfl
  | cons x l ih =>
    rw [lastN_cons, ih, List.getLast?_cons]
    cases l.getLast? <;> rfl

def iterOf (o : AObj) : Option (Option Nat × Nat × List Nat × Nat) := match o with | .iter m a l b => some (m, a, l, b) | _ => none
theorem iterOf_spec {o : AObj} {q : Option Nat × Nat × List Nat × Nat} (h : iterOf o = some q) : o = .iter q.1 q.2.1 q.2.2.1 q.2.2.2 := by
  unfold iterOf at h
  split at h <;> try (simp at h; done)
  injection h with h; subst h; rfl
def ptr0 (v : AV) : Option Nat := optP (asPtrA v) none fun p => ckB (Nat.beq p.2 0) none (some p.1)
theorem ptr0_spec {v : AV} {id : Nat} (h : ptr0 v = some id) : v = .w (.s (.ptr id 0)) := by
  obtain ⟨⟨a, b⟩, h1, g1⟩ := optP_some h
  obtain ⟨h2, g2⟩ := ckB_some g1
  injection g2 with g2
  have h2 := (natBeq_iff _ _).1 h2
  have e := asPtrA_spec h1
  simp only at h2 g2
  rw [e, h2, g2]
def bRange (v : AV) (s : S) (k : BK) : Bool := optB (asS v) fun x => match x with
  | .map id => optB (s.get id) fun o => optB (mapOf o) fun p => s.newK (.iter (some id) p.2 [] p.2) fun s' => k (.w (.s (.ptr s.next 0))) s'
  | .nilm => s.newK (.iter none 0 [] 0) fun s' => k (.w (.s (.ptr s.next 0))) s'
  | _ => false
def bNext (v : AV) (s : S) (k : BK) : Bool := optB (ptr0 v) fun id => optB (s.get id) fun o => optB (iterOf o) fun q => match q.1 with
  | none => k (.tup [.s (.bool false)]) s
  | some mid => optB (s.get mid) fun om => optB (mapOf om) fun p => ifB (and2 (lall (fun e => Nat.ble (Nat.succ e.born) q.2.1) p.1) (Nat.ble q.2.1 q.2.2.2))
      (match leftA q.2.2.1 p.1 with
      | [] => k (.tup [.s (.bool false)]) s
      | x :: l => lall (fun e => s.updK id (.iter (some mid) q.2.1 (snocN q.2.2.1 e.born) p.2) fun s' => k (.tup [.s (.bool true), e.key, e.val]) s') (x :: l))
def bEntry (v : AV) (s : S) (k : BK) : Bool := optB (ptr0 v) fun id => optB (s.get id) fun o => optB (iterOf o) fun q => match q.1 with
  | none => false
  | some mid => optB (s.get mid) fun om => optB (mapOf om) fun p => ifB (Nat.beq p.2 q.2.2.2) (optB (lastN q.2.2.1) fun b => optB (findB b p.1) fun e => k (.tup [e.key, e.val]) s)

section
variable {P : Program} {c : Cx} {s : S} {w : World}
theorem S.next_eq' (s : S) : s.next = s.nx := by cases s; rfl
theorem mrange_sound {ty kt vt : TypeId} (hu : P.underlying ty = some (.map kt vt)) (h : Rel c s w) {v : AV} {k : BK} (hk : bRange v s k = true) :
    ∃ c' x s' w', (Instr.range ty (v.conc c)).run P w = .ok (x.conc c') w' ∧ x.wf c' s'.nx ∧ Step c c' s s' w w' ∧ Rel c' s' w' ∧ k x s' = true := by
  obtain ⟨x, hx, hk1⟩ := optB_true (show optB (asS v) _ = true from hk)
  have ex := asS_spec hx
  subst ex
  have fin : ∀ (m : Option Nat) (cl : Nat), (∀ i, m = some i → i < s.nx) → (Instr.range ty ((AV.w (.s x)).conc c)).run P w = .ok (.pointer (some ⟨w.heap.size, 0, none⟩)) (w.alloc (.mapIter (m.map c.ι) cl #[] cl)) → k (.w (.s (.ptr s.nx 0))) (s.new (.iter m cl [] cl)) = true →
      ∃ c' x' s' w', (Instr.range ty ((AV.w (.s x)).conc c)).run P w = .ok (x'.conc c') w' ∧ x'.wf c' s'.nx ∧ Step c c' s s' w w' ∧ Rel c' s' w' ∧ k x' s' = true := by
    intro m cl hm hr hk2
    have hin : (c.set2 s.nx w.heap.size 0).ι s.nx = w.heap.size := by simp [Cx.set2]
    refine ⟨c.set2 s.nx w.heap.size 0, .w (.s (.ptr s.nx 0)), s.new (.iter m cl [] cl), w.alloc (.mapIter (m.map c.ι) cl #[] cl), ?_, ?_, Step.new _ _ _, Rel.new h ?_ ?_, hk2⟩
    · rw [hr]
      have : (AV.w (.s (.ptr s.nx 0))).conc (c.set2 s.nx w.heap.size 0) = .pointer (some ⟨w.heap.size, 0, none⟩) := by
        simp only [AV.conc, AW.conc, AS.conc, hin]
      rw [this]
    · show s.nx < s.nx + 1
      omega
    · intro i hi
      have := hm i hi
      omega
    · show some (Obj.mapIter (m.map c.ι) cl #[] cl) = some (.mapIter (m.map (c.set2 s.nx w.heap.size 0).ι) cl [].toArray cl)
      cases m with
      | none => rfl
      | some i =>
        have hi := hm i rfl
        have : (c.set2 s.nx w.heap.size 0).ι i = c.ι i := by simp [Cx.set2]; omega
        simp [this]
  split at hk1 <;> try (simp at hk1; done)
  · rename_i id
    obtain ⟨o, ho, hk2⟩ := optB_true hk1
    obtain ⟨⟨es, cl⟩, hp, hk3⟩ := optB_true hk2
    have eo := mapOf_spec hp
    subst eo
    rw [S.get_eq] at ho
    rw [S.newK_eq, S.next_eq'] at hk3
    have hob : w.heap[c.ι id]? = some (.map (es.map (AEnt.conc c)).toArray cl) := h.obj id _ ho
    refine fin (some id) cl (fun i hi => by injection hi with hi; subst hi; exact h.lt _ _ ho) ?_ hk3
    exact run_range_map w ty kt vt (c.ι id) _ cl hu hob
  · rw [S.newK_eq, S.next_eq'] at hk1
    exact fin none 0 (fun i hi => by cases hi) (run_range_nilMap w ty kt vt hu) hk1

theorem left_conc (seen : List Nat) (es : List AEnt) : (leftOf (es.map (AEnt.conc c)).toArray seen.toArray).toList = (leftA seen es).map (AEnt.conc c) := by
  rw [leftA_eq]
  unfold leftOf
  simp only [List.filter_toArray', Array.toList_filter, List.contains_toArray, List.filter_map]
  rfl

theorem next_sound {ty : TypeId} (h : Rel c s w) {v : AV} {k : BK} (hk : bNext v s k = true) :
    ∃ x s' w', (Instr.next (v.conc c) false ty).run P w = .ok (x.conc c) w' ∧ x.wf c s'.nx ∧ Step c c s s' w w' ∧ Rel c s' w' ∧ k x s' = true := by
  obtain ⟨id, hv, hk1⟩ := optB_true (show optB (ptr0 v) _ = true from hk)
  obtain ⟨o, ho, hk2⟩ := optB_true hk1
  obtain ⟨⟨m, since, seen, st⟩, hq, hk3⟩ := optB_true hk2
  have ev := ptr0_spec hv
  have eo := iterOf_spec hq
  subst ev; subst eo
  rw [S.get_eq] at ho
  have hr : w.heap[c.ι id]? = some (.mapIter (m.map c.ι) since seen.toArray st) := h.obj id _ ho
  have e0 : (AV.w (.s (.ptr id 0))).conc c = .pointer (some ⟨c.ι id, 0, none⟩) := rfl
  rw [e0]
  have wf0 : (AV.tup [.s (.bool false)]).wf c s.nx := by
    intro x hx
    simp only [List.mem_cons, List.not_mem_nil, or_false] at hx
    subst hx; trivial
  cases m with
  | none =>
    refine ⟨.tup [.s (.bool false)], s, w, ?_, wf0, Step.refl c s w, h, hk3⟩
    simp only [Instr.next, getObj, Sem.run_bind, Sem.run, hr, Option.map_none, Result.andThen]
    rfl
  | some mid =>
    obtain ⟨om, hom, hk4⟩ := optB_true hk3
    obtain ⟨⟨es, cl⟩, hp, hk5⟩ := optB_true hk4
    have em := mapOf_spec hp
    subst em
    rw [S.get_eq] at hom
    have hob : w.heap[c.ι mid]? = some (.map (es.map (AEnt.conc c)).toArray cl) := h.obj mid _ hom
    obtain ⟨hc, hk6⟩ := ifB_true hk5
    obtain ⟨hc1, hc2⟩ := and2_iff.1 hc
    have hc1 := (lall_iff _ _).1 hc1
    have hc2 : since ≤ st := (natBle_iff _ _).1 hc2
    have hold : ∀ x ∈ ((es.map (AEnt.conc c)).toArray).toList, x.born < since := by
      intro x hx
      simp only [List.mem_map] at hx
      obtain ⟨e, he, rfl⟩ := hx
      exact (natBle_iff _ _).1 (hc1 e he)
    have hl := left_conc (c := c) seen es
    rcases run_next_at (P := P) w ty (c.ι id) (c.ι mid) since st seen.toArray _ cl hr hob hold hc2 with ⟨g1, g2⟩ | ⟨e, ge, w1, gw, g2⟩
    · have : leftA seen es = [] := by
        have h1 : ((leftA seen es).map (AEnt.conc c)).length = 0 := by rw [← hl]; simpa using g1
        simpa using h1
      have hk6 : (match leftA seen es with
        | [] => k (.tup [.s (.bool false)]) s
        | x :: l => lall (fun e => s.updK id (.iter (some mid) since (snocN seen e.born) cl) fun s' => k (.tup [.s (.bool true), e.key, e.val]) s') (x :: l)) = true := hk6
      rw [this] at hk6
      exact ⟨.tup [.s (.bool false)], s, w, g2, wf0, Step.refl c s w, h, hk6⟩
    · rw [hl] at ge
      obtain ⟨e0, he0, ee⟩ := List.mem_map.1 ge
      subst ee
      have hk6 : (match leftA seen es with
        | [] => k (.tup [.s (.bool false)]) s
        | x :: l => lall (fun e => s.updK id (.iter (some mid) since (snocN seen e.born) cl) fun s' => k (.tup [.s (.bool true), e.key, e.val]) s') (x :: l)) = true := hk6
      have hk7 : s.updK id (.iter (some mid) since (snocN seen e0.born) cl) (fun s' => k (.tup [.s (.bool true), e0.key, e0.val]) s') = true := by
        cases hL : leftA seen es with
        | nil => rw [hL] at he0; cases he0
        | cons x l =>
          rw [hL] at hk6 he0
          exact (lall_iff _ _).1 hk6 e0 he0
      rw [S.updK_eq] at hk7
      have hme : e0 ∈ es := by rw [leftA_eq] at he0; exact (List.mem_filter.1 he0).1
      have hwf := h.wf mid _ hom e0 hme
      have hh : w1.heap = w.heap ∧ w1.os = w.os ∧ w1.tape = w.tape ∧ w1.output = w.output := by
        rcases gw with rfl | rfl <;> exact ⟨rfl, rfl, rfl, rfl⟩
      have hlt := h.ι_lt ho
      have hself : (setBlock w1 (c.ι id) (.mapIter (some (c.ι mid)) since (seen.toArray.push e0.born) cl)).heap[c.ι id]? = some (.mapIter (some (c.ι mid)) since (seen.toArray.push e0.born) cl) := by
        simp only [setBlock, hh.1]
        rw [Array.getElem?_setIfInBounds_self_of_lt hlt]
      have hother : ∀ b, b ≠ c.ι id → (setBlock w1 (c.ι id) (.mapIter (some (c.ι mid)) since (seen.toArray.push e0.born) cl)).heap[b]? = w.heap[b]? := by
        intro b hb
        simp only [setBlock, hh.1]
        rw [Array.getElem?_setIfInBounds_ne (Ne.symm hb)]
      refine ⟨.tup [.s (.bool true), e0.key, e0.val], s.upd id (.iter (some mid) since (snocN seen e0.born) cl), _, g2, ?_, Step.upd _ ho hh.2.1 hh.2.2.1 hh.2.2.2 ?_ hother, h.upd ho ?_ ?_ hother, hk7⟩
      · intro x hx
        simp only [List.mem_cons, List.not_mem_nil, or_false] at hx
        rcases hx with rfl | rfl | rfl
        · trivial
        · exact hwf.1
        · exact hwf.2
      · simp [setBlock, hh.1]
      · intro i hi
        injection hi with hi; subst hi
        exact h.lt _ _ hom
      · show ObjRel c id (.iter (some mid) since (snocN seen e0.born) cl) ((setBlock w1 (c.ι id) (.mapIter (some (c.ι mid)) since (seen.toArray.push e0.born) cl)).heap[c.ι id]?)
        rw [hself]
        show some _ = some (Obj.mapIter ((some mid).map c.ι) since (snocN seen e0.born).toArray cl)
        rw [snocN_eq]
        simp

theorem entry_sound (h : Rel c s w) {v : AV} {k : BK} (hk : bEntry v s k = true) :
    ∃ x, (Instr.entry (v.conc c)).run P w = .ok (AV.conc c x) w ∧ x.wf c s.nx ∧ k x s = true := by
  obtain ⟨id, hv, hk1⟩ := optB_true (show optB (ptr0 v) _ = true from hk)
  obtain ⟨o, ho, hk2⟩ := optB_true hk1
  obtain ⟨⟨m, since, seen, st⟩, hq, hk3⟩ := optB_true hk2
  have ev := ptr0_spec hv
  have eo := iterOf_spec hq
  subst ev; subst eo
  rw [S.get_eq] at ho
  have hr : w.heap[c.ι id]? = some (.mapIter (m.map c.ι) since seen.toArray st) := h.obj id _ ho
  have e0 : (AV.w (.s (.ptr id 0))).conc c = .pointer (some ⟨c.ι id, 0, none⟩) := rfl
  rw [e0]
  cases m with
  | none => cases hk3
  | some mid =>
    obtain ⟨om, hom, hk4⟩ := optB_true hk3
    obtain ⟨⟨es, cl⟩, hp, hk5⟩ := optB_true hk4
    have em := mapOf_spec hp
    subst em
    rw [S.get_eq] at hom
    have hob : w.heap[c.ι mid]? = some (.map (es.map (AEnt.conc c)).toArray cl) := h.obj mid _ hom
    obtain ⟨hc, hk6⟩ := ifB_true hk5
    have hc : cl = st := (natBeq_iff _ _).1 hc
    subst hc
    obtain ⟨b, hb, hk7⟩ := optB_true hk6
    obtain ⟨e, he, hk8⟩ := optB_true hk7
    have hb : lastN seen = some b := hb
    have he : findB b es = some e := he
    rw [lastN_eq] at hb
    rw [findB_eq] at he
    have hwf := h.wf mid _ hom e (List.mem_of_find?_eq_some he)
    refine ⟨.tup [e.key, e.val], ?_, ?_, hk8⟩
    · have hf : (es.map (AEnt.conc c)).toArray.find? (fun x => x.born == b) = some (AEnt.conc c e) := by
        rw [List.find?_toArray, List.find?_map]
        have : (fun x : MapEntry => x.born == b) ∘ AEnt.conc c = fun e : AEnt => e.born == b := rfl
        rw [this, he]; rfl
      have hbk : seen.toArray.back? = some b := by rw [List.back?_toArray]; exact hb
      simp only [Instr.entry, getObj, Sem.run_bind, Sem.run, hr, hob, Option.map_some, Result.andThen, hbk, bne_self_eq_false, Bool.false_eq_true, if_false, hf]
      rfl
    · intro x hx
      simp only [List.mem_cons, List.not_mem_nil, or_false] at hx
      rcases hx with rfl | rfl
      · exact hwf.1
      · exact hwf.2
end
end
end Go.Sy

