/- The symbolic executor: parts Zl, Zm. Sound by one theorem (callA_ok). No condition. -/
import Derived.Test.YtnfoaablgldjcaaGreatSy6
set_option linter.unusedVariables false
set_option linter.unusedSimpArgs false
set_option linter.unusedSectionVars false
/-! The symbolic executor, part Zl: the same run, fast: operations, code, functions, calls. -/
namespace Go.Sy
set_option linter.unusedVariables false
set_option linter.unusedSectionVars false
noncomputable section

abbrev PK := Phi → Tmps → (AV → Bool) → Bool
abbrev RK := Tmps → S → (AV → Bool) → Bool
abbrev BK2 := Tmps → S → (AV → S → Bool) → Bool
abbrev O2 := CallF → KX → Tmps → S → (Tmps → S → Bool) → Bool

/-- one operation of an ordered region -/
def regS (o : AOper) : O2 := fun call kx t s k => match o with
  | .mk dst op g => guardE g t fun b => match b with
    | false => putK dst .undef t fun t => k t s
    | true => stepOp call op t s (fun v s => putK dst v t fun t => k t s) (fun v s => kx (.panic v) t s)

/-! operations that look at their operands alone -/
def POk (f : PK) (o : POp) : Prop := ∀ φ t K, f φ t K = optB (pureOp φ t o) K
def oP (w : W) (f : PK) : O2 := fun _ _ t s k => S.rec (fun h nx φ => f φ t fun v => w v t fun t => k t ⟨h, nx, φ⟩) s
theorem oP_eq {f : PK} {o : POp} (h : POk f o) (dst : Option Nat) : oP (wD dst) f = regS ⟨dst, .p o, none⟩ := by
  funext call kx t s k
  cases s with
  | mk hh nx φ =>
    show f φ t (fun v => wD dst v t fun t => k t ⟨hh, nx, φ⟩) = optB (pureOp φ t o) fun v => putK dst v t fun t => k t ⟨hh, nx, φ⟩
    rw [h]
    congr 1; funext v
    rw [wD_eq, putK_eq]
theorem optB_optP {α β : Type} (o : Option α) (f : α → Option β) (K : β → Bool) : optB (optP o none f) K = optB o fun x => optB (f x) K := by cases o <;> rfl
theorem optB_ckB {β : Type} (b : Bool) (x : Option β) (K : β → Bool) : optB (ckB b none x) K = ifB b (optB x K) := by cases b <;> rfl
theorem optB_some {α : Type} (x : α) (K : α → Bool) : optB (some x) K = K x := rfl

def pGen (f : Phi → Tmps → Option AV) : PK := fun φ t K => oB (f φ t) fun v => forceV v K
theorem pGen_eq {f : Phi → Tmps → Option AV} {o : POp} (h : ∀ φ t, f φ t = pureOp φ t o) : POk (pGen f) o := by
  intro φ t K
  show oB (f φ t) (fun v => forceV v K) = _
  rw [oB_eq, h]
  congr 1; funext v; rw [forceV_eq]
def pMv (g : G) : PK := fun _ t K => oB (g t) K
theorem pMv_eq (x : AX) : POk (pMv (gX x)) (.mv x) := by
  intro φ t K
  show oB (gX x t) K = optB (ev t x) K
  rw [oB_eq, gX_eq]
def arS (o : Nat) (φ : Phi) (k : IntKind) (a b : Tm) (K : AV → Bool) : Bool := fT (sqL φ (sAr o φ k a b)) fun t => K (.w (.s (.int k t)))
def pAr (o : Nat) (g1 g2 : G) : PK := fun φ t K => oB (g1 t) fun v => dInt v fun k a => oB (g2 t) fun w => dInt w fun k2 b => bB (kindEq k k2)
  (tLit a (fun m => tLit b (fun n => forceI (fwrap k (arI o m n)) fun r => K (.w (.s (.int k (.lit r))))) (arS o φ k a b K)) (arS o φ k a b K))
theorem ar_eq (o : Nat) (φ : Phi) (k : IntKind) (a b : Tm) (K : AV → Bool) :
    tLit a (fun m => tLit b (fun n => forceI (fwrap k (arI o m n)) fun r => K (.w (.s (.int k (.lit r))))) (arS o φ k a b K)) (arS o φ k a b K) = K (vInt k (sqL φ (sAr o φ k a b))) := by
  have hs : arS o φ k a b K = K (vInt k (sqL φ (sAr o φ k a b))) := by unfold arS; rw [fT_eq]; rfl
  rw [tLit_eq]
  split
  · rw [tLit_eq]
    split
    · rw [forceI_eq]; rfl
    · exact hs
  · exact hs
theorem pAr_eq (o : Nat) (x y : AX) : POk (pAr o (gX x) (gX y)) (.ar o x y) := by
  intro φ t K
  show oB (gX x t) _ = optB (opAr φ t o x y) K
  unfold opAr int2
  rw [oB_eq, gX_eq, optB_optP]
  congr 1; funext v
  rw [dInt_eq, optB_optP]
  congr 1; funext p
  rw [oB_eq, gX_eq, optB_optP]
  congr 1; funext w
  rw [dInt_eq, optB_optP]
  congr 1; funext q
  rw [optB_ckB, bB_eq, ar_eq]
  rfl
def pBt (o : Nat) (g1 g2 : G) : PK := fun φ t K => oB (g1 t) fun v => dInt v fun k a => oB (g2 t) fun w => dInt w fun k2 b => bB (kindEq k k2)
  (fT (sBits o φ k a b) fun t => K (.w (.s (.int k t))))
theorem pBt_eq (o : Nat) (x y : AX) : POk (pBt o (gX x) (gX y)) (.bt o x y) := by
  intro φ t K
  show oB (gX x t) _ = optB (opBt φ t o x y) K
  unfold opBt int2
  rw [oB_eq, gX_eq, optB_optP]
  congr 1; funext v
  rw [dInt_eq, optB_optP]
  congr 1; funext p
  rw [oB_eq, gX_eq, optB_optP]
  congr 1; funext w
  rw [dInt_eq, optB_optP]
  congr 1; funext q
  rw [optB_ckB, bB_eq, fT_eq]
  rfl
def pShl (g1 g2 : G) : PK := fun φ t K => oB (g1 t) fun v => dInt v fun k a => oB (g2 t) fun w => dNat w fun n => fT (sShl φ k a n) fun t => K (.w (.s (.int k t)))
theorem pShl_eq (x y : AX) : POk (pShl (gX x) (gX y)) (.shl x y) := by
  intro φ t K
  show oB (gX x t) _ = optB (opShl φ t x y) K
  unfold opShl
  rw [oB_eq, gX_eq, optB_optP]
  congr 1; funext v
  rw [dInt_eq, optB_optP]
  congr 1; funext p
  rw [oB_eq, gX_eq, optB_optP]
  congr 1; funext w
  rw [dNat_eq, optB_optP]
  congr 1; funext q
  rw [fT_eq]; rfl
def pShr (g1 g2 : G) : PK := fun φ t K => oB (g1 t) fun v => dInt v fun k a => oB (g2 t) fun w => dNat w fun n => fT (sShr k a n) fun t => K (.w (.s (.int k t)))
theorem pShr_eq (x y : AX) : POk (pShr (gX x) (gX y)) (.sr x y) := by
  intro φ t K
  show oB (gX x t) _ = optB (opShr t x y) K
  unfold opShr
  rw [oB_eq, gX_eq, optB_optP]
  congr 1; funext v
  rw [dInt_eq, optB_optP]
  congr 1; funext p
  rw [oB_eq, gX_eq, optB_optP]
  congr 1; funext w
  rw [dNat_eq, optB_optP]
  congr 1; funext q
  rw [fT_eq]; rfl
def pConv (k : IntKind) (g : G) : PK := fun φ t K => oB (g t) fun v => dInt v fun _ a =>
  tLit a (fun m => forceI (fwrap k m) fun r => K (.w (.s (.int k (.lit r))))) (fT (sqL φ (sConv φ k a)) fun t => K (.w (.s (.int k t))))
theorem pConv_eq (k : IntKind) (x : AX) : POk (pConv k (gX x)) (.conv k x) := by
  intro φ t K
  show oB (gX x t) _ = optB (opConv φ t k x) K
  unfold opConv
  rw [oB_eq, gX_eq, optB_optP]
  congr 1; funext v
  rw [dInt_eq, optB_optP]
  congr 1; funext p
  rw [tLit_eq]
  split
  · rename_i m hm
    rw [forceI_eq, hm]; rfl
  · rw [fT_eq]; rfl
def pNot (g : G) : PK := fun _ t K => oB (g t) fun v => dBool v fun b => Bool.rec (K (.w (.s (.bool true)))) (K (.w (.s (.bool false)))) b
theorem pNot_eq (x : AX) : POk (pNot (gX x)) (.not x) := by
  intro φ t K
  show oB (gX x t) _ = optB (opNot t x) K
  unfold opNot
  rw [oB_eq, gX_eq, optB_optP]
  congr 1; funext v
  rw [dBool_eq, optB_optP]
  congr 1; funext b
  cases b <;> rfl
def pFaddr (off : Nat) (g : G) : PK := fun _ t K => oB (g t) fun v => dPtr v fun a b => forceN (Nat.add b off) fun b => K (.w (.s (.ptr a b)))
theorem pFaddr_eq (off : Nat) (x : AX) : POk (pFaddr off (gX x)) (.faddr off x) := by
  intro φ t K
  show oB (gX x t) _ = optB (opFaddr t off x) K
  unfold opFaddr
  rw [oB_eq, gX_eq, optB_optP]
  congr 1; funext v
  rw [dPtr_eq, optB_optP]
  congr 1; funext p
  rw [forceN_eq]; rfl
/-- one cell, or so many -/
def ptK (n : Option Nat) (l : List AS) (off : Nat) (K : AV → Bool) : Bool := Option.rec (oB (lget l off) fun x => K (.w (.s x))) (fun n => pkK (ldrop l off) n fun r => K (.w (.agg r))) n
theorem ptK_eq (n : Option Nat) (l : List AS) (off : Nat) (K : AV → Bool) : ptK n l off K = optB (partA n l off) K := by
  cases n with
  | none =>
    show oB (lget l off) _ = optB (optP (lget l off) none _) K
    rw [oB_eq, optB_optP]; rfl
  | some n =>
    show pkK (ldrop l off) n _ = _
    rw [pkK_eq]; rfl
def pField (n : Option Nat) (off : Nat) (g : G) : PK := fun _ t K => oB (g t) fun v => dAgg v fun l => ptK n l off K
theorem pField_eq (n : Option Nat) (off : Nat) (x : AX) : POk (pField n off (gX x)) (.field n off x) := by
  intro φ t K
  show oB (gX x t) _ = optB (opField t n off x) K
  unfold opField
  rw [oB_eq, gX_eq, optB_optP]
  congr 1; funext v
  rw [dAgg_eq, optB_optP]
  congr 1; funext l
  exact ptK_eq ..
def pIaddrS (z : Nat) (gx gi : G) : PK := fun _ t K => oB (gx t) fun v => dSlc v fun id off len _ => oB (gi t) fun w => dNat w fun i => bB (Nat.ble (Nat.succ i) len) (forceN (Nat.add off (Nat.mul i z)) fun b => K (.w (.s (.ptr id b))))
theorem pIaddrS_eq (z : Nat) (x i : AX) : POk (pIaddrS z (gX x) (gX i)) (.iaddrS z x i) := by
  intro φ t K
  show oB (gX x t) _ = optB (opIaddrS t z x i) K
  unfold opIaddrS
  rw [oB_eq, gX_eq, optB_optP]
  congr 1; funext v
  rw [optB_optP]
  unfold dSlc
  rw [dS_eq]
  congr 1; funext y
  cases y <;> try rfl
  rename_i id off len cap
  show oB (gX i t) _ = optB (optP (ev t i) none _) K
  rw [oB_eq, gX_eq, optB_optP]
  congr 1; funext w
  rw [dNat_eq, optB_optP]
  congr 1; funext j
  rw [optB_ckB, bB_eq, forceN_eq]; rfl
def pIaddrA (len z : Nat) (gx gi : G) : PK := fun _ t K => oB (gx t) fun v => dPtr v fun id off => oB (gi t) fun w => dNat w fun i => bB (Nat.ble (Nat.succ i) len) (forceN (Nat.add off (Nat.mul i z)) fun b => K (.w (.s (.ptr id b))))
theorem pIaddrA_eq (len z : Nat) (x i : AX) : POk (pIaddrA len z (gX x) (gX i)) (.iaddrA len z x i) := by
  intro φ t K
  show oB (gX x t) _ = optB (opIaddrA t len z x i) K
  unfold opIaddrA
  rw [oB_eq, gX_eq, optB_optP]
  congr 1; funext v
  rw [dPtr_eq, optB_optP]
  congr 1; funext p
  rw [oB_eq, gX_eq, optB_optP]
  congr 1; funext w
  rw [dNat_eq, optB_optP]
  congr 1; funext j
  rw [optB_ckB, bB_eq, forceN_eq]; rfl
def pIndex (n : Option Nat) (len z : Nat) (gx gi : G) : PK := fun _ t K => oB (gx t) fun v => dAgg v fun l => oB (gi t) fun w => dNat w fun i => bB (Nat.ble (Nat.succ i) len) (forceN (Nat.mul i z) fun b => ptK n l b K)
theorem pIndex_eq (n : Option Nat) (len z : Nat) (x i : AX) : POk (pIndex n len z (gX x) (gX i)) (.index n len z x i) := by
  intro φ t K
  show oB (gX x t) _ = optB (opIndex t n len z x i) K
  unfold opIndex
  rw [oB_eq, gX_eq, optB_optP]
  congr 1; funext v
  rw [dAgg_eq, optB_optP]
  congr 1; funext l
  rw [oB_eq, gX_eq, optB_optP]
  congr 1; funext w
  rw [dNat_eq, optB_optP]
  congr 1; funext j
  rw [optB_ckB, bB_eq, forceN_eq, ptK_eq]
def pExt (g : G) (i : Nat) : PK := fun _ t K => oB (g t) fun v => dTup v fun l => oB (lget l i) fun x => K (.w x)
theorem pExt_eq (x : AX) (i : Nat) : POk (pExt (gX x) i) (.ext x i) := by
  intro φ t K
  show oB (gX x t) _ = optB (opExt t x i) K
  unfold opExt
  rw [oB_eq, gX_eq, optB_optP]
  congr 1; funext v
  cases v <;> try rfl
  rename_i l
  show oB (lget l i) _ = optB (optP (lget l i) none _) K
  rw [oB_eq, optB_optP]; rfl
/-- the parts of a row, filled in -/
def fillK (t : Tmps) (ps : List (Nat × Nat × G)) : List AS → (List AS → Bool) → Bool :=
  List.rec (fun l K => K l) (fun p _ ih l K => oB (p.2.2 t) fun v => dCls v fun xs => bB (and2 (Nat.beq (llen xs) p.2.1) (Nat.ble (Nat.add p.1 p.2.1) (llen l))) (lsetK l p.1 xs fun l => ih l K)) ps
def gP (p : Nat × Nat × AX) : Nat × Nat × G := (p.1, p.2.1, gX p.2.2)
theorem fillK_eq (t : Tmps) : ∀ (ps : List (Nat × Nat × AX)) (l : List AS) (K : List AS → Bool), fillK t (lmap gP ps) l K = optB (fillA t ps l) K := by
  intro ps
  induction ps with
  | nil => intro l K; rfl
  | cons p ps ih =>
    intro l K
    show oB (gX p.2.2 t) (fun v => dCls v fun xs => bB (and2 (Nat.beq (llen xs) p.2.1) (Nat.ble (Nat.add p.1 p.2.1) (llen l))) (lsetK l p.1 xs fun l => fillK t (lmap gP ps) l K)) = _
    rw [fillA_cons, oB_eq, gX_eq, optB_optP]
    congr 1; funext v
    rw [dCls_eq, optB_optP]
    congr 1; funext xs
    rw [optB_ckB, bB_eq, lsetK_eq, lsetK_eq, ih]
def pBuild (zero : List AS) (ps : List (Nat × Nat × G)) : PK := fun _ t K => fillK t ps zero fun l => K (.w (.agg l))
theorem pBuild_eq (zero : List AS) (ps : List (Nat × Nat × AX)) : POk (pBuild zero (lmap gP ps)) (.build zero ps) := by
  intro φ t K
  show fillK t (lmap gP ps) zero _ = optB (opBuild t zero ps) K
  unfold opBuild
  rw [fillK_eq, optB_optP]; rfl
def denP (o : POp) : PK := match o with
  | .mv x => pMv (gX x)
  | .pick c a b => pGen fun _ t => opPick t c a b
  | .build z ps => pBuild z (lmap gP ps)
  | .nilCheck x => pGen fun _ t => opNil t x
  | .ar o x y => pAr o (gX x) (gX y)
  | .dv x y => pGen fun φ t => opDv φ t x y
  | .md x y => pGen fun φ t => opMd φ t x y
  | .bt o x y => pBt o (gX x) (gX y)
  | .shl x y => pShl (gX x) (gX y)
  | .sr x y => pShr (gX x) (gX y)
  | .not x => pNot (gX x)
  | .conv k x => pConv k (gX x)
  | .mkiface ty x => pGen fun _ t => opMkif t ty x
  | .mkfunc f cs => pGen fun _ t => opMkfn t f cs
  | .slice z x lo hi => pGen fun _ t => opSlice t z x lo hi
  | .aslice n z x lo hi => pGen fun _ t => opASlice t n z x lo hi
  | .faddr off x => pFaddr off (gX x)
  | .field n off x => pField n off (gX x)
  | .iaddrS z x i => pIaddrS z (gX x) (gX i)
  | .iaddrA len z x i => pIaddrA len z (gX x) (gX i)
  | .index n len z x i => pIndex n len z (gX x) (gX i)
  | .ext x i => pExt (gX x) i
  | .len x => pGen fun _ t => opLen t x
  | .tassert ty z x => pGen fun _ t => opTass t ty z x
  | .s2a n x => pGen fun _ t => opS2a t n x
  | .slice3 x hi mx => pGen fun _ t => opSlice3 t x hi mx
  | .sidx l i => pGen fun _ t => opSidx t l i
  | .stuck => pGen fun _ _ => none
theorem denP_eq (o : POp) : POk (denP o) o := by
  cases o with
  | mv x => exact pMv_eq x
  | pick c a b => exact pGen_eq fun _ _ => rfl
  | build z ps => exact pBuild_eq z ps
  | nilCheck x => exact pGen_eq fun _ _ => rfl
  | ar o x y => exact pAr_eq o x y
  | dv x y => exact pGen_eq fun _ _ => rfl
  | md x y => exact pGen_eq fun _ _ => rfl
  | bt o x y => exact pBt_eq o x y
  | shl x y => exact pShl_eq x y
  | sr x y => exact pShr_eq x y
  | not x => exact pNot_eq x
  | conv k x => exact pConv_eq k x
  | mkiface ty x => exact pGen_eq fun _ _ => rfl
  | mkfunc f cs => exact pGen_eq fun _ _ => rfl
  | slice z x lo hi => exact pGen_eq fun _ _ => rfl
  | aslice n z x lo hi => exact pGen_eq fun _ _ => rfl
  | faddr off x => exact pFaddr_eq off x
  | field n off x => exact pField_eq n off x
  | iaddrS z x i => exact pIaddrS_eq z x i
  | iaddrA len z x i => exact pIaddrA_eq len z x i
  | index n len z x i => exact pIndex_eq n len z x i
  | ext x i => exact pExt_eq x i
  | len x => exact pGen_eq fun _ _ => rfl
  | tassert ty z x => exact pGen_eq fun _ _ => rfl
  | s2a n x => exact pGen_eq fun _ _ => rfl
  | slice3 x hi mx => exact pGen_eq fun _ _ => rfl
  | sidx l i => exact pGen_eq fun _ _ => rfl
  | stuck => exact pGen_eq fun _ _ => rfl

/-! operations that read -/
def ROk (f : RK) (o : ROp) : Prop := ∀ t s K, f t s K = optB (readOp t s o) K
def oR (w : W) (f : RK) : O2 := fun _ _ t s k => f t s fun v => w v t fun t => k t s
theorem oR_eq {f : RK} {o : ROp} (h : ROk f o) (dst : Option Nat) : oR (wD dst) f = regS ⟨dst, .r o, none⟩ := by
  funext call kx t s k
  show f t s (fun v => wD dst v t fun t => k t s) = optB (readOp t s o) fun v => putK dst v t fun t => k t s
  rw [h]
  congr 1; funext v
  rw [wD_eq, putK_eq]
def sGet (s : S) (id : Nat) (K : AObj → Bool) : Bool := S.rec (fun h _ _ => oB (h.get (Nat.succ id)) K) s
theorem sGet_eq (s : S) (id : Nat) (K : AObj → Bool) : sGet s id K = optB (s.get id) K := by cases s; exact oB_eq ..
def oCls (o : AObj) (K : List AS → Bool) : Bool := AObj.rec (fun l _ => K l) (fun l _ _ => K l) (fun _ _ => false) (fun _ _ _ _ => false) o
theorem oCls_eq (o : AObj) (K : List AS → Bool) : oCls o K = optB (cellsOfObj o) K := by cases o <;> rfl
def rLoad (n : Option Nat) (g : G) : RK := fun t s K => oB (g t) fun v => dPtr v fun id off => sGet s id fun o => oCls o fun l =>
  Option.rec (oB (lget l off) fun x => K (.w (.s x))) (fun n => takeK l off n fun r => K (.w (.agg r))) n
theorem rLoad_eq (n : Option Nat) (x : AX) : ROk (rLoad n (gX x)) (.load n x) := by
  intro t s K
  show oB (gX x t) _ = optB (opLoad t s n x) K
  unfold opLoad
  rw [oB_eq, gX_eq, optB_optP]
  congr 1; funext v
  rw [dPtr_eq, optB_optP]
  congr 1; funext p
  rw [sGet_eq, optB_optP]
  congr 1; funext o
  rw [oCls_eq, optB_optP]
  congr 1; funext l
  cases n with
  | none =>
    show oB (lget l p.2) _ = optB (optP (lget l p.2) none _) K
    rw [oB_eq, optB_optP]; rfl
  | some n =>
    show takeK l p.2 n _ = optB (optP (takeN l p.2 n) none _) K
    rw [takeK_eq, optB_optP]; rfl
def rGen (f : Tmps → S → Option AV) : RK := fun t s K => oB (f t s) fun v => forceR v K
theorem rGen_eq {f : Tmps → S → Option AV} {o : ROp} (h : ∀ t s, f t s = readOp t s o) : ROk (rGen f) o := by
  intro t s K
  show oB (f t s) (fun v => forceR v K) = _
  rw [oB_eq, h]
  congr 1; funext v; rw [forceR_eq]
def denR (o : ROp) : RK := match o with
  | .load n a => rLoad n (gX a)
  | .lookup kt z x k ok => rGen fun t s => match s with | .mk _ _ φ => opLook φ t s kt z x k ok
  | .mlen x => rGen fun t s => opMlen t s x
  | .cstr x => rGen fun t s => opCstr t s x
theorem denR_eq (o : ROp) : ROk (denR o) o := by
  cases o with
  | load n a => exact rLoad_eq n a
  | lookup kt z x k ok => exact rGen_eq fun _ _ => rfl
  | mlen x => exact rGen_eq fun _ _ => rfl
  | cstr x => exact rGen_eq fun _ _ => rfl

/-! operations that make a block -/
def oM (w : W) (o : MOp) : O2 := fun _ _ t s k => S.rec (fun h nx φ => oB (makeOp t nx o) fun p => forceO p.1 fun ob => h.setK (some ob) (Nat.succ nx) fun h => forceN (Nat.add nx 1) fun n => forceR p.2 fun v => w v t fun t => k t ⟨h, n, φ⟩) s
theorem oM_eq (o : MOp) (dst : Option Nat) : oM (wD dst) o = regS ⟨dst, .m o, none⟩ := by
  funext call kx t s k
  cases s with
  | mk h nx φ =>
    show oB (makeOp t nx o) _ = optB (makeOp t nx o) fun p => forceO p.1 fun ob => S.newK ⟨h, nx, φ⟩ ob fun s => putK dst p.2 t fun t => k t s
    rw [oB_eq]
    congr 1; funext p
    rw [forceO_eq, forceO_eq]
    show Tree.setK .. = Tree.setK ..
    rw [Tree.setK_eq, Tree.setK_eq, forceN_eq, forceN_eq, forceR_eq, wD_eq]
    show _ = putK dst p.2 t fun t => k t _
    rw [putK_eq]
def oAlloc (w : W) (e : TypeId) (z : List AS) : O2 := fun _ _ t s k => S.rec (fun h nx φ => h.setK (some (.cells z e)) (Nat.succ nx) fun h => forceN (Nat.add nx 1) fun n => w (.w (.s (.ptr nx 0))) t fun t => k t ⟨h, n, φ⟩) s
theorem oAlloc_eq (e : TypeId) (z : List AS) (dst : Option Nat) : oAlloc (wD dst) e z = regS ⟨dst, .m (.alloc e z), none⟩ := by
  funext call kx t s k
  cases s with
  | mk h nx φ =>
    show Tree.setK .. = forceO (.cells z e) fun ob => S.newK ⟨h, nx, φ⟩ ob fun s => putK dst (.w (.s (.ptr nx 0))) t fun t => k t s
    rw [forceO_eq]
    show Tree.setK .. = Tree.setK ..
    rw [Tree.setK_eq, Tree.setK_eq, forceN_eq, forceN_eq, wD_eq]
    show _ = putK dst (.w (.s (.ptr nx 0))) t fun t => k t _
    rw [putK_eq]
def oBox (w : W) (e : TypeId) (g : G) : O2 := fun _ _ t s k => oB (g t) fun v => dCls v fun l => S.rec (fun h nx φ => h.setK (some (.cells l e)) (Nat.succ nx) fun h => forceN (Nat.add nx 1) fun n => w (.w (.s (.ptr nx 0))) t fun t => k t ⟨h, n, φ⟩) s
theorem oBox_eq (e : TypeId) (x : AX) (dst : Option Nat) : oBox (wD dst) e (gX x) = regS ⟨dst, .m (.box e x), none⟩ := by
  funext call kx t s k
  cases s with
  | mk h nx φ =>
    show oB (gX x t) _ = optB (optP (ev t x) none fun v => optP (cellsA v) none fun l => some (AObj.cells l e, AV.w (.s (.ptr nx 0)))) fun p => forceO p.1 fun ob => S.newK ⟨h, nx, φ⟩ ob fun s => putK dst p.2 t fun t => k t s
    rw [oB_eq, gX_eq, optB_optP]
    congr 1; funext v
    rw [dCls_eq, optB_optP]
    congr 1; funext l
    rw [optB_some, forceO_eq]
    show Tree.setK .. = Tree.setK ..
    rw [Tree.setK_eq, Tree.setK_eq, forceN_eq, forceN_eq, wD_eq]
    show _ = putK dst (.w (.s (.ptr nx 0))) t fun t => k t _
    rw [putK_eq]
def denM (w : W) (o : MOp) : O2 := match o with
  | .alloc e z => oAlloc w e z
  | .box e x => oBox w e (gX x)
  | .bslice e n z ps => oM w (.bslice e n z ps)
  | .mkmap => oM w .mkmap
  | .mkslice e b z n c => oM w (.mkslice e b z n c)
theorem denM_eq (o : MOp) (dst : Option Nat) : denM (wD dst) o = regS ⟨dst, .m o, none⟩ := by
  cases o with
  | alloc e z => exact oAlloc_eq e z dst
  | box e x => exact oBox_eq e x dst
  | bslice e n z ps => exact oM_eq (.bslice e n z ps) dst
  | mkmap => exact oM_eq .mkmap dst
  | mkslice e b z n c => exact oM_eq (.mkslice e b z n c) dst

/-! operations that change memory, ask, or call -/
def BOk' (f : BK2) (o : BOp) : Prop := ∀ call t s kn kp, f t s kn = stepB call o t s kn kp
def oK (w : W) (f : BK2) : O2 := fun _ _ t s k => f t s fun v s => w v t fun t => k t s
theorem oK_eq {f : BK2} {o : BOp} (h : BOk' f o) (dst : Option Nat) : oK (wD dst) f = regS ⟨dst, .b o, none⟩ := by
  funext call kx t s k
  show f t s (fun v s => wD dst v t fun t => k t s) = stepB call o t s (fun v s => putK dst v t fun t => k t s) (fun v s => kx (.panic v) t s)
  rw [h call t s _ (fun v s => kx (.panic v) t s)]
  congr 1; funext v s
  rw [wD_eq, putK_eq]
def stO (o : AObj) (off n : Nat) (v : AV) (K : AObj → Bool) : Bool :=
  AObj.rec (fun l e => dCls v fun xs => bB (Nat.beq (llen xs) n) (lsK l off xs fun l => K (.cells l e))) (fun l e z => dCls v fun xs => bB (Nat.beq (llen xs) n) (lsK l off xs fun l => K (.row l e z))) (fun _ _ => false) (fun _ _ _ _ => false) o
def bSt (n : Nat) (ga gv : G) : BK2 := fun t s K => oB (ga t) fun a => oB (gv t) fun v => dPtr a fun id off => S.rec (fun h nx φ => oB (h.get (Nat.succ id)) fun o => stO o off n v fun o => h.setK (some o) (Nat.succ id) fun h => K .undef ⟨h, nx, φ⟩) s
theorem stO_eq (o : AObj) (off n : Nat) (v : AV) (K : AObj → Bool) : stO o off n v K = optB (cellsOfObj o) fun l => optB (cellsA v) fun xs => ifB (and2 (Nat.beq (llen xs) n) (Nat.ble (Nat.add off n) (llen l))) (lsetK l off xs fun l' => setCellsK o l' K) := by
  have key : ∀ (l xs : List AS) (K : List AS → Bool), bB (Nat.beq (llen xs) n) (lsK l off xs K) = ifB (and2 (Nat.beq (llen xs) n) (Nat.ble (Nat.add off n) (llen l))) (lsetK l off xs K) := by
    intro l xs K
    rw [bB_eq, lsK_eq]
    cases h : Nat.beq (llen xs) n with
    | false => rfl
    | true =>
      have e : llen xs = n := (natBeq_iff _ _).1 h
      subst e
      rfl
  cases o with
  | cells l e =>
    show dCls v (fun xs => bB (Nat.beq (llen xs) n) (lsK l off xs fun l => K (.cells l e))) = optB (cellsA v) fun xs => ifB (and2 (Nat.beq (llen xs) n) (Nat.ble (Nat.add off n) (llen l))) (lsetK l off xs fun l => K (.cells l e))
    rw [dCls_eq]
    congr 1; funext xs
    exact key l xs _
  | row l e z =>
    show dCls v (fun xs => bB (Nat.beq (llen xs) n) (lsK l off xs fun l => K (.row l e z))) = optB (cellsA v) fun xs => ifB (and2 (Nat.beq (llen xs) n) (Nat.ble (Nat.add off n) (llen l))) (lsetK l off xs fun l => K (.row l e z))
    rw [dCls_eq]
    congr 1; funext xs
    exact key l xs _
  | map es c => rfl
  | iter m a l b => rfl
theorem bSt_eq (n : Nat) (a v : AX) : BOk' (bSt n (gX a) (gX v)) (.store n a v) := by
  intro call t s kn kp
  show oB (gX a t) _ = optB (ev t a) fun a => optB (ev t v) fun v => bStore n a v s kn
  rw [oB_eq, gX_eq]
  congr 1; funext av
  rw [oB_eq, gX_eq]
  congr 1; funext vv
  unfold bStore
  rw [dPtr_eq]
  congr 1; funext p
  cases s with
  | mk h nx φ =>
    show oB (h.get (Nat.succ p.1)) _ = optB (h.get (Nat.succ p.1)) _
    rw [oB_eq]
    congr 1; funext o
    rw [stO_eq]
    congr 1
def b1 (f : AV → S → BK → Bool) (g : G) : BK2 := fun t s K => oB (g t) fun x => f x s fun v s => forceR v fun v => K v s
def b2 (f : AV → AV → S → BK → Bool) (g1 g2 : G) : BK2 := fun t s K => oB (g1 t) fun x => oB (g2 t) fun y => f x y s fun v s => forceR v fun v => K v s
def b3 (f : AV → AV → AV → S → BK → Bool) (g1 g2 g3 : G) : BK2 := fun t s K => oB (g1 t) fun x => oB (g2 t) fun y => oB (g3 t) fun z => f x y z s fun v s => forceR v fun v => K v s
theorem forceR_fun (K : AV → S → Bool) : (fun v s => forceR v fun v => K v s) = K := by funext v s; rw [forceR_eq]
theorem b1_eq (f : AV → S → BK → Bool) (x : AX) (t : Tmps) (s : S) (K : AV → S → Bool) : b1 f (gX x) t s K = optB (ev t x) fun x => f x s K := by
  unfold b1; rw [oB_eq, gX_eq, forceR_fun]
theorem b2_eq (f : AV → AV → S → BK → Bool) (x y : AX) (t : Tmps) (s : S) (K : AV → S → Bool) : b2 f (gX x) (gX y) t s K = optB (ev t x) fun x => optB (ev t y) fun y => f x y s K := by
  unfold b2; rw [oB_eq, gX_eq, forceR_fun]; congr 1; funext v; rw [oB_eq, gX_eq]
theorem b3_eq (f : AV → AV → AV → S → BK → Bool) (x y z : AX) (t : Tmps) (s : S) (K : AV → S → Bool) : b3 f (gX x) (gX y) (gX z) t s K = optB (ev t x) fun x => optB (ev t y) fun y => optB (ev t z) fun z => f x y z s K := by
  unfold b3; rw [oB_eq, gX_eq, forceR_fun]; congr 1; funext v; rw [oB_eq, gX_eq]; congr 1; funext u; rw [oB_eq, gX_eq]
/-- integers compared -/
def bCmp (o : Nat) (f : Int → Int → Bool) (c : Tm → Tm → Cond) (x : Bool) (g1 g2 : G) : BK2 := fun t s K => oB (g1 t) fun v => oB (g2 t) fun w => dInt v fun k1 a => dInt w fun k2 b => bB (kindEq k1 k2)
  (tLit a (fun m => tLit b (fun n => Bool.rec (K (.w (.s (.bool false))) s) (K (.w (.s (.bool true))) s) (f m n)) (brc s.phi (c a b) fun r φ => forceB (xorB x r) fun r => K (.w (.s (.bool r))) (setPhi s φ)))
    (brc s.phi (c a b) fun r φ => forceB (xorB x r) fun r => K (.w (.s (.bool r))) (setPhi s φ)))
theorem forceB_eq' {β : Type} (b : Bool) (k : Bool → β) : forceB b k = k b := by cases b <;> rfl
theorem bCmp_eq {o : Nat} {f : Int → Int → Bool} {c : Tm → Tm → Cond} {x : Bool} (hc : ∀ a b, condOf o a b = some (c a b, x)) (hf : ∀ m n φ (k : Bool → Phi → Bool), (brc φ (c (.lit m) (.lit n)) fun r φ => k (xorB x r) φ) = k (f m n) φ) (a b : AX) :
    BOk' (bCmp o f c x (gX a) (gX b)) (.cmp o .int a b) := by
  intro call t s kn kp
  show oB (gX a t) _ = optB (ev t a) fun x => optB (ev t b) fun y => cmpA o .int x y s fun b s => kn (vBool b) s
  rw [oB_eq, gX_eq]
  congr 1; funext v
  rw [oB_eq, gX_eq]
  congr 1; funext w
  have e2 : ∀ (v w : AV), cmpA o .int v w s (fun b s => kn (vBool b) s) = dInt v fun k1 a => dInt w fun k2 b => ifB (kindEq k1 k2) (optB (condOf o a b) fun p => brc s.phi p.1 fun r φ => kn (vBool (xorB p.2 r)) (setPhi s φ)) := by
    intro v w
    show optB (asS v) (fun xs => optB (asS w) fun ys => cmpS o .int xs ys s fun b s => kn (vBool b) s) = _
    unfold dInt
    rw [dS_eq]
    congr 1; funext xs
    cases xs <;> try (cases h : asS w <;> rfl)
    rename_i k1 a
    show _ = dS w _
    rw [dS_eq]
    congr 1; funext ys
    cases ys <;> rfl
  rw [e2]
  congr 1; funext k1 a
  congr 1; funext k2 b
  rw [bB_eq]
  congr 1
  rw [hc]
  have hslow : (brc s.phi (c a b) fun r φ => forceB (xorB x r) fun r => kn (.w (.s (.bool r))) (setPhi s φ)) = optB (some (c a b, x)) fun p => brc s.phi p.1 fun r φ => kn (vBool (xorB p.2 r)) (setPhi s φ) := by
    show _ = brc s.phi (c a b) fun r φ => kn (vBool (xorB x r)) (setPhi s φ)
    congr 1; funext r φ
    rw [forceB_eq']; rfl
  rw [tLit_eq]
  split
  · rename_i m
    rw [tLit_eq]
    split
    · rename_i n
      rw [optB_some]
      have := hf m n s.phi fun r φ => kn (vBool r) (setPhi s φ)
      rw [this]
      have es : setPhi s s.phi = s := by cases s; rfl
      rw [es]
      cases f m n <;> rfl
    · exact hslow
  · exact hslow
/-- all arguments -/
def evK (gs : List G) (t : Tmps) : (List AV → Bool) → Bool := List.rec (fun K => K []) (fun g _ ih K => oB (g t) fun v => ih fun l => K (v :: l)) gs
theorem evK_eq (t : Tmps) : ∀ (xs : List AX) (K : List AV → Bool), evK (lmap gX xs) t K = optB (evL t xs) K := by
  intro xs
  induction xs with
  | nil => intro K; rfl
  | cons x xs ih =>
    intro K
    show oB (gX x t) (fun v => evK (lmap gX xs) t fun l => K (v :: l)) = _
    rw [evL_cons, oB_eq, gX_eq, optB_optP]
    congr 1; funext v
    rw [ih, optB_optP]; rfl
def retR (w : W) (kx : KX) (t : Tmps) (k : Tmps → S → Bool) : KC := fun r s => Ret.rec (fun v => forceR v fun v => w v t fun t => k t s) (fun v => kx (.panic v) t s) r
theorem retR_eq (dst : Option Nat) (kx : KX) (t : Tmps) (k : Tmps → S → Bool) : retR (wD dst) kx t k = fun r s => callK r s (fun v s => putK dst v t fun t => k t s) (fun v s => kx (.panic v) t s) := by
  funext r s
  cases r with
  | val v =>
    show forceR v (fun v => wD dst v t fun t => k t s) = putK dst v t fun t => k t s
    rw [forceR_eq, wD_eq, putK_eq]
  | panic v => rfl
def oCall (w : W) (f : Nat) (gs : List G) : O2 := fun call kx t s k => evK gs t fun l => call f l s (retR w kx t k)
theorem oCall_eq (f : Nat) (xs : List AX) (dst : Option Nat) : oCall (wD dst) f (lmap gX xs) = regS ⟨dst, .b (.call f xs), none⟩ := by
  funext call kx t s k
  show evK (lmap gX xs) t _ = optB (evL t xs) fun l => call f l s fun r s => callK r s (fun v s => putK dst v t fun t => k t s) (fun v s => kx (.panic v) t s)
  rw [evK_eq]
  congr 1; funext l
  rw [retR_eq]
def oCallv (w : W) (g : G) (gs : List G) : O2 := fun call kx t s k => oB (g t) fun v => oB (asFnA v) fun p => evK gs t fun l => call p.1 (lapp l (lmap capV p.2)) s (retR w kx t k)
theorem oCallv_eq (x : AX) (xs : List AX) (dst : Option Nat) : oCallv (wD dst) (gX x) (lmap gX xs) = regS ⟨dst, .b (.callv x xs), none⟩ := by
  funext call kx t s k
  show oB (gX x t) _ = optB (ev t x) fun v => optB (asFnA v) fun p => optB (evL t xs) fun l => call p.1 (lapp l (lmap capV p.2)) s fun r s => callK r s (fun v s => putK dst v t fun t => k t s) (fun v s => kx (.panic v) t s)
  rw [oB_eq, gX_eq]
  congr 1; funext v
  rw [oB_eq]
  congr 1; funext p
  rw [evK_eq]
  congr 1; funext l
  rw [retR_eq]
/-- any operation, as it was -/
def oAny (dst : Option Nat) (op : AOp) : O2 := regS ⟨dst, op, none⟩

def nLe (m n : Int) : Bool := bnot (intLe m n)
def gLe (m n : Int) : Bool := intLe n m
def lLt (m n : Int) : Bool := bnot (intLe n m)
def nEq (m n : Int) : Bool := bnot (intEq m n)
def cGe (a b : Tm) : Cond := .le b a
def denC (o : Nat) (x y : AX) : BK2 := match o with
  | 0 => bCmp 0 intEq .eq false (gX x) (gX y)
  | 1 => bCmp 1 nEq .eq true (gX x) (gX y)
  | 2 => bCmp 2 lLt cGe true (gX x) (gX y)
  | 3 => bCmp 3 intLe .le false (gX x) (gX y)
  | 4 => bCmp 4 nLe .le true (gX x) (gX y)
  | 5 => bCmp 5 gLe cGe false (gX x) (gX y)
  | o => b2 (fun x y s K => cmpA o .int x y s fun b s => K (vBool b) s) (gX x) (gX y)
theorem denC_eq (o : Nat) (x y : AX) : BOk' (denC o x y) (.cmp o .int x y) := by
  unfold denC
  split
  · exact bCmp_eq (fun _ _ => rfl) (fun m n φ k => rfl) x y
  · exact bCmp_eq (fun _ _ => rfl) (fun m n φ k => rfl) x y
  · exact bCmp_eq (fun _ _ => rfl) (fun m n φ k => rfl) x y
  · exact bCmp_eq (fun _ _ => rfl) (fun m n φ k => rfl) x y
  · exact bCmp_eq (fun _ _ => rfl) (fun m n φ k => rfl) x y
  · exact bCmp_eq (fun _ _ => rfl) (fun m n φ k => rfl) x y
  · intro call t s kn kp; exact b2_eq ..
def denB (dst : Option Nat) (o : BOp) : O2 := match o with
  | .call f args => oCall (wD dst) f (lmap gX args)
  | .callv x args => oCallv (wD dst) (gX x) (lmap gX args)
  | .panic x => oAny dst (.b (.panic x))
  | .store n a v => oK (wD dst) (bSt n (gX a) (gX v))
  | .mupd kt m key v => oK (wD dst) (b3 (bMupd kt) (gX m) (gX key) (gX v))
  | .del kt m key => oK (wD dst) (b2 (bDel kt) (gX m) (gX key))
  | .append e z b x y => oK (wD dst) (b2 (bAppend e z b) (gX x) (gX y))
  | .appendz e z b zero x n => oK (wD dst) (b2 (bAppendz e z b zero) (gX x) (gX n))
  | .copy z d x => oK (wD dst) (b2 (bCopy z) (gX d) (gX x))
  | .cmp o g x y => (match g with
    | .int => oK (wD dst) (denC o x y)
    | g => oK (wD dst) (b2 (fun x y s K => cmpA o g x y s fun b s => K (vBool b) s) (gX x) (gX y)))
  | .mm mx x y => oK (wD dst) (b2 (mmA mx) (gX x) (gX y))
  | .range x => oK (wD dst) (b1 bRange (gX x))
  | .next x => oK (wD dst) (b1 bNext (gX x))
  | .entry x => oK (wD dst) (b1 bEntry (gX x))
theorem denB_eq (o : BOp) (dst : Option Nat) : denB dst o = regS ⟨dst, .b o, none⟩ := by
  cases o with
  | call f args => exact oCall_eq f args dst
  | callv x args => exact oCallv_eq x args dst
  | panic x => rfl
  | store n a v => exact oK_eq (bSt_eq n a v) dst
  | mupd kt m key v => exact oK_eq (fun call t s kn kp => b3_eq ..) dst
  | del kt m key => exact oK_eq (fun call t s kn kp => b2_eq ..) dst
  | append e z b x y => exact oK_eq (fun call t s kn kp => b2_eq ..) dst
  | appendz e z b zero x n => exact oK_eq (fun call t s kn kp => b2_eq ..) dst
  | copy z d x => exact oK_eq (fun call t s kn kp => b2_eq ..) dst
  | cmp o g x y =>
    unfold denB
    cases g with
    | int => exact oK_eq (denC_eq o x y) dst
    | _ => exact oK_eq (fun call t s kn kp => b2_eq ..) dst
  | mm mx x y => exact oK_eq (fun call t s kn kp => b2_eq ..) dst
  | range x => exact oK_eq (fun call t s kn kp => b1_eq ..) dst
  | next x => exact oK_eq (fun call t s kn kp => b1_eq ..) dst
  | entry x => exact oK_eq (fun call t s kn kp => b1_eq ..) dst
def denA (dst : Option Nat) (o : AOp) : O2 := match o with
  | .p o => oP (wD dst) (denP o)
  | .r o => oR (wD dst) (denR o)
  | .m o => denM (wD dst) o
  | .b o => denB dst o
theorem denA_eq (o : AOp) (dst : Option Nat) : denA dst o = regS ⟨dst, o, none⟩ := by
  cases o with
  | p o => exact oP_eq (denP_eq o) dst
  | r o => exact oR_eq (denR_eq o) dst
  | m o => exact denM_eq o dst
  | b o => exact denB_eq o dst
/-- an operation that is wanted just if a slot says so -/
def dGd (v : AV) (want kt kf : Bool) : Bool := AV.rec (fun x => AW.rec (fun y => sBool y fun b => Bool.rec kf kt (boolEq b want)) (fun _ => false) x) (fun _ => false) (fun _ => false) kf v
theorem dGd_eq (v : AV) (want kt kf : Bool) : dGd v want kt kf = optB (guardA v want) fun b => match b with | true => kt | false => kf := by
  cases v with
  | w x => (cases x with
    | s y => (cases y with
      | bool b => cases b <;> cases want <;> rfl
      | _ => rfl)
    | agg l => rfl)
  | _ => rfl
def oGd (g : G) (want : Bool) (w : W) (o : O2) : O2 := fun call kx t s k => oB (g t) fun v => dGd v want (o call kx t s k) (w .undef t fun t => k t s)
def denO (o : AOper) : O2 := match o with
  | .mk dst op g => (match g with
    | none => denA dst op
    | some p => oGd (gS p.1) p.2 (wD dst) (denA dst op))
theorem denO_eq (o : AOper) : denO o = regS o := by
  obtain ⟨dst, op, g⟩ := o
  cases g with
  | none => exact denA_eq op dst
  | some p =>
    funext call kx t s k
    show oB (gS p.1 t) (fun v => dGd v p.2 (denA dst op call kx t s k) (wD dst .undef t fun t => k t s)) = optB (t.get (Nat.succ p.1)) fun v => optB (guardA v p.2) fun b => match b with
      | false => putK dst .undef t fun t => k t s
      | true => stepOp call op t s (fun v s => putK dst v t fun t => k t s) (fun v s => kx (.panic v) t s)
    have e : gS p.1 t = t.get (Nat.succ p.1) := gX_eq (.t p.1) t
    rw [oB_eq, e]
    congr 1; funext v
    rw [dGd_eq]
    congr 1; funext b
    rw [denA_eq]
    cases b with
    | false => show wD dst .undef t _ = putK dst .undef t _; rw [wD_eq, putK_eq]
    | true => rfl

/-! code -/
inductive C2 where
  | skip
  | reg (l : List O2)
  | draw (l : List DIt)
  | seq (a b : C2)
  | cond (g : G) (a b : C2)
  | block (id : Nat) (b : C2)
  | loop (b : C2)
  | exit (id : Nat)
  | ret
def reg2 (call : CallF) (k : KX) (l : List O2) : Tmps → S → Bool := List.rec (fun t s => k .normal t s) (fun o _ ih t s => o call k t s ih) l
def thenK2 (f : Tmps → S → Bool) (k : KX) : KX := fun ex t s => Ex.rec (f t s) (fun i => k (.exit i) t s) (k .ret t s) (fun v => k (.panic v) t s) ex
def blockK2 (id : Nat) (k : KX) : KX := fun ex t s => Ex.rec (k .normal t s) (fun i => Bool.rec (k (.exit i) t s) (k .normal t s) (Nat.beq i id)) (k .ret t s) (fun v => k (.panic v) t s) ex
def cond2 (g : G) (f h : KB) : KB := fun t s k => oB (g t) fun v => dBool v fun b => Bool.rec (h t s k) (f t s k) b
def loop2 (f : KB) (k : KX) (n : Nat) : Tmps → S → Bool := Nat.rec (fun _ _ => false) (fun _ ih t s => f t s (thenK2 ih k)) n
def exec2 (call : CallF) (c : C2) : KB :=
  C2.rec (fun t s k => k .normal t s) (fun l t s k => reg2 call k l t s) (fun l t s k => drawE call l t s k) (fun _ _ f g t s k => f t s (thenK2 (fun t s => g t s k) k))
    (fun x _ _ f g => cond2 x f g) (fun id _ f t s k => f t s (blockK2 id k)) (fun _ f t s k => loop2 f k 1048576 t s) (fun id t s k => k (.exit id) t s) (fun t s k => k .ret t s) c
def den : AC → C2
  | .skip => .skip
  | .reg l => .reg (lmap denO l)
  | .draw l => .draw l
  | .seq a b => .seq (den a) (den b)
  | .cond x a b => .cond (gX x) (den a) (den b)
  | .block id b => .block id (den b)
  | .loop b => .loop (den b)
  | .exit id => .exit id
  | .ret => .ret
theorem thenK2_eq (f : Tmps → S → Bool) (k : KX) : thenK2 f k = thenK f k := by funext ex t s; cases ex <;> rfl
theorem blockK2_eq (id : Nat) (k : KX) : blockK2 id k = blockK id k := by
  funext ex t s
  cases ex with
  | exit i =>
    show Bool.rec (k (.exit i) t s) (k .normal t s) (Nat.beq i id) = match Nat.beq i id with | true => k .normal t s | false => k (.exit i) t s
    cases Nat.beq i id <;> rfl
  | _ => rfl
theorem reg2_eq (call : CallF) (k : KX) : ∀ l : List AOper, reg2 call k (lmap denO l) = regE call k l := by
  intro l
  induction l with
  | nil => rfl
  | cons o l ih =>
    funext t s
    show denO o call k t s (reg2 call k (lmap denO l)) = _
    rw [ih, denO_eq, regE_cons]; rfl
theorem loop2_eq {f g : KB} (h : f = g) (k : KX) : ∀ n, loop2 f k n = loopE g k n := by
  subst h
  intro n
  induction n with
  | zero => rfl
  | succ n ih =>
    funext t s
    show f t s (thenK2 (loop2 f k n) k) = _
    rw [ih, thenK2_eq]; rfl
theorem exec2_den (call : CallF) : ∀ c : AC, exec2 call (den c) = exec call c := by
  intro c
  induction c with
  | skip => rfl
  | reg l => funext t s k; show reg2 call k (lmap denO l) t s = _; rw [reg2_eq]; rfl
  | draw l => rfl
  | seq a b iha ihb =>
    funext t s k
    show exec2 call (den a) t s (thenK2 (fun t s => exec2 call (den b) t s k) k) = _
    rw [iha, ihb, thenK2_eq]; rfl
  | cond x a b iha ihb =>
    funext t s k
    show oB (gX x t) (fun v => dBool v fun c => Bool.rec (exec2 call (den b) t s k) (exec2 call (den a) t s k) c) = optB (ev t x) fun v => optB (asBoolA v) fun c => match c with | true => exec call a t s k | false => exec call b t s k
    rw [oB_eq, gX_eq]
    congr 1; funext v
    rw [dBool_eq]
    congr 1; funext c
    rw [iha, ihb]
    cases c <;> rfl
  | block id b ih =>
    funext t s k
    show exec2 call (den b) t s (blockK2 id k) = _
    rw [ih, blockK2_eq]; rfl
  | loop b ih =>
    funext t s k
    show loop2 (exec2 call (den b)) k 1048576 t s = _
    rw [loop2_eq ih]; rfl
  | exit id => rfl
  | ret => rfl

/-! functions -/
inductive R2 where
  | tmp (g : G)
  | cell (f : RK)
structure AFunc2 where
  n : Nat
  res : List R2
  body : C2
def denRes (r : ResA) : R2 := match r with | .tmp n => .tmp (gS n) | .cell n z => .cell (rLoad z (gS n))
def denF (fn : AFunc) : AFunc2 := match fn with | .mk n res body => .mk n (lmap denRes res) (den body)
def resLK (t : Tmps) (s : S) (rs : List R2) : (List AV → Bool) → Bool := List.rec (fun K => K []) (fun r _ ih K => R2.rec (fun g => oB (g t) fun v => ih fun l => K (v :: l)) (fun f => f t s fun v => ih fun l => K (v :: l)) r) rs
theorem resLK_eq (t : Tmps) (s : S) : ∀ (rs : List ResA) (K : List AV → Bool), resLK t s (lmap denRes rs) K = optB (resL rs t s) K := by
  intro rs
  induction rs with
  | nil => intro K; rfl
  | cons r rs ih =>
    intro K
    rw [resL_cons]
    cases r with
    | tmp n =>
      show oB (gS n t) (fun v => resLK t s (lmap denRes rs) fun l => K (v :: l)) = _
      have e : gS n t = t.get (Nat.succ n) := gX_eq (.t n) t
      rw [oB_eq, e, optB_optP]
      congr 1; funext v
      rw [ih, optB_optP]; rfl
    | cell n z =>
      show rLoad z (gS n) t s (fun v => resLK t s (lmap denRes rs) fun l => K (v :: l)) = _
      have e := rLoad_eq z (.t n) t s fun v => resLK t s (lmap denRes rs) fun l => K (v :: l)
      have e' : rLoad z (gS n) t s (fun v => resLK t s (lmap denRes rs) fun l => K (v :: l)) = optB (readOp t s (.load z (.t n))) fun v => resLK t s (lmap denRes rs) fun l => K (v :: l) := e
      rw [e', optB_optP]
      congr 1; funext v
      rw [ih, optB_optP]; rfl
/-- the only one, or all -/
def oneK (l : List AV) (K : AV → Bool) : Bool := List.rec (K (.tup [])) (fun v r _ => List.rec (K v) (fun _ _ _ => optB (mkRes l) K) r) l
theorem oneK_eq (l : List AV) (K : AV → Bool) : oneK l K = optB (mkRes l) K := by
  cases l with
  | nil => rfl
  | cons v r => cases r <;> rfl
def resK2 (res : List R2) (t : Tmps) (s : S) (k : KC) : Bool := resLK t s res fun l => oneK l fun v => k (.val v) s
def retK2 (res : List R2) (k : KC) : KX := fun ex t s => Ex.rec (resK2 res t s k) (fun _ => false) (resK2 res t s k) (fun v => k (.panic v) s) ex
theorem resK2_eq (res : List ResA) (t : Tmps) (s : S) (k : KC) : resK2 (lmap denRes res) t s k = resK res t s k := by
  unfold resK2 resK
  rw [resLK_eq]
  congr 1; funext l
  rw [oneK_eq]
theorem retK2_eq (res : List ResA) (k : KC) : retK2 (lmap denRes res) k = retK res k := by
  funext ex t s
  cases ex with
  | normal => exact resK2_eq ..
  | ret => exact resK2_eq ..
  | exit i => rfl
  | panic v => rfl
def wUp (i n : Nat) : List W := Nat.rec (fun _ => []) (fun _ ih i => wS i :: ih (Nat.succ i)) n i
theorem wUp_succ (i n : Nat) : wUp i (n + 1) = wS i :: wUp (i + 1) n := rfl
/-- slots from the first on -/
def wAll : List W := [wV, wL wV, wR wV, wL (wL wV), wR (wL wV), wL (wR wV), wR (wR wV), wL (wL (wL wV)), wR (wL (wL wV)), wL (wR (wL wV)), wR (wR (wL wV)), wL (wL (wR wV)), wR (wL (wR wV)), wL (wR (wR wV)), wR (wR (wR wV))]
theorem wAll_eq : wAll = wUp 0 15 := by kernel_rfl
def args2 (args : List AV) : List W → Nat → Tmps → (Tmps → Bool) → Bool := List.rec (fun _ _ t k => k t) (fun v l ih ws i t k => List.rec (argsK (v :: l) i t k) (fun w ws _ => w v t fun t => ih ws (Nat.succ i) t k) ws) args
theorem args2_eq : ∀ (args : List AV) (n i : Nat) (t : Tmps) (k : Tmps → Bool), args2 args (wUp i n) i t k = argsK args i t k := by
  intro args
  induction args with
  | nil => intro n i t k; rfl
  | cons v l ih =>
    intro n i t k
    cases n with
    | zero => rfl
    | succ n =>
      rw [wUp_succ]
      show wS i v t (fun t => args2 l (wUp (i + 1) n) (i + 1) t k) = _
      have e := wD_eq (some i) v t fun t => args2 l (wUp (i + 1) n) (i + 1) t k
      have e' : wS i v t (fun t => args2 l (wUp (i + 1) n) (i + 1) t k) = (args2 l (wUp (i + 1) n) (i + 1) (putA (some i) v t) k) := e
      rw [e', ih, argsK_cons]; rfl
def runF2 (call : CallF) (fn : AFunc2) (args : List AV) (s : S) (k : KC) : Bool := match fn with
  | .mk n res body => bB (Nat.ble (llen args) n) (args2 args wAll 0 .leaf fun t => exec2 call body t s (retK2 res k))
theorem runF2_eq (call : CallF) (fn : AFunc) : runF2 call (denF fn) = runF call fn := by
  funext args s k
  obtain ⟨n, res, body⟩ := fn
  show bB (Nat.ble (llen args) n) (args2 args wAll 0 .leaf fun t => exec2 call (den body) t s (retK2 (lmap denRes res) k)) = ifB (Nat.ble (llen args) n) (argsK args 0 .leaf fun t => exec call body t s (retK res k))
  rw [bB_eq, wAll_eq, args2_eq, retK2_eq, exec2_den]
def callA2 (F : Tree AFunc2) (X : Tree CallY) (n : Nat) : CallF :=
  Nat.rec (fun f args s k => oB (X.get (Nat.succ f)) fun g => g noCall args s k)
    (fun _ ih f args s k => Option.rec (oB (F.get (Nat.succ f)) fun fn => runF2 ih fn args s k) (fun g => g ih args s k) (X.get (Nat.succ f))) n
def F2Ok (P : Program) (T : TyT) (F : Tree AFunc2) : Prop := ∀ f fn2, F.get (Nat.succ f) = some fn2 → ∃ fn, fn2 = denF fn ∧ ∃ func code hint, FnOk P T f fn func code hint
theorem callA2_ok {P : Program} {T : TyT} (hT : TOk P T) (hm : P.follows .mixedOrders = true) {F : Tree AFunc2} {X : Tree CallY} (hF : F2Ok P T F) (hX : XOk P X) : ∀ n, CallOk P (callA2 F X n) := by
  intro n
  induction n with
  | zero =>
    intro f args s k hk c w h hw
    have hk : oB (X.get (Nat.succ f)) (fun g => g noCall args s k) = true := hk
    rw [oB_eq] at hk
    obtain ⟨g, hg, hk1⟩ := optB_true hk
    exact hX f g hg noCall (fun f args s k h => by cases h) args s k hk1 c w h hw
  | succ n ih =>
    intro f args s k hk c w h hw
    have hk : Option.rec (oB (F.get (Nat.succ f)) fun fn => runF2 (callA2 F X n) fn args s k) (fun g => g (callA2 F X n) args s k) (X.get (Nat.succ f)) = true := hk
    cases hg : X.get (Nat.succ f) with
    | some g =>
      rw [hg] at hk
      exact hX f g hg _ ih args s k hk c w h hw
    | none =>
      rw [hg] at hk
      have hk : oB (F.get (Nat.succ f)) (fun fn => runF2 (callA2 F X n) fn args s k) = true := hk
      rw [oB_eq] at hk
      obtain ⟨fn2, hfn, hk1⟩ := optB_true hk
      obtain ⟨fn, rfl, func, code, hint, hf⟩ := hF f fn2 hfn
      rw [runF2_eq] at hk1
      exact .inl ⟨hf.call _ w, runF_sound hT ih hm hf hk1 h hw⟩
/-- a printed function -/
theorem f2_mk {P : Program} {T : TyT} {f : Nat} {fn2 : AFunc2} {func : Func} {code : Code} {hint : Nat → List (Nat × Nat)} {n : Nat} {res : List ResA} (h1 : P.funcs[f]? = some func) (h2 : ∀ args w, (callFunc f args).run P w = .ok (.enter f args) w)
    (h3 : func.body = some code) (h4 : func.ntmps = n) (h5 : (compC T n hint code).isSome = true) (h6 : compRes T func.results.toList = some res) (h7 : fn2 = .mk n (lmap denRes res) (den ((compC T n hint code).getD .skip))) :
    ∃ fn, fn2 = denF fn ∧ ∃ func code hint, FnOk P T f fn func code hint := by
  refine ⟨⟨n, res, (compC T n hint code).getD .skip⟩, h7, func, code, hint, ⟨h1, h2, h3, h4, ?_, h6⟩⟩
  cases hc : compC T n hint code with
  | none => rw [hc] at h5; cases h5
  | some c => rfl

/-! summaries over fast functions -/
theorem viaF2 {fn : AFunc} {fn2 : AFunc2} (h : fn2 = denF fn) (call : CallF) : runF2 call fn2 = runF call fn := by subst h; exact runF2_eq call fn
def xEnum2F (m : Nat) (fn : AFunc2) : CallY := fun call args s k => match args with
  | [b, a] => (match asIntA a with
    | none => runF2 call fn [b, a] s k
    | some p => (match s with
      | .mk h nx φ => (match rangeR m φ p.2 with
        | none => runF2 call fn [b, a] ⟨h, nx, φ⟩ k
        | some q => lall (fun j => runF2 call fn [b, .w (.s (.int p.1 (.lit j)))] ⟨h, nx, assume φ true (.eq p.2 (.lit j))⟩ k) (upFrom (Nat.succ (Nat.sub q.2 q.1)) q.1))))
  | _ => false
theorem xEnum2F_ok (m : Nat) {P : Program} {T : TyT} (hT : TOk P T) (hm : P.follows .mixedOrders = true) {f : Nat} {fn2 : AFunc2} (hf : ∃ fn, fn2 = denF fn ∧ ∃ func code hint, FnOk P T f fn func code hint) (call : CallF) (hcall : CallOk P call) : XOk1 P f (xEnum2F m fn2 call) := by
  obtain ⟨fn, h2, hf⟩ := hf
  have e : xEnum2F m fn2 call = xEnum2 m fn call := by
    unfold xEnum2F xEnum2
    rw [viaF2 h2]
    rfl
  rw [e]
  exact xEnum2_ok m hT hm hf call hcall
/-- a function that defers, its body fast -/
def runD2 (call : CallF) (x : ADef) (body2 : C2) (args : List AV) (s : S) (k : KC) : Bool := match x with
  | .mk n res pre d0 f caps body cn rd crest cbody => ifB (Nat.ble (llen args) n) (argsK args 0 .leaf fun t => exec call pre t s fun ex t s => match ex with
    | .normal => optB (evL t caps) fun l => optB (capsA l) fun ps => putK (some d0) (.w (.s (.fn f ps))) t fun t => exec2 call body2 t s (leaveK call (.mk n res pre d0 f caps body cn rd crest cbody) ps res k)
    | .exit _ => false
    | .ret => false
    | .panic _ => false)
theorem runD2_eq (call : CallF) (x : ADef) {body2 : C2} (h : body2 = den x.body) : runD2 call x body2 = runD call x := by
  subst h
  funext args s k
  obtain ⟨n, res, pre, d0, f, caps, body, cn, rd, crest, cbody⟩ := x
  unfold runD2 runD
  simp only [exec2_den]
  rfl
theorem x2_ok {P : Program} {f : Nat} {g g' : CallX} (h : g' = g) (hg : XOk1 P f g) : XOk1 P f g' := by subst h; exact hg
theorem f2Ok_of {P : Program} {T : TyT} {F : Tree AFunc2} (h : F.AllP fun m fn2 => ∃ fn, fn2 = denF fn ∧ ∃ func code hint, FnOk P T (m - 1) fn func code hint) : F2Ok P T F := by
  intro f fn2 hf
  have := h.get (by omega) hf
  exact this
end
end Go.Sy

/-! The symbolic executor, part Zm: what a function answers to a slice of known bytes, found once. -/
namespace Go.Sy
set_option linter.unusedVariables false
set_option linter.unusedSectionVars false
noncomputable section

def isIntA (x : AS) : Bool := match x with | .int _ _ => true | _ => false
def intsO (o : AObj) : Bool := match o with
  | .cells l _ => lall isIntA l
  | .row l _ _ => lall isIntA l
  | _ => false
def isLitA (x : AS) : Bool := match x with | .int _ (.lit _) => true | _ => false
def litsV (v : AV) : Bool := match v with | .w (.agg l) => lall isLitA l | _ => false
def oSame (x y : AObj) : Bool := match x with
  | .cells l e => (match y with | .cells m d => and2 (Nat.beq e d) (eqLs sEq l m) | _ => false)
  | .row l e z => (match y with | .row m d u => and2 (Nat.beq e d) (and2 (Nat.beq z u) (eqLs sEq l m)) | _ => false)
  | _ => false
theorem oSame_spec {x y : AObj} (h : oSame x y = true) : x = y := by
  cases x <;> cases y <;> simp only [oSame, Bool.false_eq_true] at h
  · obtain ⟨h1, h2⟩ := and2_iff.1 h
    rw [(natBeq_iff _ _).1 h1, eqLs_spec sEq_spec h2]
  · obtain ⟨h1, h2⟩ := and2_iff.1 h
    obtain ⟨h2, h3⟩ := and2_iff.1 h2
    rw [(natBeq_iff _ _).1 h1, (natBeq_iff _ _).1 h2, eqLs_spec sEq_spec h3]
theorem ints_conc {l : List AS} (h : lall isIntA l = true) {c c' : Cx} (hs : c'.σ = c.σ) : l.map (AS.conc c') = l.map (AS.conc c) := by
  refine List.map_congr_left fun x hx => ?_
  have := (lall_iff _ _).1 h x hx
  cases x <;> simp [isIntA] at this
  rename_i k t
  show Value.int k (t.eval c'.σ) = Value.int k (t.eval c.σ)
  rw [hs]
theorem ints_wf {l : List AS} (h : lall isIntA l = true) (c : Cx) (nx : Nat) : ∀ x ∈ l, x.wf c nx := by
  intro x hx
  have := (lall_iff _ _).1 h x hx
  cases x <;> simp [isIntA] at this
  trivial
theorem objRel_ints {c c' : Cx} {id id' : Nat} {o : AObj} {ob : Option Obj} (hi : intsO o = true) (hs : c'.σ = c.σ) (hk : c'.κ id' = c.κ id) (h : ObjRel c id o ob) : ObjRel c' id' o ob := by
  cases o with
  | cells l e => simp only [ObjRel] at h ⊢; rw [ints_conc hi hs]; exact h
  | row l e z =>
    obtain ⟨cur, h1, h2, h3, h4⟩ := h
    exact ⟨cur, h1, by rw [hk]; exact h2, by rw [hk]; exact h3, by rw [ints_conc hi hs]; exact h4⟩
  | map es cl => cases hi
  | iter m a l b => cases hi

structure M1 where
  off : Nat
  len : Nat
  cap : ACap
  o : AObj
  r : AV
def hitM (off len : Nat) (cap : ACap) (o : AObj) (m : M1) : Bool := and2 (and2 (Nat.beq m.off off) (Nat.beq m.len len)) (and2 (capSame m.cap cap) (oSame m.o o))
def findM (off len : Nat) (cap : ACap) (o : AObj) (l : List M1) : Option M1 := List.rec none (fun m _ ih => match hitM off len cap o m with | true => some m | false => ih) l
theorem findM_spec {off len : Nat} {cap : ACap} {o : AObj} : ∀ {l : List M1} {m : M1}, findM off len cap o l = some m → m ∈ l ∧ hitM off len cap o m = true := by
  intro l
  induction l with
  | nil => intro m h; cases h
  | cons x l ih =>
    intro m h
    have h : (match hitM off len cap o x with | true => some x | false => findM off len cap o l) = some m := h
    split at h
    · rename_i hx; injection h with h; subst h; exact ⟨List.mem_cons_self .., hx⟩
    · exact ⟨List.mem_cons_of_mem _ (ih h).1, (ih h).2⟩
def st1 (o : AObj) : S := ⟨Tree.leaf.set (some o) 1, 1, phi0 allF⟩
theorem st1_at {o o' : AObj} {id : Nat} (h : (st1 o).at id = some o') : id = 0 ∧ o' = o := by
  have h : (Tree.leaf.set (some o) 1).get (Nat.succ id) = some o' := h
  rw [Tree.get_set _ _ _ _ (by omega) (by omega)] at h
  split at h
  · rename_i e
    injection h with h
    exact ⟨by omega, h.symm⟩
  · cases h
theorem st1_zero (o : AObj) : (st1 o).at 0 = some o := by
  show (Tree.leaf.set (some o) 1).get 1 = some o
  rw [Tree.get_set _ _ _ _ (by omega) (by omega), if_pos rfl]
def kIs1 (m : M1) : KC := fun q s => match q with
  | .val v => and2 (vEq v m.r) (match s.get 0 with | some o => oSame o m.o | none => false)
  | .panic _ => false
/-- a table of answers; what stands not there is run -/
def mem1 (tab : List M1) (fn : AFunc2) : CallY := fun call args s k => match args with
  | [v] => optB (asS v) fun x => match x with
    | .slice id off len cap => optB (s.get id) fun o => (match findM off len cap o tab with
      | some m => k (.val m.r) s
      | none => runF2 call fn [v] s k)
    | _ => runF2 call fn [v] s k
  | _ => false
def okM (m : M1) : Bool := and2 (intsO m.o) (litsV m.r)
def argM (m : M1) : AV := .w (.s (.slice 0 m.off m.len m.cap))
theorem lits_conc {v : AV} (h : litsV v = true) (c c' : Cx) : v.conc c' = v.conc c := by
  unfold litsV at h
  split at h <;> try (simp at h; done)
  rename_i l
  show Value.agg (l.map (AS.conc c')).toArray = Value.agg (l.map (AS.conc c)).toArray
  congr 2
  refine List.map_congr_left fun x hx => ?_
  have := (lall_iff _ _).1 h x hx
  unfold isLitA at this
  split at this <;> try (simp at this; done)
  rfl
theorem lits_wf {v : AV} (h : litsV v = true) (c : Cx) (nx : Nat) : v.wf c nx := by
  unfold litsV at h
  split at h <;> try (simp at h; done)
  rename_i l
  intro x hx
  have := (lall_iff _ _).1 h x hx
  unfold isLitA at this
  split at this <;> try (simp at this; done)
  trivial
theorem mem1_ok {P : Program} {T : TyT} (hT : TOk P T) (hm : P.follows .mixedOrders = true) {f : Nat} {fn2 : AFunc2} (hf : ∃ fn, fn2 = denF fn ∧ ∃ func code hint, FnOk P T f fn func code hint)
    {call0 : CallF} (h0 : CallOk P call0) {tab : List M1} (htab : ∀ m ∈ tab, call0 f [argM m] (st1 m.o) (kIs1 m) = true ∧ okM m = true) (call : CallF) (hcall : CallOk P call) : XOk1 P f (mem1 tab fn2 call) := by
  obtain ⟨fn, h2, func, code, hint, hf⟩ := hf
  have slow : ∀ args s k, runF2 call fn2 args s k = true → ∀ (c : Cx) (w : World), Rel c s w → (∀ v ∈ args, v.wf c s.nx) → CallRuns P f (args.map (AV.conc c)).toArray w (CPost c s w k) := by
    intro args s k hk c w h hw
    rw [viaF2 h2] at hk
    exact .inl ⟨hf.call _ w, runF_sound hT hcall hm hf hk h hw⟩
  intro args s k hk c w h hw
  unfold mem1 at hk
  split at hk <;> try (simp at hk; done)
  rename_i v
  obtain ⟨x, hx, hk1⟩ := optB_true hk
  split at hk1
  rotate_left
  · exact slow _ _ _ hk1 c w h hw
  rename_i id off len cap
  obtain ⟨o, ho, hk2⟩ := optB_true hk1
  split at hk2
  rotate_left
  · exact slow _ _ _ hk2 c w h hw
  rename_i m hfind
  obtain ⟨hmem, hhit⟩ := findM_spec hfind
  obtain ⟨q1, q2⟩ := and2_iff.1 hhit
  obtain ⟨q1, q3⟩ := and2_iff.1 q1
  obtain ⟨q2, q4⟩ := and2_iff.1 q2
  have q1 := (natBeq_iff _ _).1 q1
  have q3 := (natBeq_iff _ _).1 q3
  have q2 := capSame_spec q2
  have q4 := oSame_spec q4
  obtain ⟨hrun, hok⟩ := htab m hmem
  obtain ⟨hints, hlits⟩ := and2_iff.1 hok
  have hat : s.at id = some o := by cases s; exact ho
  rw [q4] at hints hrun
  have ev := asS_spec hx
  subst ev
  have hwv : (AS.slice id off len cap).wf c s.nx := hw _ (List.mem_cons_self ..)
  simp only [AS.wf] at hwv
  have hrel : Rel ⟨fun _ => c.ι id, fun _ => c.κ id, c.σ⟩ (st1 o) w := by
    refine ⟨phi0_sat (allF_at _ c.σ.f_lt), ?_, ?_, ?_, ?_⟩
    · intro j oj hj; have := st1_at hj; rw [this.1]; show 0 < 1; omega
    · intro j oj hj
      have := st1_at hj
      rw [this.2]
      cases o with
      | cells l e => exact ints_wf hints _ _
      | row l e z => exact ints_wf hints _ _
      | map es cl => cases hints
      | iter a b l d => cases hints
    · intro j oj hj
      have := st1_at hj
      rw [this.1, this.2]
      show ObjRel ⟨fun _ => c.ι id, fun _ => c.κ id, c.σ⟩ 0 o (w.heap[c.ι id]?)
      exact objRel_ints (c := c) (id := id) hints rfl rfl (h.obj id o hat)
    · intro j j' oj oj' hj hj' _
      rw [(st1_at hj).1, (st1_at hj').1]
  have hargs : ([argM m].map (AV.conc ⟨fun _ => c.ι id, fun _ => c.κ id, c.σ⟩)).toArray = ([AV.w (.s (.slice id off len cap))].map (AV.conc c)).toArray := by
    simp only [argM, List.map_cons, List.map_nil, AV.conc, AW.conc, AS.conc, q1, q2, q3]
    cases cap <;> rfl
  have key : ∀ e w', CPost ⟨fun _ => c.ι id, fun _ => c.κ id, c.σ⟩ (st1 o) w (kIs1 m) e w' → CPost c s w k e w' := by
    intro e w' he
    cases e with
    | returned u =>
      obtain ⟨c', v', s', e1, e2, e3, e4, e5⟩ := he
      obtain ⟨e5, e6⟩ := and2_iff.1 (show and2 (vEq v' m.r) (match s'.get 0 with | some o => oSame o m.o | none => false) = true from e5)
      have hv : v' = m.r := vEq_spec _ _ e5
      subst hv
      have ho' : s'.at 0 = some o := by
        cases hg : s'.get 0 with
        | none => rw [hg] at e6; cases e6
        | some o'' =>
          rw [hg] at e6
          have := oSame_spec e6
          rw [this, q4] at hg
          cases s'; exact hg
      have hσ : c'.σ = c.σ := e3.ext.σ
      have hι : c'.ι 0 = c.ι id := e3.ext.ι 0 (show 0 < 1 by omega)
      have hκ : c'.κ 0 = c.κ id := e3.ext.κ 0 (show 0 < 1 by omega)
      have hfr : ∀ b, b < w.heap.size → b ≠ c.ι id → w'.heap[b]? = w.heap[b]? := fun b hb hne => e3.frame b hb fun j oj hj => by
        show c.ι id ≠ b
        exact fun e => hne e.symm
      refine ⟨c, m.r, s, by rw [e1]; exact lits_conc hlits c c', lits_wf hlits _ _, ?_, ?_, hk2⟩
      · exact ⟨.refl _ _, Nat.le_refl _, e3.os, e3.tape, e3.output, e3.size, fun b hb hnot => hfr b hb fun e => hnot id o hat e.symm, fun j oj hj => .inr ⟨j, oj, hj, rfl⟩⟩
      · refine ⟨h.sat, h.lt, h.wf, ?_, h.inj⟩
        intro j oj hj
        by_cases ej : j = id
        · subst ej
          rw [hat] at hj
          injection hj with hj
          subst hj
          have := e4.obj 0 o ho'
          rw [hι] at this
          exact objRel_ints hints hσ.symm hκ.symm this
        · have hne : c.ι j ≠ c.ι id := fun e => ej (h.inj j id oj o hj hat e)
          rw [hfr _ (h.ι_lt hj) hne]
          exact h.obj j oj hj
    | panicked ch =>
      obtain ⟨c', v', s', e1, e2, e3, e4, e5⟩ := he
      cases e5
    | outgrown => exact he.elim
  have hcr := h0 f [argM m] (st1 o) (kIs1 m) hrun _ w hrel (by
    intro u hu
    rcases List.mem_cons.1 hu with rfl | hu
    · refine ⟨show 0 < 1 by omega, ?_⟩
      rw [q2, q3]
      cases cap with
      | ex n => exact hwv.2
      | op d => exact hwv.2
    · cases hu)
  rw [hargs] at hcr
  rcases hcr with ⟨g1, g2⟩ | ⟨v, w', g1, g2⟩
  · exact .inl ⟨g1, Calls.mono g2 fun e w' h => key e w' h⟩
  · exact .inr ⟨v, w', g1, key (.returned v) w' g2⟩
end
end Go.Sy

