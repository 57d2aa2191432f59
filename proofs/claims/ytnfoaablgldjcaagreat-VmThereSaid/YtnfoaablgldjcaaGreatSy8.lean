/- The symbolic executor: parts Zd. Sound by one theorem (callA_ok). No condition. -/
import Derived.Test.YtnfoaablgldjcaaGreatSy7
import Derived.ProofKit
import Derived.OpenShut
import Derived.Lib.SmallJoins
set_option linter.unusedVariables false
set_option linter.unusedSimpArgs false
set_option linter.unusedSectionVars false
/-! The symbolic executor, part Zd: the input of a law, opened. -/
namespace Go.Sy
open Go.ChangeShapes Go.WideShapes Go.ChangeAt Go.RowKit Go.Joins
set_option linter.unusedVariables false

theorem array11 {α : Type} {cs : Array α} (h : cs.size = 11) : ∃ c0 c1 c2 c3 c4 c5 c6 c7 c8 c9 c10, cs = #[c0, c1, c2, c3, c4, c5, c6, c7, c8, c9, c10] := by
  obtain ⟨l⟩ := cs
  match l, h with
  | [c0, c1, c2, c3, c4, c5, c6, c7, c8, c9, c10], _ => exact ⟨c0, c1, c2, c3, c4, c5, c6, c7, c8, c9, c10, rfl⟩
theorem list5 {α : Type} {cs : List α} (h : cs.length = 5) : ∃ c0 c1 c2 c3 c4, cs = [c0, c1, c2, c3, c4] := by
  match cs, h with
  | [c0, c1, c2, c3, c4], _ => exact ⟨c0, c1, c2, c3, c4, rfl⟩
theorem list4 {α : Type} {cs : List α} (h : cs.length = 4) : ∃ c0 c1 c2 c3, cs = [c0, c1, c2, c3] := by
  match cs, h with
  | [c0, c1, c2, c3], _ => exact ⟨c0, c1, c2, c3, rfl⟩

section
variable {H : Type} {enc : TypeId × Value → H} {P : Program} {w : World} {base : Nat} {spare : Nat → Bool} {held : Bool}

theorem word_cells {tW tU : TypeId} (hW : P.underlying tW = some (.array 4 tU)) (hU : P.underlying tU = some (.int .u64)) (cU : P.cellsOf tU = 1) {n : Nat} {c0 c1 c2 c3 : Value} {y : DataW H × List MemPlace} (h : DataW.trod enc P w base spare held n tW [c0, c1, c2, c3] = some y) :
    ∃ a0 a1 a2 a3, c0 = .int .u64 a0 ∧ c1 = .int .u64 a1 ∧ c2 = .int .u64 a2 ∧ c3 = .int .u64 a3 ∧ inU64 a0 ∧ inU64 a1 ∧ inU64 a2 ∧ inU64 a3 := by
  obtain ⟨xs, m, _, _, _, hl, hf⟩ := DataW.trod_array hW h
  obtain ⟨y0, y1, y2, y3, rfl⟩ := list4 hl
  have g0 := hf 0 (by omega)
  have g1 := hf 1 (by omega)
  have g2 := hf 2 (by omega)
  have g3 := hf 3 (by omega)
  simp only [cU] at g0 g1 g2 g3
  obtain ⟨a0, e0, _, b0⟩ := DataW.trod_int hU (x := y0) (by simpa using g0)
  obtain ⟨a1, e1, _, b1⟩ := DataW.trod_int hU (x := y1) (by simpa using g1)
  obtain ⟨a2, e2, _, b2⟩ := DataW.trod_int hU (x := y2) (by simpa using g2)
  obtain ⟨a3, e3, _, b3⟩ := DataW.trod_int hU (x := y3) (by simpa using g3)
  simp at e0 e1 e2 e3
  exact ⟨a0, a1, a2, a3, e0, e1, e2, e3, bounds_u64 b0, bounds_u64 b1, bounds_u64 b2, bounds_u64 b3⟩

theorem open_small {r : Reach} {b0 : Nat} {t tI tW tU tB te : TypeId} {f0 f1 f2 f3 f4 : Field} {v : Value} {d : DataW H} {p : List MemPlace} (hs : P.underlying t = some (.struct #[f0, f1, f2, f3, f4]))
    (o0 : f0.offset = 0) (o1 : f1.offset = 1) (o2 : f2.offset = 2) (o3 : f3.offset = 6) (o4 : f4.offset = 10) (t0 : f0.type = tI) (t1 : f1.type = tI) (t2 : f2.type = tW) (t3 : f3.type = tW) (t4 : f4.type = tB)
    (hC : P.cellsOf t = 11) (cI : P.cellsOf tI = 1) (cW : P.cellsOf tW = 4) (cU : P.cellsOf tU = 1) (cB : P.cellsOf tB = 1)
    (hI : P.underlying tI = some (.int .i64)) (hW : P.underlying tW = some (.array 4 tU)) (hU : P.underlying tU = some (.int .u64)) (hB : P.underlying tB = some (.slice te))
    (hv : Value.okWide P w r b0 t v) (h : DataW.Trod enc P w base spare held t v d p) :
    ∃ (x : Nat → Int) (a : Option Addr) (l c : Nat), v = .agg #[.int .i64 (x 0), .int .i64 (x 1), .int .u64 (x 2), .int .u64 (x 3), .int .u64 (x 4), .int .u64 (x 5), .int .u64 (x 6), .int .u64 (x 7), .int .u64 (x 8), .int .u64 (x 9), .slice a l c] ∧
      inI64 (x 0) ∧ inI64 (x 1) ∧ inU64 (x 2) ∧ inU64 (x 3) ∧ inU64 (x 4) ∧ inU64 (x 5) ∧ inU64 (x 6) ∧ inU64 (x 7) ∧ inU64 (x 8) ∧ inU64 (x 9) := by
  obtain ⟨cs, rfl, hsz⟩ := okWide_struct hs hv
  obtain ⟨c0, c1, c2, c3, c4, c5, c6, c7, c8, c9, c10, rfl⟩ := array11 (hsz.trans hC)
  obtain ⟨fuel, hf⟩ := h
  obtain ⟨xs, n, _, _, _, hl, hx⟩ := DataW.trod_struct hs hf
  obtain ⟨y0, y1, y2, y3, y4, rfl⟩ := list5 (hl.trans rfl)
  have g0 := hx 0 f0 rfl
  have g1 := hx 1 f1 rfl
  have g2 := hx 2 f2 rfl
  have g3 := hx 3 f3 rfl
  have g4 := hx 4 f4 rfl
  rw [o0, t0, cI] at g0
  rw [o1, t1, cI] at g1
  rw [o2, t2, cW] at g2
  rw [o3, t3, cW] at g3
  rw [o4, t4, cB] at g4
  obtain ⟨a0, e0, _, b0⟩ := DataW.trod_int hI (x := y0) (by simpa [Value.cells] using g0)
  obtain ⟨a1, e1, _, b1⟩ := DataW.trod_int hI (x := y1) (by simpa [Value.cells] using g1)
  obtain ⟨a2, a3, a4, a5, e2, e3, e4, e5, b2, b3, b4, b5⟩ := word_cells hW hU cU (y := y2) (by simpa [Value.cells] using g2)
  obtain ⟨a6, a7, a8, a9, e6, e7, e8, e9, b6, b7, b8, b9⟩ := word_cells hW hU cU (y := y3) (by simpa [Value.cells] using g3)
  obtain ⟨a, l, c, e10⟩ := slice_form (y := y4) hB (by simpa [Value.cells] using g4)
  simp at e0 e1 e10
  subst e0 e1 e2 e3 e4 e5 e6 e7 e8 e9 e10
  exact ⟨fun i => [a0, a1, a2, a3, a4, a5, a6, a7, a8, a9].getD i 0, a, l, c, rfl, bounds_i64 b0, bounds_i64 b1, b2, b3, b4, b5, b6, b7, b8, b9⟩
end
end Go.Sy

