/- 'VmThere': for every input the law returns true, and the input reads afterwards as it read before. No condition. -/
import Derived.Test.YtnfoaablgldjcaaGreatRows
import Derived.Test.YtnfoaablgldjcaaGreatSy8
import Derived.Test.YtnfoaablgldjcaaGreatGVmThereR0
import Derived.Test.YtnfoaablgldjcaaGreatGVmThereR1
import Derived.Test.YtnfoaablgldjcaaGreatGVmThereR2
import Derived.Test.YtnfoaablgldjcaaGreatGVmThereR3
import Derived.Test.YtnfoaablgldjcaaGreatGVmThereR4
import Derived.Test.YtnfoaablgldjcaaGreatGVmThereR5
import Derived.Test.YtnfoaablgldjcaaGreatGVmThereR6
import Derived.Test.YtnfoaablgldjcaaGreatGVmThereR7
import Derived.Test.YtnfoaablgldjcaaGreatGVmThereR8
import Derived.Test.YtnfoaablgldjcaaGreatGVmThereR9
import Derived.Test.YtnfoaablgldjcaaGreatGVmThereR10
import Derived.Test.YtnfoaablgldjcaaGreatGVmThereR11
import Derived.Test.YtnfoaablgldjcaaGreatGVmThereR12
import Derived.Test.YtnfoaablgldjcaaGreatGVmThereR13
import Derived.Test.YtnfoaablgldjcaaGreatGVmThereR14
import Derived.Test.YtnfoaablgldjcaaGreatGVmThereR15
import Derived.Test.YtnfoaablgldjcaaGreatGVmThereC3
import Derived.WalkKit
import Derived.ProofKit
import Derived.OpenShut
import Derived.Below
namespace Go.Proofs.YtnfoaablgldjcaaGreat
open Go.ChangeShapes Go.WideShapes Go.ChangeAt Go.RowKit Go.Sy
set_option linter.unusedVariables false

theorem own : ownKnob Tryz.prog.godebug = none := by kernel_rfl
theorem laidOut : laidOutB Tryz.prog = true := c_laid

theorem runsp0 (i : Nat) (h : i < 16) : callA2 FT XT 60 7 [argSmall] ⟨.leaf, 0, phiIn (maskOf i) 1256 0 95⟩ kTrue = true := by
  match i, h with
  | 0, _ => exact run0p0
  | 1, _ => exact run1p0
  | 2, _ => exact run2p0
  | 3, _ => exact run3p0
  | 4, _ => exact run4p0
  | 5, _ => exact run5p0
  | 6, _ => exact run6p0
  | 7, _ => exact run7p0
  | 8, _ => exact run8p0
  | 9, _ => exact run9p0
  | 10, _ => exact run10p0
  | 11, _ => exact run11p0
  | 12, _ => exact run12p0
  | 13, _ => exact run13p0
  | 14, _ => exact run14p0
  | 15, _ => exact run15p0
  | i + 16, h => omega
theorem runsp1 (i : Nat) (h : i < 16) : callA2 FT XT 60 7 [argSmall] ⟨.leaf, 0, phiIn (maskOf i) 1256 96 239⟩ kTrue = true := by
  match i, h with
  | 0, _ => exact run0p1
  | 1, _ => exact run1p1
  | 2, _ => exact run2p1
  | 3, _ => exact run3p1
  | 4, _ => exact run4p1
  | 5, _ => exact run5p1
  | 6, _ => exact run6p1
  | 7, _ => exact run7p1
  | 8, _ => exact run8p1
  | 9, _ => exact run9p1
  | 10, _ => exact run10p1
  | 11, _ => exact run11p1
  | 12, _ => exact run12p1
  | 13, _ => exact run13p1
  | 14, _ => exact run14p1
  | 15, _ => exact run15p1
  | i + 16, h => omega
theorem runsp2 (i : Nat) (h : i < 16) : callA2 FT XT 60 7 [argSmall] ⟨.leaf, 0, phiIn (maskOf i) 1256 240 255⟩ kTrue = true := by
  match i, h with
  | 0, _ => exact run0p2
  | 1, _ => exact run1p2
  | 2, _ => exact run2p2
  | 3, _ => exact run3p2
  | 4, _ => exact run4p2
  | 5, _ => exact run5p2
  | 6, _ => exact run6p2
  | 7, _ => exact run7p2
  | 8, _ => exact run8p2
  | 9, _ => exact run9p2
  | 10, _ => exact run10p2
  | 11, _ => exact run11p2
  | 12, _ => exact run12p2
  | 13, _ => exact run13p2
  | 14, _ => exact run14p2
  | 15, _ => exact run15p2
  | i + 16, h => omega
theorem runs (i : Nat) (h : i < 16) : ∀ p ∈ ([(0, 95), (96, 239), (240, 255)] : List (Nat × Nat)), callA2 FT XT 60 7 [argSmall] ⟨.leaf, 0, phiIn (maskOf i) (1000 + 256) p.1 p.2⟩ kTrue = true := by
  intro p hp
  simp only [List.mem_cons, List.not_mem_nil, or_false] at hp
  rcases hp with rfl | rfl | rfl
  · exact runsp0 i h
  · exact runsp1 i h
  · exact runsp2 i h

theorem walk (x : Nat → Int) (a : Option Addr) (l c : Nat) (h0 : inI64 (x 0)) (h1 : inI64 (x 1)) (h2 : inU64 (x 2)) (h3 : inU64 (x 3)) (h4 : inU64 (x 4)) (h5 : inU64 (x 5)) (h6 : inU64 (x 6)) (h7 : inU64 (x 7)) (h8 : inU64 (x 8)) (h9 : inU64 (x 9)) (w : World) :
    Calls Tryz.prog 7 #[.agg #[.int .i64 (x 0), .int .i64 (x 1), .int .u64 (x 2), .int .u64 (x 3), .int .u64 (x 4), .int .u64 (x 5), .int .u64 (x 6), .int .u64 (x 7), .int .u64 (x 8), .int .u64 (x 9), .slice a l c]] w fun e w' => e = .returned (.bool true) ∧ Below w.heap.size w w' :=
  law_small_in (hOk (Checked.mixed Tryz.checked) 60) Tryz.call7 256 (by omega) (fun _ => [(0, 95), (96, 239), (240, 255)]) (fun _ _ => by kernel_rfl) runs x (.slice a l c) rfl h0 h1 h2 h3 h4 h5 h6 h7 h8 h9 w

set_option maxRecDepth 100000 in
theorem lifted (os : Os) (started : os.Started) (H : Type) (enc : TypeId × Value → H) :
    ReturnsInHanded {} Tryz.checked os 7 .any (Rows.vmThereSpec.pre6 enc Tryz.prog Tryz.f7 Rows.vmThereRow.domain false) (Rows.vmThereSpec.post enc Tryz.prog Tryz.f7 false true false false) := by
  refine returnsInHanded_of_change (C := Tryz.checked) own started (by kernel_rfl) Tryz.func7
    (ChangeSpec.witness6 (enc := enc) (C := Tryz.checked) false ⟨#[], #[.agg #[.int .i64 0, .int .i64 0, .int .u64 0, .int .u64 0, .int .u64 0, .int .u64 0, .int .u64 0, .int .u64 0, .int .u64 0, .int .u64 0, .slice none 0 0]], []⟩ 8 (by kernel_rfl) (by kernel_rfl) (by kernel_rfl) (by kernel_rfl)) ?_
  intro W base args ds gs before hval0 hW hcnd _
  have hval : ∀ (j : Nat) t v, Tryz.f7.params[j]? = some t → args[j]? = some v → Value.okWide Tryz.prog W .any base t v := hval0
  have hW' := hW
  obtain ⟨p, q, hA0, hV, rfl, hfz, hnd⟩ := hW
  have hA : DataW.TrodAll enc Tryz.prog W 0 (fun _ => true) true Tryz.f7.params.toList args.toList ds p := hA0
  rw [Tryz.params7] at hA hval
  obtain ⟨v0, vs0, d0, ds0, p0, q0, hargs, rfl, rfl, hd0, r0⟩ := trodAll_cons hA
  obtain ⟨rfl, rfl, rfl⟩ := trodAll_nil r0
  obtain rfl : args = #[v0] := by cases args; simp_all
  obtain ⟨rfl, rfl⟩ := trodVars_none hV
  have k0 := hd0
  have lt0 : ∀ x ∈ p0, x.block < W.heap.size := by obtain ⟨m, hm⟩ := k0; exact DataW.trod_lt m _ _ _ hm
  obtain ⟨x, a, l, c, rfl, b0, b1, b2, b3, b4, b5, b6, b7, b8, b9⟩ := open_small Tryz.underlying27 rfl rfl rfl rfl rfl (tI := 3) (tW := 24) (tU := 22) (tB := 25) rfl rfl rfl rfl rfl
    (by kernel_rfl) (by kernel_rfl) (by kernel_rfl) (by kernel_rfl) (by kernel_rfl) Tryz.underlying3 Tryz.underlying24 Tryz.underlying22 Tryz.underlying25 (hval 0 27 v0 rfl rfl) hd0
  clear hA0 hval0
  refine (walk x a l c b0 b1 b2 b3 b4 b5 b6 b7 b8 b9 W).mono fun e W' ⟨he, bel⟩ => ?_
  subst he
  exact ⟨_, rfl, _, _, _, [], _, [], hW', trodAll_mk1 (shut_bool Tryz.underlying4 _), (trodAll_cons_mk (Below.trod laidOut (by kernel_rfl) (of_decide_eq_true (by kernel_rfl)) k0 bel lt0) trodAll_mk0), rfl, bel.frame _, fun h => by cases h⟩

theorem over : Rows.vmThereRow.holds Tryz.pinned (OpenSpec.ofChange Rows.vmThereSpec) :=
  OpenClaim.holds_of_wide 7 Tryz.f7 rfl rfl rfl rfl rfl rfl rfl ⟨rfl, rfl, rfl, rfl, rfl⟩ rfl rfl rfl rfl rfl (by kernel_rfl) Tryz.func7 closed
    (of_decide_eq_true (by kernel_rfl)) (by unfold Func.isWrapper; rw [if_neg (of_decide_eq_false (by kernel_rfl))]; exact ⟨rfl, rfl⟩)
    (fun os started H enc _ => lifted os started H enc)

/-- The statement. -/
theorem proved : Rows.VmThereSaid := over
#print axioms proved
end Go.Proofs.YtnfoaablgldjcaaGreat
