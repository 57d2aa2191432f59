/- 'VmGives': for every input the law returns true, and the input reads afterwards as it read before. No condition. -/
import Derived.Test.YtnfoaablgldjcaaGreatRows
import Derived.Test.YtnfoaablgldjcaaGreatSy8
import Derived.Test.YtnfoaablgldjcaaGreatGVmGivesR0
import Derived.Test.YtnfoaablgldjcaaGreatGVmGivesR1
import Derived.Test.YtnfoaablgldjcaaGreatGVmGivesR2
import Derived.Test.YtnfoaablgldjcaaGreatGVmGivesR3
import Derived.Test.YtnfoaablgldjcaaGreatGVmGivesR4
import Derived.Test.YtnfoaablgldjcaaGreatGVmGivesR5
import Derived.Test.YtnfoaablgldjcaaGreatGVmGivesR6
import Derived.Test.YtnfoaablgldjcaaGreatGVmGivesR7
import Derived.Test.YtnfoaablgldjcaaGreatGVmGivesR8
import Derived.Test.YtnfoaablgldjcaaGreatGVmGivesR9
import Derived.Test.YtnfoaablgldjcaaGreatGVmGivesR10
import Derived.Test.YtnfoaablgldjcaaGreatGVmGivesR11
import Derived.Test.YtnfoaablgldjcaaGreatGVmGivesR12
import Derived.Test.YtnfoaablgldjcaaGreatGVmGivesR13
import Derived.Test.YtnfoaablgldjcaaGreatGVmGivesR14
import Derived.Test.YtnfoaablgldjcaaGreatGVmGivesR15
import Derived.Test.YtnfoaablgldjcaaGreatGVmGivesC3
import Derived.WalkKit
import Derived.ProofKit
import Derived.OpenShut
import Derived.Below
namespace Go.Proofs.YtnfoaablgldjcaaGreat
open Go.ChangeShapes Go.WideShapes Go.ChangeAt Go.RowKit Go.Sy
set_option linter.unusedVariables false

theorem own : ownKnob Tryz.prog.godebug = none := by kernel_rfl
theorem laidOut : laidOutB Tryz.prog = true := c_laid

theorem runs0 (k : Nat) (h : k < 3) : callA2 FT XT 60 5 [argSmall] ⟨.leaf, 0, phiAt (maskOf 0) 1003 k⟩ kTrue = true := by
  match k, h with
  | 0, _ => exact run0k0
  | 1, _ => exact run0k1
  | 2, _ => exact run0k2
  | k + 3, h => omega
theorem runs1 (k : Nat) (h : k < 3) : callA2 FT XT 60 5 [argSmall] ⟨.leaf, 0, phiAt (maskOf 1) 1003 k⟩ kTrue = true := by
  match k, h with
  | 0, _ => exact run1k0
  | 1, _ => exact run1k1
  | 2, _ => exact run1k2
  | k + 3, h => omega
theorem runs2 (k : Nat) (h : k < 3) : callA2 FT XT 60 5 [argSmall] ⟨.leaf, 0, phiAt (maskOf 2) 1003 k⟩ kTrue = true := by
  match k, h with
  | 0, _ => exact run2k0
  | 1, _ => exact run2k1
  | 2, _ => exact run2k2
  | k + 3, h => omega
theorem runs3 (k : Nat) (h : k < 3) : callA2 FT XT 60 5 [argSmall] ⟨.leaf, 0, phiAt (maskOf 3) 1003 k⟩ kTrue = true := by
  match k, h with
  | 0, _ => exact run3k0
  | 1, _ => exact run3k1
  | 2, _ => exact run3k2
  | k + 3, h => omega
theorem runs4 (k : Nat) (h : k < 3) : callA2 FT XT 60 5 [argSmall] ⟨.leaf, 0, phiAt (maskOf 4) 1003 k⟩ kTrue = true := by
  match k, h with
  | 0, _ => exact run4k0
  | 1, _ => exact run4k1
  | 2, _ => exact run4k2
  | k + 3, h => omega
theorem runs5 (k : Nat) (h : k < 3) : callA2 FT XT 60 5 [argSmall] ⟨.leaf, 0, phiAt (maskOf 5) 1003 k⟩ kTrue = true := by
  match k, h with
  | 0, _ => exact run5k0
  | 1, _ => exact run5k1
  | 2, _ => exact run5k2
  | k + 3, h => omega
theorem runs6 (k : Nat) (h : k < 3) : callA2 FT XT 60 5 [argSmall] ⟨.leaf, 0, phiAt (maskOf 6) 1003 k⟩ kTrue = true := by
  match k, h with
  | 0, _ => exact run6k0
  | 1, _ => exact run6k1
  | 2, _ => exact run6k2
  | k + 3, h => omega
theorem runs7 (k : Nat) (h : k < 3) : callA2 FT XT 60 5 [argSmall] ⟨.leaf, 0, phiAt (maskOf 7) 1003 k⟩ kTrue = true := by
  match k, h with
  | 0, _ => exact run7k0
  | 1, _ => exact run7k1
  | 2, _ => exact run7k2
  | k + 3, h => omega
theorem runs8 (k : Nat) (h : k < 3) : callA2 FT XT 60 5 [argSmall] ⟨.leaf, 0, phiAt (maskOf 8) 1003 k⟩ kTrue = true := by
  match k, h with
  | 0, _ => exact run8k0
  | 1, _ => exact run8k1
  | 2, _ => exact run8k2
  | k + 3, h => omega
theorem runs9 (k : Nat) (h : k < 3) : callA2 FT XT 60 5 [argSmall] ⟨.leaf, 0, phiAt (maskOf 9) 1003 k⟩ kTrue = true := by
  match k, h with
  | 0, _ => exact run9k0
  | 1, _ => exact run9k1
  | 2, _ => exact run9k2
  | k + 3, h => omega
theorem runs10 (k : Nat) (h : k < 3) : callA2 FT XT 60 5 [argSmall] ⟨.leaf, 0, phiAt (maskOf 10) 1003 k⟩ kTrue = true := by
  match k, h with
  | 0, _ => exact run10k0
  | 1, _ => exact run10k1
  | 2, _ => exact run10k2
  | k + 3, h => omega
theorem runs11 (k : Nat) (h : k < 3) : callA2 FT XT 60 5 [argSmall] ⟨.leaf, 0, phiAt (maskOf 11) 1003 k⟩ kTrue = true := by
  match k, h with
  | 0, _ => exact run11k0
  | 1, _ => exact run11k1
  | 2, _ => exact run11k2
  | k + 3, h => omega
theorem runs12 (k : Nat) (h : k < 3) : callA2 FT XT 60 5 [argSmall] ⟨.leaf, 0, phiAt (maskOf 12) 1003 k⟩ kTrue = true := by
  match k, h with
  | 0, _ => exact run12k0
  | 1, _ => exact run12k1
  | 2, _ => exact run12k2
  | k + 3, h => omega
theorem runs13 (k : Nat) (h : k < 3) : callA2 FT XT 60 5 [argSmall] ⟨.leaf, 0, phiAt (maskOf 13) 1003 k⟩ kTrue = true := by
  match k, h with
  | 0, _ => exact run13k0
  | 1, _ => exact run13k1
  | 2, _ => exact run13k2
  | k + 3, h => omega
theorem runs14 (k : Nat) (h : k < 3) : callA2 FT XT 60 5 [argSmall] ⟨.leaf, 0, phiAt (maskOf 14) 1003 k⟩ kTrue = true := by
  match k, h with
  | 0, _ => exact run14k0
  | 1, _ => exact run14k1
  | 2, _ => exact run14k2
  | k + 3, h => omega
theorem runs15 (k : Nat) (h : k < 3) : callA2 FT XT 60 5 [argSmall] ⟨.leaf, 0, phiAt (maskOf 15) 1003 k⟩ kTrue = true := by
  match k, h with
  | 0, _ => exact run15k0
  | 1, _ => exact run15k1
  | 2, _ => exact run15k2
  | k + 3, h => omega
theorem runs (i : Nat) (h : i < 16) (k : Nat) (hk : k < 3) : callA2 FT XT 60 5 [argSmall] ⟨.leaf, 0, phiAt (maskOf i) (1000 + 3) k⟩ kTrue = true := by
  match i, h with
  | 0, _ => exact runs0 k hk
  | 1, _ => exact runs1 k hk
  | 2, _ => exact runs2 k hk
  | 3, _ => exact runs3 k hk
  | 4, _ => exact runs4 k hk
  | 5, _ => exact runs5 k hk
  | 6, _ => exact runs6 k hk
  | 7, _ => exact runs7 k hk
  | 8, _ => exact runs8 k hk
  | 9, _ => exact runs9 k hk
  | 10, _ => exact runs10 k hk
  | 11, _ => exact runs11 k hk
  | 12, _ => exact runs12 k hk
  | 13, _ => exact runs13 k hk
  | 14, _ => exact runs14 k hk
  | 15, _ => exact runs15 k hk
  | i + 16, h => omega

theorem walk (x : Nat → Int) (a : Option Addr) (l c : Nat) (h0 : inI64 (x 0)) (h1 : inI64 (x 1)) (h2 : inU64 (x 2)) (h3 : inU64 (x 3)) (h4 : inU64 (x 4)) (h5 : inU64 (x 5)) (h6 : inU64 (x 6)) (h7 : inU64 (x 7)) (h8 : inU64 (x 8)) (h9 : inU64 (x 9)) (w : World) :
    Calls Tryz.prog 5 #[.agg #[.int .i64 (x 0), .int .i64 (x 1), .int .u64 (x 2), .int .u64 (x 3), .int .u64 (x 4), .int .u64 (x 5), .int .u64 (x 6), .int .u64 (x 7), .int .u64 (x 8), .int .u64 (x 9), .slice a l c]] w fun e w' => e = .returned (.bool true) ∧ Below w.heap.size w w' :=
  law_small_at (hOk (Checked.mixed Tryz.checked) 60) Tryz.call5 3 (by omega) runs x (.slice a l c) rfl h0 h1 h2 h3 h4 h5 h6 h7 h8 h9 w

set_option maxRecDepth 100000 in
theorem lifted (os : Os) (started : os.Started) (H : Type) (enc : TypeId × Value → H) :
    ReturnsInHanded {} Tryz.checked os 5 .any (Rows.vmGivesSpec.pre6 enc Tryz.prog Tryz.f5 Rows.vmGivesRow.domain false) (Rows.vmGivesSpec.post enc Tryz.prog Tryz.f5 false true false false) := by
  refine returnsInHanded_of_change (C := Tryz.checked) own started (by kernel_rfl) Tryz.func5
    (ChangeSpec.witness6 (enc := enc) (C := Tryz.checked) false ⟨#[], #[.agg #[.int .i64 0, .int .i64 0, .int .u64 0, .int .u64 0, .int .u64 0, .int .u64 0, .int .u64 0, .int .u64 0, .int .u64 0, .int .u64 0, .slice none 0 0]], []⟩ 8 (by kernel_rfl) (by kernel_rfl) (by kernel_rfl) (by kernel_rfl)) ?_
  intro W base args ds gs before hval0 hW hcnd _
  have hval : ∀ (j : Nat) t v, Tryz.f5.params[j]? = some t → args[j]? = some v → Value.okWide Tryz.prog W .any base t v := hval0
  have hW' := hW
  obtain ⟨p, q, hA0, hV, rfl, hfz, hnd⟩ := hW
  have hA : DataW.TrodAll enc Tryz.prog W 0 (fun _ => true) true Tryz.f5.params.toList args.toList ds p := hA0
  rw [Tryz.params5] at hA hval
  obtain ⟨v0, vs0, d0, ds0, p0, q0, hargs, rfl, rfl, hd0, r0⟩ := trodAll_cons hA
  obtain ⟨rfl, rfl, rfl⟩ := trodAll_nil r0
  obtain rfl : args = #[v0] := by cases args; simp_all
  obtain ⟨rfl, rfl⟩ := trodVars_none hV
  have k0 := hd0
  have lt0 : ∀ x ∈ p0, x.block < W.heap.size := by obtain ⟨m, hm⟩ := k0; exact DataW.trod_lt m _ _ _ hm
  obtain ⟨x, a, l, c, rfl, b0, b1, b2, b3, b4, b5, b6, b7, b8, b9⟩ := open_small Tryz.underlying27 rfl rfl rfl rfl rfl (tI := 3) (tW := 24) (tU := 22) (tB := 25) rfl rfl rfl rfl rfl
    (by kernel_rfl) (by kernel_rfl) (by kernel_rfl) (by kernel_rfl) (by kernel_rfl) Tryz.underlying3 Tryz.underlying24 Tryz.underlying22 Tryz.underlying25 (hval 0 27 v0 rfl rfl) hd0
  clear hA0 hval0
  refine (walk x a l c b0 b1 b2 b3 b4 b5 b6 b7 b8 b9 W).mono fun e W' ⟨he, bel⟩ => ?_
  subst he
  exact ⟨_, rfl, _, _, _, [], _, [], hW', trodAll_mk1 (shut_bool Tryz.underlying4 _), (trodAll_cons_mk (Below.trod laidOut (by kernel_rfl) (of_decide_eq_true (by kernel_rfl)) k0 bel lt0) trodAll_mk0), rfl, bel.frame _, fun h => by cases h⟩

theorem over : Rows.vmGivesRow.holds Tryz.pinned (OpenSpec.ofChange Rows.vmGivesSpec) :=
  OpenClaim.holds_of_wide 5 Tryz.f5 rfl rfl rfl rfl rfl rfl rfl ⟨rfl, rfl, rfl, rfl, rfl⟩ rfl rfl rfl rfl rfl (by kernel_rfl) Tryz.func5 closed
    (of_decide_eq_true (by kernel_rfl)) (by unfold Func.isWrapper; rw [if_neg (of_decide_eq_false (by kernel_rfl))]; exact ⟨rfl, rfl⟩)
    (fun os started H enc _ => lifted os started H enc)

/-- The statement. -/
theorem proved : Rows.VmGivesSaid := over
#print axioms proved
end Go.Proofs.YtnfoaablgldjcaaGreat
