/- Closed facts of the row. -/
import Derived.Test.YtnfoaablgldjcaaGreatGVmPartC0
import Derived.Test.YtnfoaablgldjcaaGreatGVmPartC1
import Derived.Test.YtnfoaablgldjcaaGreatGVmPartC2
import Derived.Test.YtnfoaablgldjcaaGreatRows
import Derived.ProofKit
namespace Go.Proofs.YtnfoaablgldjcaaGreat
open Go
set_option maxRecDepth 100000
theorem c_wf : (Rows.vmPartRow.wf (OpenSpec.ofChange Rows.vmPartSpec)) = true := by kernel_rfl
theorem c_read : (Tryz.f3.params.all (Tryz.prog.readableRec ·)) = true := by kernel_rfl
theorem c_tie : (namedTie Tryz.prog Rows.vmPartRow.named Rows.vmPartSpec.vars) = true := by kernel_rfl
theorem c_st1 : (Rows.vmPartRow.stops == []) = true := by kernel_rfl
theorem c_st2 : (Tryz.prog.stops == []) = true := by kernel_rfl
theorem c_kn1 : (Rows.vmPartRow.knobs == []) = true := by kernel_rfl
theorem c_kn2 : (Tryz.prog.stopKnobs == []) = true := by kernel_rfl
theorem c_maps : (Rows.vmPartRow.maps == (Tryz.f3.params.toList ++ Rows.vmPartSpec.plain.varTypes Tryz.prog).any (Tryz.prog.mapsRec ·)) = true := by kernel_rfl
theorem c_ifs : (Rows.vmPartRow.ifaces == (Tryz.f3.params.toList ++ Rows.vmPartSpec.plain.varTypes Tryz.prog).any (Tryz.prog.ifacesRec ·)) = true := by kernel_rfl
theorem c_mo : (Rows.vmPartRow.mapsOut == Tryz.prog.mapsAmong Tryz.f3.resultTypes.toList) = true := by kernel_rfl
theorem c_lps : (Rows.vmPartRow.loops == (Tryz.f3.params.toList ++ Rows.vmPartSpec.plain.varTypes Tryz.prog).any (Tryz.prog.loopsFrom ·)) = true := by kernel_rfl
theorem c_wk : (Rows.vmPartRow.wideKeys == (Tryz.f3.params.toList ++ Rows.vmPartSpec.plain.varTypes Tryz.prog ++ Tryz.f3.resultTypes.toList).any (Tryz.prog.wideKeysFrom ·)) = true := by kernel_rfl
theorem c_vr : (Rows.vmPartSpec.vars.all (Tryz.prog.varReadable ·)) = true := by kernel_rfl
theorem c_rt : (Tryz.f3.resultTypes.all (fun t => Tryz.prog.readableRec t && decide (t < Tryz.prog.types.size))) = true := by kernel_rfl
theorem c_io : (Rows.vmPartRow.ifacesOut == Tryz.f3.resultTypes.toList.any (Tryz.prog.ifacesRec ·)) = true := by kernel_rfl
theorem c_lo : (Rows.vmPartRow.loopsOut == Tryz.f3.resultTypes.toList.any (Tryz.prog.loopsFrom ·)) = true := by kernel_rfl
theorem c_pk : (Rows.vmPartRow.plainKeys == Tryz.prog.plainKeys) = true := by kernel_rfl
theorem c_sh : (Rows.vmPartRow.shortTexts.isNone) = true := by kernel_rfl
theorem c_hrd : (Tryz.prog.stopsHeard) = true := by kernel_rfl
theorem c_ent : (Tryz.prog.mayEnter) = true := by kernel_rfl
theorem c_lif : (Rows.vmPartRow.lifted == Tryz.prog.liftsFinal) = true := by kernel_rfl
theorem c_mk : (Tryz.prog.make == some Rows.vmPartRow.make) = true := by kernel_rfl
theorem c_knd : (Rows.vmPartRow.kinds == (if Rows.vmPartRow.domain.isEmpty then [] else Tryz.f3.params.toList.map fun t => match Tryz.prog.underlying t with | some (.int k) => some k | _ => none)) = true := by kernel_rfl
theorem c_pin : (Rows.vmPartRow.pinned == Rows.vmPartRow.pinnedBy) = true := by kernel_rfl
theorem c_vl : (Rows.vmPartRow.veiled == (Tryz.f3.params.toList ++ Rows.vmPartSpec.plain.varTypes Tryz.prog ++ Tryz.f3.resultTypes.toList).any (Tryz.prog.veiledRec ·)) = true := by kernel_rfl
theorem c_vf : (Rows.vmPartRow.veiledFits Tryz.prog Tryz.f3.params.toList (Tryz.f3.params.toList ++ Rows.vmPartSpec.plain.varTypes Tryz.prog ++ Tryz.f3.resultTypes.toList)) = true := by kernel_rfl
theorem andT {a b : Bool} (ha : a = true) (hb : b = true) : (a && b) = true := by rw [ha, hb]; rfl
theorem closed : joinedFacts Tryz.prog 3 Tryz.f3 Rows.vmPartSpec Rows.vmPartRow = true := (andT (andT (andT (andT (andT (andT (andT (andT (andT (andT (andT (andT (andT (andT (andT (andT (andT (andT (andT (andT (andT (andT (andT (andT (andT (andT (andT (andT (andT (andT (andT c_wf c_laid) c_rowed) c_read) c_tie) c_st1) c_st2) c_kn1) c_kn2) c_inp) c_unf) c_rcs) c_nam) c_maps) c_ifs) c_mo) c_lps) c_wk) c_vr) c_rt) c_io) c_lo) c_pk) c_sh) c_hrd) c_ent) c_lif) c_mk) c_knd) c_pin) c_vl) c_vf)
end Go.Proofs.YtnfoaablgldjcaaGreat
