/- Closed facts of the row. -/
import Derived.Test.YtnfoaablgldjcaaGreatGVmGuardsC0
import Derived.Test.YtnfoaablgldjcaaGreatGVmGuardsC1
import Derived.Test.YtnfoaablgldjcaaGreatGVmGuardsC2
import Derived.Test.YtnfoaablgldjcaaGreatRows
import Derived.ProofKit
namespace Go.Proofs.YtnfoaablgldjcaaGreat
open Go
set_option maxRecDepth 100000
theorem c_wf : (Rows.vmGuardsRow.wf (OpenSpec.ofChange Rows.vmGuardsSpec)) = true := by kernel_rfl
theorem c_read : (Tryz.f4.params.all (Tryz.prog.readableRec ·)) = true := by kernel_rfl
theorem c_tie : (namedTie Tryz.prog Rows.vmGuardsRow.named Rows.vmGuardsSpec.vars) = true := by kernel_rfl
theorem c_st1 : (Rows.vmGuardsRow.stops == []) = true := by kernel_rfl
theorem c_st2 : (Tryz.prog.stops == []) = true := by kernel_rfl
theorem c_kn1 : (Rows.vmGuardsRow.knobs == []) = true := by kernel_rfl
theorem c_kn2 : (Tryz.prog.stopKnobs == []) = true := by kernel_rfl
theorem c_maps : (Rows.vmGuardsRow.maps == (Tryz.f4.params.toList ++ Rows.vmGuardsSpec.plain.varTypes Tryz.prog).any (Tryz.prog.mapsRec ·)) = true := by kernel_rfl
theorem c_ifs : (Rows.vmGuardsRow.ifaces == (Tryz.f4.params.toList ++ Rows.vmGuardsSpec.plain.varTypes Tryz.prog).any (Tryz.prog.ifacesRec ·)) = true := by kernel_rfl
theorem c_mo : (Rows.vmGuardsRow.mapsOut == Tryz.prog.mapsAmong Tryz.f4.resultTypes.toList) = true := by kernel_rfl
theorem c_lps : (Rows.vmGuardsRow.loops == (Tryz.f4.params.toList ++ Rows.vmGuardsSpec.plain.varTypes Tryz.prog).any (Tryz.prog.loopsFrom ·)) = true := by kernel_rfl
theorem c_wk : (Rows.vmGuardsRow.wideKeys == (Tryz.f4.params.toList ++ Rows.vmGuardsSpec.plain.varTypes Tryz.prog ++ Tryz.f4.resultTypes.toList).any (Tryz.prog.wideKeysFrom ·)) = true := by kernel_rfl
theorem c_vr : (Rows.vmGuardsSpec.vars.all (Tryz.prog.varReadable ·)) = true := by kernel_rfl
theorem c_rt : (Tryz.f4.resultTypes.all (fun t => Tryz.prog.readableRec t && decide (t < Tryz.prog.types.size))) = true := by kernel_rfl
theorem c_io : (Rows.vmGuardsRow.ifacesOut == Tryz.f4.resultTypes.toList.any (Tryz.prog.ifacesRec ·)) = true := by kernel_rfl
theorem c_lo : (Rows.vmGuardsRow.loopsOut == Tryz.f4.resultTypes.toList.any (Tryz.prog.loopsFrom ·)) = true := by kernel_rfl
theorem c_pk : (Rows.vmGuardsRow.plainKeys == Tryz.prog.plainKeys) = true := by kernel_rfl
theorem c_sh : (Rows.vmGuardsRow.shortTexts.isNone) = true := by kernel_rfl
theorem c_hrd : (Tryz.prog.stopsHeard) = true := by kernel_rfl
theorem c_ent : (Tryz.prog.mayEnter) = true := by kernel_rfl
theorem c_lif : (Rows.vmGuardsRow.lifted == Tryz.prog.liftsFinal) = true := by kernel_rfl
theorem c_mk : (Tryz.prog.make == some Rows.vmGuardsRow.make) = true := by kernel_rfl
theorem c_knd : (Rows.vmGuardsRow.kinds == (if Rows.vmGuardsRow.domain.isEmpty then [] else Tryz.f4.params.toList.map fun t => match Tryz.prog.underlying t with | some (.int k) => some k | _ => none)) = true := by kernel_rfl
theorem c_pin : (Rows.vmGuardsRow.pinned == Rows.vmGuardsRow.pinnedBy) = true := by kernel_rfl
theorem c_vl : (Rows.vmGuardsRow.veiled == (Tryz.f4.params.toList ++ Rows.vmGuardsSpec.plain.varTypes Tryz.prog ++ Tryz.f4.resultTypes.toList).any (Tryz.prog.veiledRec ·)) = true := by kernel_rfl
theorem c_vf : (Rows.vmGuardsRow.veiledFits Tryz.prog Tryz.f4.params.toList (Tryz.f4.params.toList ++ Rows.vmGuardsSpec.plain.varTypes Tryz.prog ++ Tryz.f4.resultTypes.toList)) = true := by kernel_rfl
theorem andT {a b : Bool} (ha : a = true) (hb : b = true) : (a && b) = true := by rw [ha, hb]; rfl
theorem closed : joinedFacts Tryz.prog 4 Tryz.f4 Rows.vmGuardsSpec Rows.vmGuardsRow = true := (andT (andT (andT (andT (andT (andT (andT (andT (andT (andT (andT (andT (andT (andT (andT (andT (andT (andT (andT (andT (andT (andT (andT (andT (andT (andT (andT (andT (andT (andT (andT c_wf c_laid) c_rowed) c_read) c_tie) c_st1) c_st2) c_kn1) c_kn2) c_inp) c_unf) c_rcs) c_nam) c_maps) c_ifs) c_mo) c_lps) c_wk) c_vr) c_rt) c_io) c_lo) c_pk) c_sh) c_hrd) c_ent) c_lif) c_mk) c_knd) c_pin) c_vl) c_vf)
end Go.Proofs.YtnfoaablgldjcaaGreat
