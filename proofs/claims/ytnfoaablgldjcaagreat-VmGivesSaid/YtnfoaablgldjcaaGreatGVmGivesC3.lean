/- Closed facts of the row. -/
import Derived.Test.YtnfoaablgldjcaaGreatGVmGivesC0
import Derived.Test.YtnfoaablgldjcaaGreatGVmGivesC1
import Derived.Test.YtnfoaablgldjcaaGreatGVmGivesC2
import Derived.Test.YtnfoaablgldjcaaGreatRows
import Derived.ProofKit
namespace Go.Proofs.YtnfoaablgldjcaaGreat
open Go
set_option maxRecDepth 100000
theorem c_wf : (Rows.vmGivesRow.wf (OpenSpec.ofChange Rows.vmGivesSpec)) = true := by kernel_rfl
theorem c_read : (Tryz.f5.params.all (Tryz.prog.readableRec ·)) = true := by kernel_rfl
theorem c_tie : (namedTie Tryz.prog Rows.vmGivesRow.named Rows.vmGivesSpec.vars) = true := by kernel_rfl
theorem c_st1 : (Rows.vmGivesRow.stops == []) = true := by kernel_rfl
theorem c_st2 : (Tryz.prog.stops == []) = true := by kernel_rfl
theorem c_kn1 : (Rows.vmGivesRow.knobs == []) = true := by kernel_rfl
theorem c_kn2 : (Tryz.prog.stopKnobs == []) = true := by kernel_rfl
theorem c_maps : (Rows.vmGivesRow.maps == (Tryz.f5.params.toList ++ Rows.vmGivesSpec.plain.varTypes Tryz.prog).any (Tryz.prog.mapsRec ·)) = true := by kernel_rfl
theorem c_ifs : (Rows.vmGivesRow.ifaces == (Tryz.f5.params.toList ++ Rows.vmGivesSpec.plain.varTypes Tryz.prog).any (Tryz.prog.ifacesRec ·)) = true := by kernel_rfl
theorem c_mo : (Rows.vmGivesRow.mapsOut == Tryz.prog.mapsAmong Tryz.f5.resultTypes.toList) = true := by kernel_rfl
theorem c_lps : (Rows.vmGivesRow.loops == (Tryz.f5.params.toList ++ Rows.vmGivesSpec.plain.varTypes Tryz.prog).any (Tryz.prog.loopsFrom ·)) = true := by kernel_rfl
theorem c_wk : (Rows.vmGivesRow.wideKeys == (Tryz.f5.params.toList ++ Rows.vmGivesSpec.plain.varTypes Tryz.prog ++ Tryz.f5.resultTypes.toList).any (Tryz.prog.wideKeysFrom ·)) = true := by kernel_rfl
theorem c_vr : (Rows.vmGivesSpec.vars.all (Tryz.prog.varReadable ·)) = true := by kernel_rfl
theorem c_rt : (Tryz.f5.resultTypes.all (fun t => Tryz.prog.readableRec t && decide (t < Tryz.prog.types.size))) = true := by kernel_rfl
theorem c_io : (Rows.vmGivesRow.ifacesOut == Tryz.f5.resultTypes.toList.any (Tryz.prog.ifacesRec ·)) = true := by kernel_rfl
theorem c_lo : (Rows.vmGivesRow.loopsOut == Tryz.f5.resultTypes.toList.any (Tryz.prog.loopsFrom ·)) = true := by kernel_rfl
theorem c_pk : (Rows.vmGivesRow.plainKeys == Tryz.prog.plainKeys) = true := by kernel_rfl
theorem c_sh : (Rows.vmGivesRow.shortTexts.isNone) = true := by kernel_rfl
theorem c_hrd : (Tryz.prog.stopsHeard) = true := by kernel_rfl
theorem c_ent : (Tryz.prog.mayEnter) = true := by kernel_rfl
theorem c_lif : (Rows.vmGivesRow.lifted == Tryz.prog.liftsFinal) = true := by kernel_rfl
theorem c_mk : (Tryz.prog.make == some Rows.vmGivesRow.make) = true := by kernel_rfl
theorem c_knd : (Rows.vmGivesRow.kinds == (if Rows.vmGivesRow.domain.isEmpty then [] else Tryz.f5.params.toList.map fun t => match Tryz.prog.underlying t with | some (.int k) => some k | _ => none)) = true := by kernel_rfl
theorem c_pin : (Rows.vmGivesRow.pinned == Rows.vmGivesRow.pinnedBy) = true := by kernel_rfl
theorem c_vl : (Rows.vmGivesRow.veiled == (Tryz.f5.params.toList ++ Rows.vmGivesSpec.plain.varTypes Tryz.prog ++ Tryz.f5.resultTypes.toList).any (Tryz.prog.veiledRec ·)) = true := by kernel_rfl
theorem c_vf : (Rows.vmGivesRow.veiledFits Tryz.prog Tryz.f5.params.toList (Tryz.f5.params.toList ++ Rows.vmGivesSpec.plain.varTypes Tryz.prog ++ Tryz.f5.resultTypes.toList)) = true := by kernel_rfl
theorem andT {a b : Bool} (ha : a = true) (hb : b = true) : (a && b) = true := by rw [ha, hb]; rfl
theorem closed : joinedFacts Tryz.prog 5 Tryz.f5 Rows.vmGivesSpec Rows.vmGivesRow = true := (andT (andT (andT (andT (andT (andT (andT (andT (andT (andT (andT (andT (andT (andT (andT (andT (andT (andT (andT (andT (andT (andT (andT (andT (andT (andT (andT (andT (andT (andT (andT c_wf c_laid) c_rowed) c_read) c_tie) c_st1) c_st2) c_kn1) c_kn2) c_inp) c_unf) c_rcs) c_nam) c_maps) c_ifs) c_mo) c_lps) c_wk) c_vr) c_rt) c_io) c_lo) c_pk) c_sh) c_hrd) c_ent) c_lif) c_mk) c_knd) c_pin) c_vl) c_vf)
end Go.Proofs.YtnfoaablgldjcaaGreat
