/- Closed facts of the row. -/
import Derived.Test.YtnfoaablgldjcaaGreatGVmThereC0
import Derived.Test.YtnfoaablgldjcaaGreatGVmThereC1
import Derived.Test.YtnfoaablgldjcaaGreatGVmThereC2
import Derived.Test.YtnfoaablgldjcaaGreatRows
import Derived.ProofKit
namespace Go.Proofs.YtnfoaablgldjcaaGreat
open Go
set_option maxRecDepth 100000
theorem c_wf : (Rows.vmThereRow.wf (OpenSpec.ofChange Rows.vmThereSpec)) = true := by kernel_rfl
theorem c_read : (Tryz.f7.params.all (Tryz.prog.readableRec ·)) = true := by kernel_rfl
theorem c_tie : (namedTie Tryz.prog Rows.vmThereRow.named Rows.vmThereSpec.vars) = true := by kernel_rfl
theorem c_st1 : (Rows.vmThereRow.stops == []) = true := by kernel_rfl
theorem c_st2 : (Tryz.prog.stops == []) = true := by kernel_rfl
theorem c_kn1 : (Rows.vmThereRow.knobs == []) = true := by kernel_rfl
theorem c_kn2 : (Tryz.prog.stopKnobs == []) = true := by kernel_rfl
theorem c_maps : (Rows.vmThereRow.maps == (Tryz.f7.params.toList ++ Rows.vmThereSpec.plain.varTypes Tryz.prog).any (Tryz.prog.mapsRec ·)) = true := by kernel_rfl
theorem c_ifs : (Rows.vmThereRow.ifaces == (Tryz.f7.params.toList ++ Rows.vmThereSpec.plain.varTypes Tryz.prog).any (Tryz.prog.ifacesRec ·)) = true := by kernel_rfl
theorem c_mo : (Rows.vmThereRow.mapsOut == Tryz.prog.mapsAmong Tryz.f7.resultTypes.toList) = true := by kernel_rfl
theorem c_lps : (Rows.vmThereRow.loops == (Tryz.f7.params.toList ++ Rows.vmThereSpec.plain.varTypes Tryz.prog).any (Tryz.prog.loopsFrom ·)) = true := by kernel_rfl
theorem c_wk : (Rows.vmThereRow.wideKeys == (Tryz.f7.params.toList ++ Rows.vmThereSpec.plain.varTypes Tryz.prog ++ Tryz.f7.resultTypes.toList).any (Tryz.prog.wideKeysFrom ·)) = true := by kernel_rfl
theorem c_vr : (Rows.vmThereSpec.vars.all (Tryz.prog.varReadable ·)) = true := by kernel_rfl
theorem c_rt : (Tryz.f7.resultTypes.all (fun t => Tryz.prog.readableRec t && decide (t < Tryz.prog.types.size))) = true := by kernel_rfl
theorem c_io : (Rows.vmThereRow.ifacesOut == Tryz.f7.resultTypes.toList.any (Tryz.prog.ifacesRec ·)) = true := by kernel_rfl
theorem c_lo : (Rows.vmThereRow.loopsOut == Tryz.f7.resultTypes.toList.any (Tryz.prog.loopsFrom ·)) = true := by kernel_rfl
theorem c_pk : (Rows.vmThereRow.plainKeys == Tryz.prog.plainKeys) = true := by kernel_rfl
theorem c_sh : (Rows.vmThereRow.shortTexts.isNone) = true := by kernel_rfl
theorem c_hrd : (Tryz.prog.stopsHeard) = true := by kernel_rfl
theorem c_ent : (Tryz.prog.mayEnter) = true := by kernel_rfl
theorem c_lif : (Rows.vmThereRow.lifted == Tryz.prog.liftsFinal) = true := by kernel_rfl
theorem c_mk : (Tryz.prog.make == some Rows.vmThereRow.make) = true := by kernel_rfl
theorem c_knd : (Rows.vmThereRow.kinds == (if Rows.vmThereRow.domain.isEmpty then [] else Tryz.f7.params.toList.map fun t => match Tryz.prog.underlying t with | some (.int k) => some k | _ => none)) = true := by kernel_rfl
theorem c_pin : (Rows.vmThereRow.pinned == Rows.vmThereRow.pinnedBy) = true := by kernel_rfl
theorem c_vl : (Rows.vmThereRow.veiled == (Tryz.f7.params.toList ++ Rows.vmThereSpec.plain.varTypes Tryz.prog ++ Tryz.f7.resultTypes.toList).any (Tryz.prog.veiledRec ·)) = true := by kernel_rfl
theorem c_vf : (Rows.vmThereRow.veiledFits Tryz.prog Tryz.f7.params.toList (Tryz.f7.params.toList ++ Rows.vmThereSpec.plain.varTypes Tryz.prog ++ Tryz.f7.resultTypes.toList)) = true := by kernel_rfl
theorem andT {a b : Bool} (ha : a = true) (hb : b = true) : (a && b) = true := by rw [ha, hb]; rfl
theorem closed : joinedFacts Tryz.prog 7 Tryz.f7 Rows.vmThereSpec Rows.vmThereRow = true := (andT (andT (andT (andT (andT (andT (andT (andT (andT (andT (andT (andT (andT (andT (andT (andT (andT (andT (andT (andT (andT (andT (andT (andT (andT (andT (andT (andT (andT (andT (andT c_wf c_laid) c_rowed) c_read) c_tie) c_st1) c_st2) c_kn1) c_kn2) c_inp) c_unf) c_rcs) c_nam) c_maps) c_ifs) c_mo) c_lps) c_wk) c_vr) c_rt) c_io) c_lo) c_pk) c_sh) c_hrd) c_ent) c_lif) c_mk) c_knd) c_pin) c_vl) c_vf)
end Go.Proofs.YtnfoaablgldjcaaGreat
