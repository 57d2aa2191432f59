/- Closed facts of the row. -/
import Derived.Test.YtnfoaablgldjcaaGreatGVmGoneC0
import Derived.Test.YtnfoaablgldjcaaGreatGVmGoneC1
import Derived.Test.YtnfoaablgldjcaaGreatGVmGoneC2
import Derived.Test.YtnfoaablgldjcaaGreatRows
import Derived.ProofKit
namespace Go.Proofs.YtnfoaablgldjcaaGreat
open Go
set_option maxRecDepth 100000
theorem c_wf : (Rows.vmGoneRow.wf (OpenSpec.ofChange Rows.vmGoneSpec)) = true := by kernel_rfl
theorem c_read : (Tryz.f6.params.all (Tryz.prog.readableRec ·)) = true := by kernel_rfl
theorem c_tie : (namedTie Tryz.prog Rows.vmGoneRow.named Rows.vmGoneSpec.vars) = true := by kernel_rfl
theorem c_st1 : (Rows.vmGoneRow.stops == []) = true := by kernel_rfl
theorem c_st2 : (Tryz.prog.stops == []) = true := by kernel_rfl
theorem c_kn1 : (Rows.vmGoneRow.knobs == []) = true := by kernel_rfl
theorem c_kn2 : (Tryz.prog.stopKnobs == []) = true := by kernel_rfl
theorem c_maps : (Rows.vmGoneRow.maps == (Tryz.f6.params.toList ++ Rows.vmGoneSpec.plain.varTypes Tryz.prog).any (Tryz.prog.mapsRec ·)) = true := by kernel_rfl
theorem c_ifs : (Rows.vmGoneRow.ifaces == (Tryz.f6.params.toList ++ Rows.vmGoneSpec.plain.varTypes Tryz.prog).any (Tryz.prog.ifacesRec ·)) = true := by kernel_rfl
theorem c_mo : (Rows.vmGoneRow.mapsOut == Tryz.prog.mapsAmong Tryz.f6.resultTypes.toList) = true := by kernel_rfl
theorem c_lps : (Rows.vmGoneRow.loops == (Tryz.f6.params.toList ++ Rows.vmGoneSpec.plain.varTypes Tryz.prog).any (Tryz.prog.loopsFrom ·)) = true := by kernel_rfl
theorem c_wk : (Rows.vmGoneRow.wideKeys == (Tryz.f6.params.toList ++ Rows.vmGoneSpec.plain.varTypes Tryz.prog ++ Tryz.f6.resultTypes.toList).any (Tryz.prog.wideKeysFrom ·)) = true := by kernel_rfl
theorem c_vr : (Rows.vmGoneSpec.vars.all (Tryz.prog.varReadable ·)) = true := by kernel_rfl
theorem c_rt : (Tryz.f6.resultTypes.all (fun t => Tryz.prog.readableRec t && decide (t < Tryz.prog.types.size))) = true := by kernel_rfl
theorem c_io : (Rows.vmGoneRow.ifacesOut == Tryz.f6.resultTypes.toList.any (Tryz.prog.ifacesRec ·)) = true := by kernel_rfl
theorem c_lo : (Rows.vmGoneRow.loopsOut == Tryz.f6.resultTypes.toList.any (Tryz.prog.loopsFrom ·)) = true := by kernel_rfl
theorem c_pk : (Rows.vmGoneRow.plainKeys == Tryz.prog.plainKeys) = true := by kernel_rfl
theorem c_sh : (Rows.vmGoneRow.shortTexts.isNone) = true := by kernel_rfl
theorem c_hrd : (Tryz.prog.stopsHeard) = true := by kernel_rfl
theorem c_ent : (Tryz.prog.mayEnter) = true := by kernel_rfl
theorem c_lif : (Rows.vmGoneRow.lifted == Tryz.prog.liftsFinal) = true := by kernel_rfl
theorem c_mk : (Tryz.prog.make == some Rows.vmGoneRow.make) = true := by kernel_rfl
theorem c_knd : (Rows.vmGoneRow.kinds == (if Rows.vmGoneRow.domain.isEmpty then [] else Tryz.f6.params.toList.map fun t => match Tryz.prog.underlying t with | some (.int k) => some k | _ => none)) = true := by kernel_rfl
theorem c_pin : (Rows.vmGoneRow.pinned == Rows.vmGoneRow.pinnedBy) = true := by kernel_rfl
theorem c_vl : (Rows.vmGoneRow.veiled == (Tryz.f6.params.toList ++ Rows.vmGoneSpec.plain.varTypes Tryz.prog ++ Tryz.f6.resultTypes.toList).any (Tryz.prog.veiledRec ·)) = true := by kernel_rfl
theorem c_vf : (Rows.vmGoneRow.veiledFits Tryz.prog Tryz.f6.params.toList (Tryz.f6.params.toList ++ Rows.vmGoneSpec.plain.varTypes Tryz.prog ++ Tryz.f6.resultTypes.toList)) = true := by kernel_rfl
theorem andT {a b : Bool} (ha : a = true) (hb : b = true) : (a && b) = true := by rw [ha, hb]; rfl
theorem closed : joinedFacts Tryz.prog 6 Tryz.f6 Rows.vmGoneSpec Rows.vmGoneRow = true := (andT (andT (andT (andT (andT (andT (andT (andT (andT (andT (andT (andT (andT (andT (andT (andT (andT (andT (andT (andT (andT (andT (andT (andT (andT (andT (andT (andT (andT (andT (andT c_wf c_laid) c_rowed) c_read) c_tie) c_st1) c_st2) c_kn1) c_kn2) c_inp) c_unf) c_rcs) c_nam) c_maps) c_ifs) c_mo) c_lps) c_wk) c_vr) c_rt) c_io) c_lo) c_pk) c_sh) c_hrd) c_ent) c_lif) c_mk) c_knd) c_pin) c_vl) c_vf)
end Go.Proofs.YtnfoaablgldjcaaGreat
