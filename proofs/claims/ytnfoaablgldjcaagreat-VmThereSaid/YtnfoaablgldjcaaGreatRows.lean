/-
  No cell of these rows narrows 'for every input' (looked for: loops, veiled, ifaces, maps, wideKeys, modest, calm, conditions, laid).
  DERIVED. THE GIVEN ROWS OF THIS SEAT. 5 by the template 'for every input the law returns true; each argument reads behind the call as it read before'; 0 by the template 'total and deterministic' (their statements: YtnfoaablgldjcaaGreatTotals.lean).
  GIVEN WITH THE SEED: the statements are not yours to turn. If you find one false, say at which input.
  Laid BY PROGRAM, IN A SANDBOX (cutbox-rows.mjs): the forced cells as the released guide's own fill.sh prints them over the translation bc2036476441e8e6… (all of the seat's roots in one cut). By AI agents, Wed Nov 11 2026. No macro, syntax, notation, axiom, sorry.
-/
import Derived.Test.YtnfoaablgldjcaaGreatChecked
import GoSem.Claim
import GoSem.ClaimJoined
import GoSem.ClaimMapViews
import Derived.JoinedTies
import Derived.KernelRfl
namespace Go.Proofs.YtnfoaablgldjcaaGreat
/- THE CELL 'sum', in the pinned program and in every row, IS THE sha256 OF THE DUMP (.gsa) THAT YtnfoaablgldjcaaGreatProg.lean LOADS. Nothing in Lean hashes anything: it is a label: what it is worth is what the hold of that sum in a sandbox is worth. -/
noncomputable def Tryz.pinned : Pinned := { name := "ytnfoaablgldjcaagreat", sum := "bc2036476441e8e66efddf03868af76334d1dfc0be892a47d74412c8ec005311", checked := Tryz.checked }
namespace Rows
def none {H : Type} : Left H := { results := [], args := [] }

/-- 'quarrylaw19.VmPart': WHATEVER THE INPUT: true; the input reads as it did. -/
def vmPartSpec : ChangeSpec := { name := "vmPart", fn := fun _ => fun
  | [d] => { results := [.lit (.bool true)], args := [d] }
  | _ => none }
def vmPartRow : OpenClaim := { program := "ytnfoaablgldjcaagreat", sum := "bc2036476441e8e66efddf03868af76334d1dfc0be892a47d74412c8ec005311", func := "quarry/quarrylaw19.VmPart", spec := "vmPart", inPlace := ["math/bits.Sub64", "math/bits.Add64"], unfollowed := true, recurses := true, named := ["math/bits.divideError", "math/bits.overflowError"], plainKeys := false, apart := false }
def VmPartSaid : Prop := vmPartRow.holds Tryz.pinned (OpenSpec.ofChange vmPartSpec)

/-- ITS FALSE NEIGHBOUR: 'it returns false'. Refute it at one input. -/
def vmPartWrong : ChangeSpec := { name := "vmPart", fn := fun _ => fun
  | [d] => { results := [.lit (.bool false)], args := [d] }
  | _ => none }
def VmPartWrongFalsely : Prop := vmPartRow.holds Tryz.pinned (OpenSpec.ofChange vmPartWrong)

/-- 'quarrylaw19.VmGuards': WHATEVER THE INPUT: true; the input reads as it did. -/
def vmGuardsSpec : ChangeSpec := { name := "vmGuards", fn := fun _ => fun
  | [d] => { results := [.lit (.bool true)], args := [d] }
  | _ => none }
def vmGuardsRow : OpenClaim := { program := "ytnfoaablgldjcaagreat", sum := "bc2036476441e8e66efddf03868af76334d1dfc0be892a47d74412c8ec005311", func := "quarry/quarrylaw19.VmGuards", spec := "vmGuards", inPlace := ["math/bits.Sub64", "math/bits.Add64"], unfollowed := true, recurses := true, named := ["math/bits.divideError", "math/bits.overflowError"], plainKeys := false, apart := false }
def VmGuardsSaid : Prop := vmGuardsRow.holds Tryz.pinned (OpenSpec.ofChange vmGuardsSpec)

/-- ITS FALSE NEIGHBOUR: 'it returns false'. Refute it at one input. -/
def vmGuardsWrong : ChangeSpec := { name := "vmGuards", fn := fun _ => fun
  | [d] => { results := [.lit (.bool false)], args := [d] }
  | _ => none }
def VmGuardsWrongFalsely : Prop := vmGuardsRow.holds Tryz.pinned (OpenSpec.ofChange vmGuardsWrong)

/-- 'quarrylaw19.VmGives': WHATEVER THE INPUT: true; the input reads as it did. -/
def vmGivesSpec : ChangeSpec := { name := "vmGives", fn := fun _ => fun
  | [d] => { results := [.lit (.bool true)], args := [d] }
  | _ => none }
def vmGivesRow : OpenClaim := { program := "ytnfoaablgldjcaagreat", sum := "bc2036476441e8e66efddf03868af76334d1dfc0be892a47d74412c8ec005311", func := "quarry/quarrylaw19.VmGives", spec := "vmGives", inPlace := ["math/bits.Sub64", "math/bits.Add64"], unfollowed := true, recurses := true, named := ["math/bits.divideError", "math/bits.overflowError"], plainKeys := false, apart := false }
def VmGivesSaid : Prop := vmGivesRow.holds Tryz.pinned (OpenSpec.ofChange vmGivesSpec)

/-- ITS FALSE NEIGHBOUR: 'it returns false'. Refute it at one input. -/
def vmGivesWrong : ChangeSpec := { name := "vmGives", fn := fun _ => fun
  | [d] => { results := [.lit (.bool false)], args := [d] }
  | _ => none }
def VmGivesWrongFalsely : Prop := vmGivesRow.holds Tryz.pinned (OpenSpec.ofChange vmGivesWrong)

/-- 'quarrylaw19.VmGone': WHATEVER THE INPUT: true; the input reads as it did. -/
def vmGoneSpec : ChangeSpec := { name := "vmGone", fn := fun _ => fun
  | [d] => { results := [.lit (.bool true)], args := [d] }
  | _ => none }
def vmGoneRow : OpenClaim := { program := "ytnfoaablgldjcaagreat", sum := "bc2036476441e8e66efddf03868af76334d1dfc0be892a47d74412c8ec005311", func := "quarry/quarrylaw19.VmGone", spec := "vmGone", inPlace := ["math/bits.Sub64", "math/bits.Add64"], unfollowed := true, recurses := true, named := ["math/bits.divideError", "math/bits.overflowError"], plainKeys := false, apart := false }
def VmGoneSaid : Prop := vmGoneRow.holds Tryz.pinned (OpenSpec.ofChange vmGoneSpec)

/-- ITS FALSE NEIGHBOUR: 'it returns false'. Refute it at one input. -/
def vmGoneWrong : ChangeSpec := { name := "vmGone", fn := fun _ => fun
  | [d] => { results := [.lit (.bool false)], args := [d] }
  | _ => none }
def VmGoneWrongFalsely : Prop := vmGoneRow.holds Tryz.pinned (OpenSpec.ofChange vmGoneWrong)

/-- 'quarrylaw19.VmThere': WHATEVER THE INPUT: true; the input reads as it did. -/
def vmThereSpec : ChangeSpec := { name := "vmThere", fn := fun _ => fun
  | [d] => { results := [.lit (.bool true)], args := [d] }
  | _ => none }
def vmThereRow : OpenClaim := { program := "ytnfoaablgldjcaagreat", sum := "bc2036476441e8e66efddf03868af76334d1dfc0be892a47d74412c8ec005311", func := "quarry/quarrylaw19.VmThere", spec := "vmThere", inPlace := ["math/bits.Sub64", "math/bits.Add64"], unfollowed := true, recurses := true, named := ["math/bits.divideError", "math/bits.overflowError"], plainKeys := false, apart := false }
def VmThereSaid : Prop := vmThereRow.holds Tryz.pinned (OpenSpec.ofChange vmThereSpec)

/-- ITS FALSE NEIGHBOUR: 'it returns false'. Refute it at one input. -/
def vmThereWrong : ChangeSpec := { name := "vmThere", fn := fun _ => fun
  | [d] => { results := [.lit (.bool false)], args := [d] }
  | _ => none }
def VmThereWrongFalsely : Prop := vmThereRow.holds Tryz.pinned (OpenSpec.ofChange vmThereWrong)

/- THE SECOND FORM. 'bulk': how many values and letters a reading holds, each counted each time it is reached (what is shared counts as often as it is met; a slice's spare places count too). A statement '..UptoSaid' is the law's where the arguments, and the package variables that the reading takes, are together of bulk at most 1048576: NARROWER than '..Said'. Prove '..Said' where nothing that the law and all that it calls make is longer than what came in: it says more and counts as full. Else prove '..UptoSaid'. A law counts once. -/
mutual
def uptoBulk {H : Type} : DataW H → Nat
  | .lit (.string bytes) => bytes.length + 1
  | .lit _ => 1
  | .nil => 1
  | .ptr d => uptoBulk d + 1
  | .slice elems spare => uptoBulkAll elems + uptoBulkAll spare + 1
  | .agg parts => uptoBulkAll parts + 1
  | .iface _ d => uptoBulk d + 1
  | .map entries => uptoBulkEntries entries + 1
  | .held _ => 1
def uptoBulkAll {H : Type} : List (DataW H) → Nat
  | [] => 0
  | d :: r => uptoBulk d + uptoBulkAll r
def uptoBulkEntries {H : Type} : List (Lit × DataW H) → Nat
  | [] => 0
  | x :: r => uptoBulkEntry x + uptoBulkEntries r
def uptoBulkEntry {H : Type} : Lit × DataW H → Nat
  | (.string bytes, d) => bytes.length + uptoBulk d + 1
  | (_, d) => uptoBulk d + 1
 end
def uptoSmall : (H : Type) → List (DataW H) → Bool := fun _ ds => decide (uptoBulkAll ds ≤ 1048576)
def OpenSpec.upto (s : _root_.Go.ChangeSpec) : _root_.Go.OpenSpec := { _root_.Go.OpenSpec.ofChange s with cond := some uptoSmall }

/-- 'quarrylaw19.VmPart', WHERE WHAT IT READS IS OF BULK AT MOST 1048576: true; the input reads as it did. -/
def vmPartUptoRow : OpenClaim := { program := "ytnfoaablgldjcaagreat", sum := "bc2036476441e8e66efddf03868af76334d1dfc0be892a47d74412c8ec005311", func := "quarry/quarrylaw19.VmPart", spec := "vmPart", inPlace := ["math/bits.Sub64", "math/bits.Add64"], unfollowed := true, recurses := true, named := ["math/bits.divideError", "math/bits.overflowError"], plainKeys := false, apart := false, narrowed := true }
def VmPartUptoSaid : Prop := vmPartUptoRow.holds Tryz.pinned (OpenSpec.upto vmPartSpec)

/-- 'quarrylaw19.VmGuards', WHERE WHAT IT READS IS OF BULK AT MOST 1048576: true; the input reads as it did. -/
def vmGuardsUptoRow : OpenClaim := { program := "ytnfoaablgldjcaagreat", sum := "bc2036476441e8e66efddf03868af76334d1dfc0be892a47d74412c8ec005311", func := "quarry/quarrylaw19.VmGuards", spec := "vmGuards", inPlace := ["math/bits.Sub64", "math/bits.Add64"], unfollowed := true, recurses := true, named := ["math/bits.divideError", "math/bits.overflowError"], plainKeys := false, apart := false, narrowed := true }
def VmGuardsUptoSaid : Prop := vmGuardsUptoRow.holds Tryz.pinned (OpenSpec.upto vmGuardsSpec)

/-- 'quarrylaw19.VmGives', WHERE WHAT IT READS IS OF BULK AT MOST 1048576: true; the input reads as it did. -/
def vmGivesUptoRow : OpenClaim := { program := "ytnfoaablgldjcaagreat", sum := "bc2036476441e8e66efddf03868af76334d1dfc0be892a47d74412c8ec005311", func := "quarry/quarrylaw19.VmGives", spec := "vmGives", inPlace := ["math/bits.Sub64", "math/bits.Add64"], unfollowed := true, recurses := true, named := ["math/bits.divideError", "math/bits.overflowError"], plainKeys := false, apart := false, narrowed := true }
def VmGivesUptoSaid : Prop := vmGivesUptoRow.holds Tryz.pinned (OpenSpec.upto vmGivesSpec)

/-- 'quarrylaw19.VmGone', WHERE WHAT IT READS IS OF BULK AT MOST 1048576: true; the input reads as it did. -/
def vmGoneUptoRow : OpenClaim := { program := "ytnfoaablgldjcaagreat", sum := "bc2036476441e8e66efddf03868af76334d1dfc0be892a47d74412c8ec005311", func := "quarry/quarrylaw19.VmGone", spec := "vmGone", inPlace := ["math/bits.Sub64", "math/bits.Add64"], unfollowed := true, recurses := true, named := ["math/bits.divideError", "math/bits.overflowError"], plainKeys := false, apart := false, narrowed := true }
def VmGoneUptoSaid : Prop := vmGoneUptoRow.holds Tryz.pinned (OpenSpec.upto vmGoneSpec)

/-- 'quarrylaw19.VmThere', WHERE WHAT IT READS IS OF BULK AT MOST 1048576: true; the input reads as it did. -/
def vmThereUptoRow : OpenClaim := { program := "ytnfoaablgldjcaagreat", sum := "bc2036476441e8e66efddf03868af76334d1dfc0be892a47d74412c8ec005311", func := "quarry/quarrylaw19.VmThere", spec := "vmThere", inPlace := ["math/bits.Sub64", "math/bits.Add64"], unfollowed := true, recurses := true, named := ["math/bits.divideError", "math/bits.overflowError"], plainKeys := false, apart := false, narrowed := true }
def VmThereUptoSaid : Prop := vmThereUptoRow.holds Tryz.pinned (OpenSpec.upto vmThereSpec)

end Rows
end Go.Proofs.YtnfoaablgldjcaaGreat
