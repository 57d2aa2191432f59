/-
  No cell of these rows narrows 'for every input' (looked for: loops, veiled, ifaces, maps, wideKeys, modest, calm, conditions, laid).
  DERIVED. THE GIVEN ROWS OF THIS SEAT. 7 by the template 'for every input the law returns true; each argument reads behind the call as it read before'; 0 by the template 'total and deterministic' (their statements: YtcpeflfonacdgaaGreatTotals.lean).
  GIVEN WITH THE SEED: the statements are not yours to turn. If you find one false, say at which input.
  Laid BY PROGRAM, IN A SANDBOX (cutbox-rows.mjs): the forced cells as the released guide's own fill.sh prints them over the translation c98d3097d3e47cab… (all of the seat's roots in one cut). By AI agents, Wed Nov 11 2026. No macro, syntax, notation, axiom, sorry.
-/
import Derived.Test.YtcpeflfonacdgaaGreatChecked
import GoSem.Claim
import GoSem.ClaimJoined
import GoSem.ClaimMapViews
import Derived.JoinedTies
import Derived.KernelRfl
namespace Go.Proofs.YtcpeflfonacdgaaGreat
/- THE CELL 'sum', in the pinned program and in every row, IS THE sha256 OF THE DUMP (.gsa) THAT YtcpeflfonacdgaaGreatProg.lean LOADS. Nothing in Lean hashes anything: it is a label: what it is worth is what the hold of that sum in a sandbox is worth. -/
noncomputable def Tryz.pinned : Pinned := { name := "ytcpeflfonacdgaagreat", sum := "c98d3097d3e47cab63d84e4e2cc949d08c2949b4491432b24226b5c11eb17308", checked := Tryz.checked }
namespace Rows
def none {H : Type} : Left H := { results := [], args := [] }

/-- 'quarrylaw19.VmSend': WHATEVER THE INPUT: true; the input reads as it did. -/
def vmSendSpec : ChangeSpec := { name := "vmSend", fn := fun _ => fun
  | [d] => { results := [.lit (.bool true)], args := [d] }
  | _ => none }
def vmSendRow : OpenClaim := { program := "ytcpeflfonacdgaagreat", sum := "c98d3097d3e47cab63d84e4e2cc949d08c2949b4491432b24226b5c11eb17308", func := "quarry/quarrylaw19.VmSend", spec := "vmSend", inPlace := ["math/bits.Sub64", "math/bits.Add64"], unfollowed := true, recurses := true, named := ["math/bits.divideError", "math/bits.overflowError"], plainKeys := false, apart := false }
def VmSendSaid : Prop := vmSendRow.holds Tryz.pinned (OpenSpec.ofChange vmSendSpec)

/-- ITS FALSE NEIGHBOUR: 'it returns false'. Refute it at one input. -/
def vmSendWrong : ChangeSpec := { name := "vmSend", fn := fun _ => fun
  | [d] => { results := [.lit (.bool false)], args := [d] }
  | _ => none }
def VmSendWrongFalsely : Prop := vmSendRow.holds Tryz.pinned (OpenSpec.ofChange vmSendWrong)

/-- 'quarrylaw19.VmPart': WHATEVER THE INPUT: true; the input reads as it did. -/
def vmPartSpec : ChangeSpec := { name := "vmPart", fn := fun _ => fun
  | [d] => { results := [.lit (.bool true)], args := [d] }
  | _ => none }
def vmPartRow : OpenClaim := { program := "ytcpeflfonacdgaagreat", sum := "c98d3097d3e47cab63d84e4e2cc949d08c2949b4491432b24226b5c11eb17308", func := "quarry/quarrylaw19.VmPart", spec := "vmPart", inPlace := ["math/bits.Sub64", "math/bits.Add64"], unfollowed := true, recurses := true, named := ["math/bits.divideError", "math/bits.overflowError"], plainKeys := false, apart := false }
def VmPartSaid : Prop := vmPartRow.holds Tryz.pinned (OpenSpec.ofChange vmPartSpec)

/-- ITS FALSE NEIGHBOUR: 'it returns false'. Refute it at one input. -/
def vmPartWrong : ChangeSpec := { name := "vmPart", fn := fun _ => fun
  | [d] => { results := [.lit (.bool false)], args := [d] }
  | _ => none }
def VmPartWrongFalsely : Prop := vmPartRow.holds Tryz.pinned (OpenSpec.ofChange vmPartWrong)

/-- 'quarrylaw19.VmTransient': WHATEVER THE INPUT: true; the input reads as it did. -/
def vmTransientSpec : ChangeSpec := { name := "vmTransient", fn := fun _ => fun
  | [d] => { results := [.lit (.bool true)], args := [d] }
  | _ => none }
def vmTransientRow : OpenClaim := { program := "ytcpeflfonacdgaagreat", sum := "c98d3097d3e47cab63d84e4e2cc949d08c2949b4491432b24226b5c11eb17308", func := "quarry/quarrylaw19.VmTransient", spec := "vmTransient", inPlace := ["math/bits.Sub64", "math/bits.Add64"], unfollowed := true, recurses := true, named := ["math/bits.divideError", "math/bits.overflowError"], plainKeys := false, apart := false }
def VmTransientSaid : Prop := vmTransientRow.holds Tryz.pinned (OpenSpec.ofChange vmTransientSpec)

/-- ITS FALSE NEIGHBOUR: 'it returns false'. Refute it at one input. -/
def vmTransientWrong : ChangeSpec := { name := "vmTransient", fn := fun _ => fun
  | [d] => { results := [.lit (.bool false)], args := [d] }
  | _ => none }
def VmTransientWrongFalsely : Prop := vmTransientRow.holds Tryz.pinned (OpenSpec.ofChange vmTransientWrong)

/-- 'quarrylaw19.VmReverts': WHATEVER THE INPUT: true; the input reads as it did. -/
def vmRevertsSpec : ChangeSpec := { name := "vmReverts", fn := fun _ => fun
  | [d] => { results := [.lit (.bool true)], args := [d] }
  | _ => none }
def vmRevertsRow : OpenClaim := { program := "ytcpeflfonacdgaagreat", sum := "c98d3097d3e47cab63d84e4e2cc949d08c2949b4491432b24226b5c11eb17308", func := "quarry/quarrylaw19.VmReverts", spec := "vmReverts", inPlace := ["math/bits.Sub64", "math/bits.Add64"], unfollowed := true, recurses := true, named := ["math/bits.divideError", "math/bits.overflowError"], plainKeys := false, apart := false }
def VmRevertsSaid : Prop := vmRevertsRow.holds Tryz.pinned (OpenSpec.ofChange vmRevertsSpec)

/-- ITS FALSE NEIGHBOUR: 'it returns false'. Refute it at one input. -/
def vmRevertsWrong : ChangeSpec := { name := "vmReverts", fn := fun _ => fun
  | [d] => { results := [.lit (.bool false)], args := [d] }
  | _ => none }
def VmRevertsWrongFalsely : Prop := vmRevertsRow.holds Tryz.pinned (OpenSpec.ofChange vmRevertsWrong)

/-- 'quarrylaw19.VmGives': WHATEVER THE INPUT: true; the input reads as it did. -/
def vmGivesSpec : ChangeSpec := { name := "vmGives", fn := fun _ => fun
  | [d] => { results := [.lit (.bool true)], args := [d] }
  | _ => none }
def vmGivesRow : OpenClaim := { program := "ytcpeflfonacdgaagreat", sum := "c98d3097d3e47cab63d84e4e2cc949d08c2949b4491432b24226b5c11eb17308", func := "quarry/quarrylaw19.VmGives", spec := "vmGives", inPlace := ["math/bits.Sub64", "math/bits.Add64"], unfollowed := true, recurses := true, named := ["math/bits.divideError", "math/bits.overflowError"], plainKeys := false, apart := false }
def VmGivesSaid : Prop := vmGivesRow.holds Tryz.pinned (OpenSpec.ofChange vmGivesSpec)

/-- ITS FALSE NEIGHBOUR: 'it returns false'. Refute it at one input. -/
def vmGivesWrong : ChangeSpec := { name := "vmGives", fn := fun _ => fun
  | [d] => { results := [.lit (.bool false)], args := [d] }
  | _ => none }
def VmGivesWrongFalsely : Prop := vmGivesRow.holds Tryz.pinned (OpenSpec.ofChange vmGivesWrong)

/-- 'quarrylaw19.VmGuards': WHATEVER THE INPUT: true; the input reads as it did. -/
def vmGuardsSpec : ChangeSpec := { name := "vmGuards", fn := fun _ => fun
  | [d] => { results := [.lit (.bool true)], args := [d] }
  | _ => none }
def vmGuardsRow : OpenClaim := { program := "ytcpeflfonacdgaagreat", sum := "c98d3097d3e47cab63d84e4e2cc949d08c2949b4491432b24226b5c11eb17308", func := "quarry/quarrylaw19.VmGuards", spec := "vmGuards", inPlace := ["math/bits.Sub64", "math/bits.Add64"], unfollowed := true, recurses := true, named := ["math/bits.divideError", "math/bits.overflowError"], plainKeys := false, apart := false }
def VmGuardsSaid : Prop := vmGuardsRow.holds Tryz.pinned (OpenSpec.ofChange vmGuardsSpec)

/-- ITS FALSE NEIGHBOUR: 'it returns false'. Refute it at one input. -/
def vmGuardsWrong : ChangeSpec := { name := "vmGuards", fn := fun _ => fun
  | [d] => { results := [.lit (.bool false)], args := [d] }
  | _ => none }
def VmGuardsWrongFalsely : Prop := vmGuardsRow.holds Tryz.pinned (OpenSpec.ofChange vmGuardsWrong)

/-- 'quarrylaw19.VmGone': WHATEVER THE INPUT: true; the input reads as it did. -/
def vmGoneSpec : ChangeSpec := { name := "vmGone", fn := fun _ => fun
  | [d] => { results := [.lit (.bool true)], args := [d] }
  | _ => none }
def vmGoneRow : OpenClaim := { program := "ytcpeflfonacdgaagreat", sum := "c98d3097d3e47cab63d84e4e2cc949d08c2949b4491432b24226b5c11eb17308", func := "quarry/quarrylaw19.VmGone", spec := "vmGone", inPlace := ["math/bits.Sub64", "math/bits.Add64"], unfollowed := true, recurses := true, named := ["math/bits.divideError", "math/bits.overflowError"], plainKeys := false, apart := false }
def VmGoneSaid : Prop := vmGoneRow.holds Tryz.pinned (OpenSpec.ofChange vmGoneSpec)

/-- ITS FALSE NEIGHBOUR: 'it returns false'. Refute it at one input. -/
def vmGoneWrong : ChangeSpec := { name := "vmGone", fn := fun _ => fun
  | [d] => { results := [.lit (.bool false)], args := [d] }
  | _ => none }
def VmGoneWrongFalsely : Prop := vmGoneRow.holds Tryz.pinned (OpenSpec.ofChange vmGoneWrong)

/- THE SECOND FORM. 'bulk': how many values and letters a reading holds, each counted each time it is reached (what is shared counts as often as it is met; a slice's spare places count too). A statement '..UptoSaid' is the law's where the arguments, and the package variables that the reading takes, are together of bulk at most 1048576: NARROWER than '..Said'. Prove '..Said' where nothing that the law and all that it calls make is longer than what came in: it says more and counts as full. Else prove '..UptoSaid'. A law counts once. -/
mutual
def uptoBulk {H : Type} : DataW H → Nat
  | .lit (.string bytes) => bytes.length + 1
  | .lit _ => 1
  | .nil => 1
  | .ptr d => uptoBulk d + 1
  | .slice elems spare => uptoBulkAll elems + uptoBulkAll spare + 1
  | .agg parts => uptoBulkAll parts + 1
  | .iface _ d => uptoBulk d + 1
  | .map entries => uptoBulkEntries entries + 1
  | .held _ => 1
def uptoBulkAll {H : Type} : List (DataW H) → Nat
  | [] => 0
  | d :: r => uptoBulk d + uptoBulkAll r
def uptoBulkEntries {H : Type} : List (Lit × DataW H) → Nat
  | [] => 0
  | x :: r => uptoBulkEntry x + uptoBulkEntries r
def uptoBulkEntry {H : Type} : Lit × DataW H → Nat
  | (.string bytes, d) => bytes.length + uptoBulk d + 1
  | (_, d) => uptoBulk d + 1
 end
def uptoSmall : (H : Type) → List (DataW H) → Bool := fun _ ds => decide (uptoBulkAll ds ≤ 1048576)
def OpenSpec.upto (s : _root_.Go.ChangeSpec) : _root_.Go.OpenSpec := { _root_.Go.OpenSpec.ofChange s with cond := some uptoSmall }

/-- 'quarrylaw19.VmSend', WHERE WHAT IT READS IS OF BULK AT MOST 1048576: true; the input reads as it did. -/
def vmSendUptoRow : OpenClaim := { program := "ytcpeflfonacdgaagreat", sum := "c98d3097d3e47cab63d84e4e2cc949d08c2949b4491432b24226b5c11eb17308", func := "quarry/quarrylaw19.VmSend", spec := "vmSend", inPlace := ["math/bits.Sub64", "math/bits.Add64"], unfollowed := true, recurses := true, named := ["math/bits.divideError", "math/bits.overflowError"], plainKeys := false, apart := false, narrowed := true }
def VmSendUptoSaid : Prop := vmSendUptoRow.holds Tryz.pinned (OpenSpec.upto vmSendSpec)

/-- 'quarrylaw19.VmPart', WHERE WHAT IT READS IS OF BULK AT MOST 1048576: true; the input reads as it did. -/
def vmPartUptoRow : OpenClaim := { program := "ytcpeflfonacdgaagreat", sum := "c98d3097d3e47cab63d84e4e2cc949d08c2949b4491432b24226b5c11eb17308", func := "quarry/quarrylaw19.VmPart", spec := "vmPart", inPlace := ["math/bits.Sub64", "math/bits.Add64"], unfollowed := true, recurses := true, named := ["math/bits.divideError", "math/bits.overflowError"], plainKeys := false, apart := false, narrowed := true }
def VmPartUptoSaid : Prop := vmPartUptoRow.holds Tryz.pinned (OpenSpec.upto vmPartSpec)

/-- 'quarrylaw19.VmTransient', WHERE WHAT IT READS IS OF BULK AT MOST 1048576: true; the input reads as it did. -/
def vmTransientUptoRow : OpenClaim := { program := "ytcpeflfonacdgaagreat", sum := "c98d3097d3e47cab63d84e4e2cc949d08c2949b4491432b24226b5c11eb17308", func := "quarry/quarrylaw19.VmTransient", spec := "vmTransient", inPlace := ["math/bits.Sub64", "math/bits.Add64"], unfollowed := true, recurses := true, named := ["math/bits.divideError", "math/bits.overflowError"], plainKeys := false, apart := false, narrowed := true }
def VmTransientUptoSaid : Prop := vmTransientUptoRow.holds Tryz.pinned (OpenSpec.upto vmTransientSpec)

/-- 'quarrylaw19.VmReverts', WHERE WHAT IT READS IS OF BULK AT MOST 1048576: true; the input reads as it did. -/
def vmRevertsUptoRow : OpenClaim := { program := "ytcpeflfonacdgaagreat", sum := "c98d3097d3e47cab63d84e4e2cc949d08c2949b4491432b24226b5c11eb17308", func := "quarry/quarrylaw19.VmReverts", spec := "vmReverts", inPlace := ["math/bits.Sub64", "math/bits.Add64"], unfollowed := true, recurses := true, named := ["math/bits.divideError", "math/bits.overflowError"], plainKeys := false, apart := false, narrowed := true }
def VmRevertsUptoSaid : Prop := vmRevertsUptoRow.holds Tryz.pinned (OpenSpec.upto vmRevertsSpec)

/-- 'quarrylaw19.VmGives', WHERE WHAT IT READS IS OF BULK AT MOST 1048576: true; the input reads as it did. -/
def vmGivesUptoRow : OpenClaim := { program := "ytcpeflfonacdgaagreat", sum := "c98d3097d3e47cab63d84e4e2cc949d08c2949b4491432b24226b5c11eb17308", func := "quarry/quarrylaw19.VmGives", spec := "vmGives", inPlace := ["math/bits.Sub64", "math/bits.Add64"], unfollowed := true, recurses := true, named := ["math/bits.divideError", "math/bits.overflowError"], plainKeys := false, apart := false, narrowed := true }
def VmGivesUptoSaid : Prop := vmGivesUptoRow.holds Tryz.pinned (OpenSpec.upto vmGivesSpec)

/-- 'quarrylaw19.VmGuards', WHERE WHAT IT READS IS OF BULK AT MOST 1048576: true; the input reads as it did. -/
def vmGuardsUptoRow : OpenClaim := { program := "ytcpeflfonacdgaagreat", sum := "c98d3097d3e47cab63d84e4e2cc949d08c2949b4491432b24226b5c11eb17308", func := "quarry/quarrylaw19.VmGuards", spec := "vmGuards", inPlace := ["math/bits.Sub64", "math/bits.Add64"], unfollowed := true, recurses := true, named := ["math/bits.divideError", "math/bits.overflowError"], plainKeys := false, apart := false, narrowed := true }
def VmGuardsUptoSaid : Prop := vmGuardsUptoRow.holds Tryz.pinned (OpenSpec.upto vmGuardsSpec)

/-- 'quarrylaw19.VmGone', WHERE WHAT IT READS IS OF BULK AT MOST 1048576: true; the input reads as it did. -/
def vmGoneUptoRow : OpenClaim := { program := "ytcpeflfonacdgaagreat", sum := "c98d3097d3e47cab63d84e4e2cc949d08c2949b4491432b24226b5c11eb17308", func := "quarry/quarrylaw19.VmGone", spec := "vmGone", inPlace := ["math/bits.Sub64", "math/bits.Add64"], unfollowed := true, recurses := true, named := ["math/bits.divideError", "math/bits.overflowError"], plainKeys := false, apart := false, narrowed := true }
def VmGoneUptoSaid : Prop := vmGoneUptoRow.holds Tryz.pinned (OpenSpec.upto vmGoneSpec)

end Rows
end Go.Proofs.YtcpeflfonacdgaaGreat
