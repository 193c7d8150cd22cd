/-
  No cell of these rows narrows 'for every input' (looked for: loops, veiled, ifaces, maps, wideKeys, modest, calm, conditions, laid).
  DERIVED. THE GIVEN ROWS OF THIS SEAT. 6 by the template 'for every input the law returns true; each argument reads behind the call as it read before'; 0 by the template 'total and deterministic' (their statements: YtmnokoepimhelaaTotals.lean).
  GIVEN WITH THE SEED: the statements are not yours to turn. If you find one false, say at which input.
  Laid BY PROGRAM, IN A SANDBOX (cutbox-rows.mjs): the forced cells as the released guide's own fill.sh prints them over the translation 2f59303f2ecb1767… (all of the seat's roots in one cut). By AI agents, Wed Nov 11 2026. No macro, syntax, notation, axiom, sorry.
-/
import Derived.Test.YtmnokoepimhelaaChecked
import GoSem.Claim
import GoSem.ClaimJoined
import GoSem.ClaimMapViews
import Derived.JoinedTies
import Derived.KernelRfl
namespace Go.Proofs.Ytmnokoepimhelaa
/- THE CELL 'sum', in the pinned program and in every row, IS THE sha256 OF THE DUMP (.gsa) THAT YtmnokoepimhelaaProg.lean LOADS. Nothing in Lean hashes anything: it is a label: what it is worth is what the hold of that sum in a sandbox is worth. -/
noncomputable def Try.pinned : Pinned := { name := "ytmnokoepimhelaa", sum := "2f59303f2ecb176778cf85bbdc6ea1c40f27593d6e16a03c686625e8b3ea2fc7", checked := Try.checked }
namespace Rows
def none {H : Type} : Left H := { results := [], args := [] }

/-- 'orangerylaw05.MsgAll': WHATEVER THE INPUT: true; the input reads as it did. -/
def msgAllSpec : ChangeSpec := { name := "msgAll", fn := fun _ => fun
  | [d1, d2, d3, d4] => { results := [.lit (.bool true)], args := [d1, d2, d3, d4] }
  | _ => none }
def msgAllRow : OpenClaim := { program := "ytmnokoepimhelaa", sum := "2f59303f2ecb176778cf85bbdc6ea1c40f27593d6e16a03c686625e8b3ea2fc7", func := "orangery/orangerylaw05.MsgAll", spec := "msgAll", apart := false }
def MsgAllSaid : Prop := msgAllRow.holds Try.pinned (OpenSpec.ofChange msgAllSpec)

/-- ITS FALSE NEIGHBOUR: 'it returns false'. Refute it at one input. -/
def msgAllWrong : ChangeSpec := { name := "msgAll", fn := fun _ => fun
  | [d1, d2, d3, d4] => { results := [.lit (.bool false)], args := [d1, d2, d3, d4] }
  | _ => none }
def MsgAllWrongFalsely : Prop := msgAllRow.holds Try.pinned (OpenSpec.ofChange msgAllWrong)

/-- 'orangerylaw05.MsgTwice': WHATEVER THE INPUT: true; the input reads as it did. -/
def msgTwiceSpec : ChangeSpec := { name := "msgTwice", fn := fun _ => fun
  | [d1, d2, d3, d4] => { results := [.lit (.bool true)], args := [d1, d2, d3, d4] }
  | _ => none }
def msgTwiceRow : OpenClaim := { program := "ytmnokoepimhelaa", sum := "2f59303f2ecb176778cf85bbdc6ea1c40f27593d6e16a03c686625e8b3ea2fc7", func := "orangery/orangerylaw05.MsgTwice", spec := "msgTwice", apart := false }
def MsgTwiceSaid : Prop := msgTwiceRow.holds Try.pinned (OpenSpec.ofChange msgTwiceSpec)

/-- ITS FALSE NEIGHBOUR: 'it returns false'. Refute it at one input. -/
def msgTwiceWrong : ChangeSpec := { name := "msgTwice", fn := fun _ => fun
  | [d1, d2, d3, d4] => { results := [.lit (.bool false)], args := [d1, d2, d3, d4] }
  | _ => none }
def MsgTwiceWrongFalsely : Prop := msgTwiceRow.holds Try.pinned (OpenSpec.ofChange msgTwiceWrong)

/-- 'orangerylaw05.MsgThree': WHATEVER THE INPUT: true; the input reads as it did. -/
def msgThreeSpec : ChangeSpec := { name := "msgThree", fn := fun _ => fun
  | [d1, d2, d3] => { results := [.lit (.bool true)], args := [d1, d2, d3] }
  | _ => none }
def msgThreeRow : OpenClaim := { program := "ytmnokoepimhelaa", sum := "2f59303f2ecb176778cf85bbdc6ea1c40f27593d6e16a03c686625e8b3ea2fc7", func := "orangery/orangerylaw05.MsgThree", spec := "msgThree", apart := false }
def MsgThreeSaid : Prop := msgThreeRow.holds Try.pinned (OpenSpec.ofChange msgThreeSpec)

/-- ITS FALSE NEIGHBOUR: 'it returns false'. Refute it at one input. -/
def msgThreeWrong : ChangeSpec := { name := "msgThree", fn := fun _ => fun
  | [d1, d2, d3] => { results := [.lit (.bool false)], args := [d1, d2, d3] }
  | _ => none }
def MsgThreeWrongFalsely : Prop := msgThreeRow.holds Try.pinned (OpenSpec.ofChange msgThreeWrong)

/-- 'orangerylaw05.MsgOver': WHATEVER THE INPUT: true; the input reads as it did. -/
def msgOverSpec : ChangeSpec := { name := "msgOver", fn := fun _ => fun
  | [d1, d2, d3] => { results := [.lit (.bool true)], args := [d1, d2, d3] }
  | _ => none }
def msgOverRow : OpenClaim := { program := "ytmnokoepimhelaa", sum := "2f59303f2ecb176778cf85bbdc6ea1c40f27593d6e16a03c686625e8b3ea2fc7", func := "orangery/orangerylaw05.MsgOver", spec := "msgOver", apart := false }
def MsgOverSaid : Prop := msgOverRow.holds Try.pinned (OpenSpec.ofChange msgOverSpec)

/-- ITS FALSE NEIGHBOUR: 'it returns false'. Refute it at one input. -/
def msgOverWrong : ChangeSpec := { name := "msgOver", fn := fun _ => fun
  | [d1, d2, d3] => { results := [.lit (.bool false)], args := [d1, d2, d3] }
  | _ => none }
def MsgOverWrongFalsely : Prop := msgOverRow.holds Try.pinned (OpenSpec.ofChange msgOverWrong)

/-- 'orangerylaw05.MsgAdds': WHATEVER THE INPUT: true; the input reads as it did. -/
def msgAddsSpec : ChangeSpec := { name := "msgAdds", fn := fun _ => fun
  | [d1, d2] => { results := [.lit (.bool true)], args := [d1, d2] }
  | _ => none }
def msgAddsRow : OpenClaim := { program := "ytmnokoepimhelaa", sum := "2f59303f2ecb176778cf85bbdc6ea1c40f27593d6e16a03c686625e8b3ea2fc7", func := "orangery/orangerylaw05.MsgAdds", spec := "msgAdds", apart := false }
def MsgAddsSaid : Prop := msgAddsRow.holds Try.pinned (OpenSpec.ofChange msgAddsSpec)

/-- ITS FALSE NEIGHBOUR: 'it returns false'. Refute it at one input. -/
def msgAddsWrong : ChangeSpec := { name := "msgAdds", fn := fun _ => fun
  | [d1, d2] => { results := [.lit (.bool false)], args := [d1, d2] }
  | _ => none }
def MsgAddsWrongFalsely : Prop := msgAddsRow.holds Try.pinned (OpenSpec.ofChange msgAddsWrong)

/-- 'orangerylaw05.MsgSizes': WHATEVER THE INPUT: true; the input reads as it did. -/
def msgSizesSpec : ChangeSpec := { name := "msgSizes", fn := fun _ => fun
  | [d1, d2] => { results := [.lit (.bool true)], args := [d1, d2] }
  | _ => none }
def msgSizesRow : OpenClaim := { program := "ytmnokoepimhelaa", sum := "2f59303f2ecb176778cf85bbdc6ea1c40f27593d6e16a03c686625e8b3ea2fc7", func := "orangery/orangerylaw05.MsgSizes", spec := "msgSizes", apart := false }
def MsgSizesSaid : Prop := msgSizesRow.holds Try.pinned (OpenSpec.ofChange msgSizesSpec)

/-- ITS FALSE NEIGHBOUR: 'it returns false'. Refute it at one input. -/
def msgSizesWrong : ChangeSpec := { name := "msgSizes", fn := fun _ => fun
  | [d1, d2] => { results := [.lit (.bool false)], args := [d1, d2] }
  | _ => none }
def MsgSizesWrongFalsely : Prop := msgSizesRow.holds Try.pinned (OpenSpec.ofChange msgSizesWrong)

/- THE SECOND FORM. 'bulk': how many values and letters a reading holds, each counted each time it is reached (what is shared counts as often as it is met; a slice's spare places count too). A statement '..UptoSaid' is the law's where the arguments, and the package variables that the reading takes, are together of bulk at most 1048576: NARROWER than '..Said'. Prove '..Said' where nothing that the law and all that it calls make is longer than what came in: it says more and counts as full. Else prove '..UptoSaid'. A law counts once. -/
mutual
def uptoBulk {H : Type} : DataW H → Nat
  | .lit (.string bytes) => bytes.length + 1
  | .lit _ => 1
  | .nil => 1
  | .ptr d => uptoBulk d + 1
  | .slice elems spare => uptoBulkAll elems + uptoBulkAll spare + 1
  | .agg parts => uptoBulkAll parts + 1
  | .iface _ d => uptoBulk d + 1
  | .map entries => uptoBulkEntries entries + 1
  | .held _ => 1
def uptoBulkAll {H : Type} : List (DataW H) → Nat
  | [] => 0
  | d :: r => uptoBulk d + uptoBulkAll r
def uptoBulkEntries {H : Type} : List (Lit × DataW H) → Nat
  | [] => 0
  | x :: r => uptoBulkEntry x + uptoBulkEntries r
def uptoBulkEntry {H : Type} : Lit × DataW H → Nat
  | (.string bytes, d) => bytes.length + uptoBulk d + 1
  | (_, d) => uptoBulk d + 1
 end
def uptoSmall : (H : Type) → List (DataW H) → Bool := fun _ ds => decide (uptoBulkAll ds ≤ 1048576)
def OpenSpec.upto (s : _root_.Go.ChangeSpec) : _root_.Go.OpenSpec := { _root_.Go.OpenSpec.ofChange s with cond := some uptoSmall }

/-- 'orangerylaw05.MsgAll', WHERE WHAT IT READS IS OF BULK AT MOST 1048576: true; the input reads as it did. -/
def msgAllUptoRow : OpenClaim := { program := "ytmnokoepimhelaa", sum := "2f59303f2ecb176778cf85bbdc6ea1c40f27593d6e16a03c686625e8b3ea2fc7", func := "orangery/orangerylaw05.MsgAll", spec := "msgAll", apart := false, narrowed := true }
def MsgAllUptoSaid : Prop := msgAllUptoRow.holds Try.pinned (OpenSpec.upto msgAllSpec)

/-- 'orangerylaw05.MsgTwice', WHERE WHAT IT READS IS OF BULK AT MOST 1048576: true; the input reads as it did. -/
def msgTwiceUptoRow : OpenClaim := { program := "ytmnokoepimhelaa", sum := "2f59303f2ecb176778cf85bbdc6ea1c40f27593d6e16a03c686625e8b3ea2fc7", func := "orangery/orangerylaw05.MsgTwice", spec := "msgTwice", apart := false, narrowed := true }
def MsgTwiceUptoSaid : Prop := msgTwiceUptoRow.holds Try.pinned (OpenSpec.upto msgTwiceSpec)

/-- 'orangerylaw05.MsgThree', WHERE WHAT IT READS IS OF BULK AT MOST 1048576: true; the input reads as it did. -/
def msgThreeUptoRow : OpenClaim := { program := "ytmnokoepimhelaa", sum := "2f59303f2ecb176778cf85bbdc6ea1c40f27593d6e16a03c686625e8b3ea2fc7", func := "orangery/orangerylaw05.MsgThree", spec := "msgThree", apart := false, narrowed := true }
def MsgThreeUptoSaid : Prop := msgThreeUptoRow.holds Try.pinned (OpenSpec.upto msgThreeSpec)

/-- 'orangerylaw05.MsgOver', WHERE WHAT IT READS IS OF BULK AT MOST 1048576: true; the input reads as it did. -/
def msgOverUptoRow : OpenClaim := { program := "ytmnokoepimhelaa", sum := "2f59303f2ecb176778cf85bbdc6ea1c40f27593d6e16a03c686625e8b3ea2fc7", func := "orangery/orangerylaw05.MsgOver", spec := "msgOver", apart := false, narrowed := true }
def MsgOverUptoSaid : Prop := msgOverUptoRow.holds Try.pinned (OpenSpec.upto msgOverSpec)

/-- 'orangerylaw05.MsgAdds', WHERE WHAT IT READS IS OF BULK AT MOST 1048576: true; the input reads as it did. -/
def msgAddsUptoRow : OpenClaim := { program := "ytmnokoepimhelaa", sum := "2f59303f2ecb176778cf85bbdc6ea1c40f27593d6e16a03c686625e8b3ea2fc7", func := "orangery/orangerylaw05.MsgAdds", spec := "msgAdds", apart := false, narrowed := true }
def MsgAddsUptoSaid : Prop := msgAddsUptoRow.holds Try.pinned (OpenSpec.upto msgAddsSpec)

/-- 'orangerylaw05.MsgSizes', WHERE WHAT IT READS IS OF BULK AT MOST 1048576: true; the input reads as it did. -/
def msgSizesUptoRow : OpenClaim := { program := "ytmnokoepimhelaa", sum := "2f59303f2ecb176778cf85bbdc6ea1c40f27593d6e16a03c686625e8b3ea2fc7", func := "orangery/orangerylaw05.MsgSizes", spec := "msgSizes", apart := false, narrowed := true }
def MsgSizesUptoSaid : Prop := msgSizesUptoRow.holds Try.pinned (OpenSpec.upto msgSizesSpec)

end Rows
end Go.Proofs.Ytmnokoepimhelaa
