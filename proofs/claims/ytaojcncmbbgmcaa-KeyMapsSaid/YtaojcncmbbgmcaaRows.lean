/-
  No cell of these rows narrows 'for every input' (looked for: loops, veiled, ifaces, maps, wideKeys, modest, calm, conditions, laid).
  DERIVED. THE GIVEN ROWS OF THIS SEAT. 7 by the template 'for every input the law returns true; each argument reads behind the call as it read before'; 0 by the template 'total and deterministic' (their statements: YtaojcncmbbgmcaaTotals.lean).
  GIVEN WITH THE SEED: the statements are not yours to turn. If you find one false, say at which input.
  Laid BY PROGRAM, IN A SANDBOX (cutbox-rows.mjs): the forced cells as the released guide's own fill.sh prints them over the translation 900aba61d7256b51… (all of the seat's roots in one cut). By AI agents, Wed Nov 11 2026. No macro, syntax, notation, axiom, sorry.
-/
import Derived.Test.YtaojcncmbbgmcaaChecked
import GoSem.Claim
import GoSem.ClaimJoined
import GoSem.ClaimMapViews
import Derived.JoinedTies
import Derived.KernelRfl
namespace Go.Proofs.Ytaojcncmbbgmcaa
/- THE CELL 'sum', in the pinned program and in every row, IS THE sha256 OF THE DUMP (.gsa) THAT YtaojcncmbbgmcaaProg.lean LOADS. Nothing in Lean hashes anything: it is a label: what it is worth is what the hold of that sum in a sandbox is worth. -/
noncomputable def Try.pinned : Pinned := { name := "ytaojcncmbbgmcaa", sum := "900aba61d7256b51232521afbcc2f0f3b7f2c602739f5d76875f4c5488b6de38", checked := Try.checked }
namespace Rows
def none {H : Type} : Left H := { results := [], args := [] }

/-- 'orangerylaw03.KeyAll': WHATEVER THE INPUT: true; the input reads as it did. -/
def keyAllSpec : ChangeSpec := { name := "keyAll", fn := fun _ => fun
  | [d1, d2, d3] => { results := [.lit (.bool true)], args := [d1, d2, d3] }
  | _ => none }
def keyAllRow : OpenClaim := { program := "ytaojcncmbbgmcaa", sum := "900aba61d7256b51232521afbcc2f0f3b7f2c602739f5d76875f4c5488b6de38", func := "orangery/orangerylaw03.KeyAll", spec := "keyAll", inPlace := ["internal/bytealg.abigen_runtime_cmpstring"], unfollowed := true, recurses := true, plainKeys := false, apart := false }
def KeyAllSaid : Prop := keyAllRow.holds Try.pinned (OpenSpec.ofChange keyAllSpec)

/-- ITS FALSE NEIGHBOUR: 'it returns false'. Refute it at one input. -/
def keyAllWrong : ChangeSpec := { name := "keyAll", fn := fun _ => fun
  | [d1, d2, d3] => { results := [.lit (.bool false)], args := [d1, d2, d3] }
  | _ => none }
def KeyAllWrongFalsely : Prop := keyAllRow.holds Try.pinned (OpenSpec.ofChange keyAllWrong)

/-- 'orangerylaw03.KeyTwo': WHATEVER THE INPUT: true; the input reads as it did. -/
def keyTwoSpec : ChangeSpec := { name := "keyTwo", fn := fun _ => fun
  | [d1, d2] => { results := [.lit (.bool true)], args := [d1, d2] }
  | _ => none }
def keyTwoRow : OpenClaim := { program := "ytaojcncmbbgmcaa", sum := "900aba61d7256b51232521afbcc2f0f3b7f2c602739f5d76875f4c5488b6de38", func := "orangery/orangerylaw03.KeyTwo", spec := "keyTwo", inPlace := ["internal/bytealg.abigen_runtime_cmpstring"], unfollowed := true, recurses := true, plainKeys := false, apart := false }
def KeyTwoSaid : Prop := keyTwoRow.holds Try.pinned (OpenSpec.ofChange keyTwoSpec)

/-- ITS FALSE NEIGHBOUR: 'it returns false'. Refute it at one input. -/
def keyTwoWrong : ChangeSpec := { name := "keyTwo", fn := fun _ => fun
  | [d1, d2] => { results := [.lit (.bool false)], args := [d1, d2] }
  | _ => none }
def KeyTwoWrongFalsely : Prop := keyTwoRow.holds Try.pinned (OpenSpec.ofChange keyTwoWrong)

/-- 'orangerylaw03.KeyTexts': WHATEVER THE INPUT: true; the input reads as it did. -/
def keyTextsSpec : ChangeSpec := { name := "keyTexts", fn := fun _ => fun
  | [d1, d2] => { results := [.lit (.bool true)], args := [d1, d2] }
  | _ => none }
def keyTextsRow : OpenClaim := { program := "ytaojcncmbbgmcaa", sum := "900aba61d7256b51232521afbcc2f0f3b7f2c602739f5d76875f4c5488b6de38", func := "orangery/orangerylaw03.KeyTexts", spec := "keyTexts", inPlace := ["internal/bytealg.abigen_runtime_cmpstring"], unfollowed := true, recurses := true, plainKeys := false, apart := false }
def KeyTextsSaid : Prop := keyTextsRow.holds Try.pinned (OpenSpec.ofChange keyTextsSpec)

/-- ITS FALSE NEIGHBOUR: 'it returns false'. Refute it at one input. -/
def keyTextsWrong : ChangeSpec := { name := "keyTexts", fn := fun _ => fun
  | [d1, d2] => { results := [.lit (.bool false)], args := [d1, d2] }
  | _ => none }
def KeyTextsWrongFalsely : Prop := keyTextsRow.holds Try.pinned (OpenSpec.ofChange keyTextsWrong)

/-- 'orangerylaw03.KeyNexts': WHATEVER THE INPUT: true; the input reads as it did. -/
def keyNextsSpec : ChangeSpec := { name := "keyNexts", fn := fun _ => fun
  | [d1, d2] => { results := [.lit (.bool true)], args := [d1, d2] }
  | _ => none }
def keyNextsRow : OpenClaim := { program := "ytaojcncmbbgmcaa", sum := "900aba61d7256b51232521afbcc2f0f3b7f2c602739f5d76875f4c5488b6de38", func := "orangery/orangerylaw03.KeyNexts", spec := "keyNexts", inPlace := ["internal/bytealg.abigen_runtime_cmpstring"], unfollowed := true, recurses := true, plainKeys := false, apart := false }
def KeyNextsSaid : Prop := keyNextsRow.holds Try.pinned (OpenSpec.ofChange keyNextsSpec)

/-- ITS FALSE NEIGHBOUR: 'it returns false'. Refute it at one input. -/
def keyNextsWrong : ChangeSpec := { name := "keyNexts", fn := fun _ => fun
  | [d1, d2] => { results := [.lit (.bool false)], args := [d1, d2] }
  | _ => none }
def KeyNextsWrongFalsely : Prop := keyNextsRow.holds Try.pinned (OpenSpec.ofChange keyNextsWrong)

/-- 'orangerylaw03.KeyThree': WHATEVER THE INPUT: true; the input reads as it did. -/
def keyThreeSpec : ChangeSpec := { name := "keyThree", fn := fun _ => fun
  | [d1, d2, d3] => { results := [.lit (.bool true)], args := [d1, d2, d3] }
  | _ => none }
def keyThreeRow : OpenClaim := { program := "ytaojcncmbbgmcaa", sum := "900aba61d7256b51232521afbcc2f0f3b7f2c602739f5d76875f4c5488b6de38", func := "orangery/orangerylaw03.KeyThree", spec := "keyThree", inPlace := ["internal/bytealg.abigen_runtime_cmpstring"], unfollowed := true, recurses := true, plainKeys := false, apart := false }
def KeyThreeSaid : Prop := keyThreeRow.holds Try.pinned (OpenSpec.ofChange keyThreeSpec)

/-- ITS FALSE NEIGHBOUR: 'it returns false'. Refute it at one input. -/
def keyThreeWrong : ChangeSpec := { name := "keyThree", fn := fun _ => fun
  | [d1, d2, d3] => { results := [.lit (.bool false)], args := [d1, d2, d3] }
  | _ => none }
def KeyThreeWrongFalsely : Prop := keyThreeRow.holds Try.pinned (OpenSpec.ofChange keyThreeWrong)

/-- 'orangerylaw03.KeyOrders': WHATEVER THE INPUT: true; the input reads as it did. -/
def keyOrdersSpec : ChangeSpec := { name := "keyOrders", fn := fun _ => fun
  | [d1, d2] => { results := [.lit (.bool true)], args := [d1, d2] }
  | _ => none }
def keyOrdersRow : OpenClaim := { program := "ytaojcncmbbgmcaa", sum := "900aba61d7256b51232521afbcc2f0f3b7f2c602739f5d76875f4c5488b6de38", func := "orangery/orangerylaw03.KeyOrders", spec := "keyOrders", inPlace := ["internal/bytealg.abigen_runtime_cmpstring"], unfollowed := true, recurses := true, plainKeys := false, apart := false }
def KeyOrdersSaid : Prop := keyOrdersRow.holds Try.pinned (OpenSpec.ofChange keyOrdersSpec)

/-- ITS FALSE NEIGHBOUR: 'it returns false'. Refute it at one input. -/
def keyOrdersWrong : ChangeSpec := { name := "keyOrders", fn := fun _ => fun
  | [d1, d2] => { results := [.lit (.bool false)], args := [d1, d2] }
  | _ => none }
def KeyOrdersWrongFalsely : Prop := keyOrdersRow.holds Try.pinned (OpenSpec.ofChange keyOrdersWrong)

/-- 'orangerylaw03.KeyMaps': WHATEVER THE INPUT: true; the input reads as it did. -/
def keyMapsSpec : ChangeSpec := { name := "keyMaps", fn := fun _ => fun
  | [d] => { results := [.lit (.bool true)], args := [d] }
  | _ => none }
def keyMapsRow : OpenClaim := { program := "ytaojcncmbbgmcaa", sum := "900aba61d7256b51232521afbcc2f0f3b7f2c602739f5d76875f4c5488b6de38", func := "orangery/orangerylaw03.KeyMaps", spec := "keyMaps", inPlace := ["internal/bytealg.abigen_runtime_cmpstring"], unfollowed := true, recurses := true, plainKeys := false, apart := false }
def KeyMapsSaid : Prop := keyMapsRow.holds Try.pinned (OpenSpec.ofChange keyMapsSpec)

/-- ITS FALSE NEIGHBOUR: 'it returns false'. Refute it at one input. -/
def keyMapsWrong : ChangeSpec := { name := "keyMaps", fn := fun _ => fun
  | [d] => { results := [.lit (.bool false)], args := [d] }
  | _ => none }
def KeyMapsWrongFalsely : Prop := keyMapsRow.holds Try.pinned (OpenSpec.ofChange keyMapsWrong)

/- THE SECOND FORM. 'bulk': how many values and letters a reading holds, each counted each time it is reached (what is shared counts as often as it is met; a slice's spare places count too). A statement '..UptoSaid' is the law's where the arguments, and the package variables that the reading takes, are together of bulk at most 1048576: NARROWER than '..Said'. Prove '..Said' where nothing that the law and all that it calls make is longer than what came in: it says more and counts as full. Else prove '..UptoSaid'. A law counts once. -/
mutual
def uptoBulk {H : Type} : DataW H → Nat
  | .lit (.string bytes) => bytes.length + 1
  | .lit _ => 1
  | .nil => 1
  | .ptr d => uptoBulk d + 1
  | .slice elems spare => uptoBulkAll elems + uptoBulkAll spare + 1
  | .agg parts => uptoBulkAll parts + 1
  | .iface _ d => uptoBulk d + 1
  | .map entries => uptoBulkEntries entries + 1
  | .held _ => 1
def uptoBulkAll {H : Type} : List (DataW H) → Nat
  | [] => 0
  | d :: r => uptoBulk d + uptoBulkAll r
def uptoBulkEntries {H : Type} : List (Lit × DataW H) → Nat
  | [] => 0
  | x :: r => uptoBulkEntry x + uptoBulkEntries r
def uptoBulkEntry {H : Type} : Lit × DataW H → Nat
  | (.string bytes, d) => bytes.length + uptoBulk d + 1
  | (_, d) => uptoBulk d + 1
 end
def uptoSmall : (H : Type) → List (DataW H) → Bool := fun _ ds => decide (uptoBulkAll ds ≤ 1048576)
def OpenSpec.upto (s : _root_.Go.ChangeSpec) : _root_.Go.OpenSpec := { _root_.Go.OpenSpec.ofChange s with cond := some uptoSmall }

/-- 'orangerylaw03.KeyAll', WHERE WHAT IT READS IS OF BULK AT MOST 1048576: true; the input reads as it did. -/
def keyAllUptoRow : OpenClaim := { program := "ytaojcncmbbgmcaa", sum := "900aba61d7256b51232521afbcc2f0f3b7f2c602739f5d76875f4c5488b6de38", func := "orangery/orangerylaw03.KeyAll", spec := "keyAll", inPlace := ["internal/bytealg.abigen_runtime_cmpstring"], unfollowed := true, recurses := true, plainKeys := false, apart := false, narrowed := true }
def KeyAllUptoSaid : Prop := keyAllUptoRow.holds Try.pinned (OpenSpec.upto keyAllSpec)

/-- 'orangerylaw03.KeyTwo', WHERE WHAT IT READS IS OF BULK AT MOST 1048576: true; the input reads as it did. -/
def keyTwoUptoRow : OpenClaim := { program := "ytaojcncmbbgmcaa", sum := "900aba61d7256b51232521afbcc2f0f3b7f2c602739f5d76875f4c5488b6de38", func := "orangery/orangerylaw03.KeyTwo", spec := "keyTwo", inPlace := ["internal/bytealg.abigen_runtime_cmpstring"], unfollowed := true, recurses := true, plainKeys := false, apart := false, narrowed := true }
def KeyTwoUptoSaid : Prop := keyTwoUptoRow.holds Try.pinned (OpenSpec.upto keyTwoSpec)

/-- 'orangerylaw03.KeyTexts', WHERE WHAT IT READS IS OF BULK AT MOST 1048576: true; the input reads as it did. -/
def keyTextsUptoRow : OpenClaim := { program := "ytaojcncmbbgmcaa", sum := "900aba61d7256b51232521afbcc2f0f3b7f2c602739f5d76875f4c5488b6de38", func := "orangery/orangerylaw03.KeyTexts", spec := "keyTexts", inPlace := ["internal/bytealg.abigen_runtime_cmpstring"], unfollowed := true, recurses := true, plainKeys := false, apart := false, narrowed := true }
def KeyTextsUptoSaid : Prop := keyTextsUptoRow.holds Try.pinned (OpenSpec.upto keyTextsSpec)

/-- 'orangerylaw03.KeyNexts', WHERE WHAT IT READS IS OF BULK AT MOST 1048576: true; the input reads as it did. -/
def keyNextsUptoRow : OpenClaim := { program := "ytaojcncmbbgmcaa", sum := "900aba61d7256b51232521afbcc2f0f3b7f2c602739f5d76875f4c5488b6de38", func := "orangery/orangerylaw03.KeyNexts", spec := "keyNexts", inPlace := ["internal/bytealg.abigen_runtime_cmpstring"], unfollowed := true, recurses := true, plainKeys := false, apart := false, narrowed := true }
def KeyNextsUptoSaid : Prop := keyNextsUptoRow.holds Try.pinned (OpenSpec.upto keyNextsSpec)

/-- 'orangerylaw03.KeyThree', WHERE WHAT IT READS IS OF BULK AT MOST 1048576: true; the input reads as it did. -/
def keyThreeUptoRow : OpenClaim := { program := "ytaojcncmbbgmcaa", sum := "900aba61d7256b51232521afbcc2f0f3b7f2c602739f5d76875f4c5488b6de38", func := "orangery/orangerylaw03.KeyThree", spec := "keyThree", inPlace := ["internal/bytealg.abigen_runtime_cmpstring"], unfollowed := true, recurses := true, plainKeys := false, apart := false, narrowed := true }
def KeyThreeUptoSaid : Prop := keyThreeUptoRow.holds Try.pinned (OpenSpec.upto keyThreeSpec)

/-- 'orangerylaw03.KeyOrders', WHERE WHAT IT READS IS OF BULK AT MOST 1048576: true; the input reads as it did. -/
def keyOrdersUptoRow : OpenClaim := { program := "ytaojcncmbbgmcaa", sum := "900aba61d7256b51232521afbcc2f0f3b7f2c602739f5d76875f4c5488b6de38", func := "orangery/orangerylaw03.KeyOrders", spec := "keyOrders", inPlace := ["internal/bytealg.abigen_runtime_cmpstring"], unfollowed := true, recurses := true, plainKeys := false, apart := false, narrowed := true }
def KeyOrdersUptoSaid : Prop := keyOrdersUptoRow.holds Try.pinned (OpenSpec.upto keyOrdersSpec)

/-- 'orangerylaw03.KeyMaps', WHERE WHAT IT READS IS OF BULK AT MOST 1048576: true; the input reads as it did. -/
def keyMapsUptoRow : OpenClaim := { program := "ytaojcncmbbgmcaa", sum := "900aba61d7256b51232521afbcc2f0f3b7f2c602739f5d76875f4c5488b6de38", func := "orangery/orangerylaw03.KeyMaps", spec := "keyMaps", inPlace := ["internal/bytealg.abigen_runtime_cmpstring"], unfollowed := true, recurses := true, plainKeys := false, apart := false, narrowed := true }
def KeyMapsUptoSaid : Prop := keyMapsUptoRow.holds Try.pinned (OpenSpec.upto keyMapsSpec)

end Rows
end Go.Proofs.Ytaojcncmbbgmcaa
