/-
  No cell of these rows narrows 'for every input' (looked for: loops, veiled, ifaces, maps, wideKeys, modest, calm, conditions, laid).
  DERIVED. THE GIVEN ROWS OF THIS SEAT. 8 by the template 'for every input the law returns true; each argument reads behind the call as it read before'; 0 by the template 'total and deterministic' (their statements: YtloldofjddbjoaaGreatTotals.lean).
  GIVEN WITH THE SEED: the statements are not yours to turn. If you find one false, say at which input.
  Laid BY PROGRAM, IN A SANDBOX (cutbox-rows.mjs): the forced cells as the released guide's own fill.sh prints them over the translation ff85ba185b039923… (all of the seat's roots in one cut). By AI agents, Wed Nov 11 2026. No macro, syntax, notation, axiom, sorry.
-/
import Derived.Test.YtloldofjddbjoaaGreatChecked
import GoSem.Claim
import GoSem.ClaimJoined
import GoSem.ClaimMapViews
import Derived.JoinedTies
import Derived.KernelRfl
namespace Go.Proofs.YtloldofjddbjoaaGreat
/- THE CELL 'sum', in the pinned program and in every row, IS THE sha256 OF THE DUMP (.gsa) THAT YtloldofjddbjoaaGreatProg.lean LOADS. Nothing in Lean hashes anything: it is a label: what it is worth is what the hold of that sum in a sandbox is worth. -/
noncomputable def Tryz.pinned : Pinned := { name := "ytloldofjddbjoaagreat", sum := "ff85ba185b039923182fd2ae88dc52aea14dddb9a03b9f166512bd64454bdfce", checked := Tryz.checked }
namespace Rows
def none {H : Type} : Left H := { results := [], args := [] }

/-- 'orangerytop.TopLines': WHATEVER THE INPUT: true; the input reads as it did. -/
def topLinesSpec : ChangeSpec := { name := "topLines", fn := fun _ => fun
  | [d1, d2, d3] => { results := [.lit (.bool true)], args := [d1, d2, d3] }
  | _ => none }
def topLinesRow : OpenClaim := { program := "ytloldofjddbjoaagreat", sum := "ff85ba185b039923182fd2ae88dc52aea14dddb9a03b9f166512bd64454bdfce", func := "orangery/orangerytop.TopLines", spec := "topLines", inPlace := ["slices.overlaps[int]", "internal/bytealg.abigen_runtime_cmpstring"], unfollowed := true, recurses := true, apart := false }
def TopLinesSaid : Prop := topLinesRow.holds Tryz.pinned (OpenSpec.ofChange topLinesSpec)

/-- ITS FALSE NEIGHBOUR: 'it returns false'. Refute it at one input. -/
def topLinesWrong : ChangeSpec := { name := "topLines", fn := fun _ => fun
  | [d1, d2, d3] => { results := [.lit (.bool false)], args := [d1, d2, d3] }
  | _ => none }
def TopLinesWrongFalsely : Prop := topLinesRow.holds Tryz.pinned (OpenSpec.ofChange topLinesWrong)

/-- 'orangerytop.TopMap': WHATEVER THE INPUT: true; the input reads as it did. -/
def topMapSpec : ChangeSpec := { name := "topMap", fn := fun _ => fun
  | [d1, d2, d3, d4] => { results := [.lit (.bool true)], args := [d1, d2, d3, d4] }
  | _ => none }
def topMapRow : OpenClaim := { program := "ytloldofjddbjoaagreat", sum := "ff85ba185b039923182fd2ae88dc52aea14dddb9a03b9f166512bd64454bdfce", func := "orangery/orangerytop.TopMap", spec := "topMap", inPlace := ["slices.overlaps[int]", "internal/bytealg.abigen_runtime_cmpstring"], unfollowed := true, recurses := true, apart := false }
def TopMapSaid : Prop := topMapRow.holds Tryz.pinned (OpenSpec.ofChange topMapSpec)

/-- ITS FALSE NEIGHBOUR: 'it returns false'. Refute it at one input. -/
def topMapWrong : ChangeSpec := { name := "topMap", fn := fun _ => fun
  | [d1, d2, d3, d4] => { results := [.lit (.bool false)], args := [d1, d2, d3, d4] }
  | _ => none }
def TopMapWrongFalsely : Prop := topMapRow.holds Tryz.pinned (OpenSpec.ofChange topMapWrong)

/-- 'orangerytop.TopOne': WHATEVER THE INPUT: true; the input reads as it did. -/
def topOneSpec : ChangeSpec := { name := "topOne", fn := fun _ => fun
  | [d1, d2, d3] => { results := [.lit (.bool true)], args := [d1, d2, d3] }
  | _ => none }
def topOneRow : OpenClaim := { program := "ytloldofjddbjoaagreat", sum := "ff85ba185b039923182fd2ae88dc52aea14dddb9a03b9f166512bd64454bdfce", func := "orangery/orangerytop.TopOne", spec := "topOne", inPlace := ["slices.overlaps[int]", "internal/bytealg.abigen_runtime_cmpstring"], unfollowed := true, recurses := true, apart := false }
def TopOneSaid : Prop := topOneRow.holds Tryz.pinned (OpenSpec.ofChange topOneSpec)

/-- ITS FALSE NEIGHBOUR: 'it returns false'. Refute it at one input. -/
def topOneWrong : ChangeSpec := { name := "topOne", fn := fun _ => fun
  | [d1, d2, d3] => { results := [.lit (.bool false)], args := [d1, d2, d3] }
  | _ => none }
def TopOneWrongFalsely : Prop := topOneRow.holds Tryz.pinned (OpenSpec.ofChange topOneWrong)

/-- 'orangerytop.TopAdds': WHATEVER THE INPUT: true; the input reads as it did. -/
def topAddsSpec : ChangeSpec := { name := "topAdds", fn := fun _ => fun
  | [d1, d2, d3, d4] => { results := [.lit (.bool true)], args := [d1, d2, d3, d4] }
  | _ => none }
def topAddsRow : OpenClaim := { program := "ytloldofjddbjoaagreat", sum := "ff85ba185b039923182fd2ae88dc52aea14dddb9a03b9f166512bd64454bdfce", func := "orangery/orangerytop.TopAdds", spec := "topAdds", inPlace := ["slices.overlaps[int]", "internal/bytealg.abigen_runtime_cmpstring"], unfollowed := true, recurses := true, apart := false }
def TopAddsSaid : Prop := topAddsRow.holds Tryz.pinned (OpenSpec.ofChange topAddsSpec)

/-- ITS FALSE NEIGHBOUR: 'it returns false'. Refute it at one input. -/
def topAddsWrong : ChangeSpec := { name := "topAdds", fn := fun _ => fun
  | [d1, d2, d3, d4] => { results := [.lit (.bool false)], args := [d1, d2, d3, d4] }
  | _ => none }
def TopAddsWrongFalsely : Prop := topAddsRow.holds Tryz.pinned (OpenSpec.ofChange topAddsWrong)

/-- 'orangerytop.TopViews': WHATEVER THE INPUT: true; the input reads as it did. -/
def topViewsSpec : ChangeSpec := { name := "topViews", fn := fun _ => fun
  | [d1, d2, d3, d4] => { results := [.lit (.bool true)], args := [d1, d2, d3, d4] }
  | _ => none }
def topViewsRow : OpenClaim := { program := "ytloldofjddbjoaagreat", sum := "ff85ba185b039923182fd2ae88dc52aea14dddb9a03b9f166512bd64454bdfce", func := "orangery/orangerytop.TopViews", spec := "topViews", inPlace := ["slices.overlaps[int]", "internal/bytealg.abigen_runtime_cmpstring"], unfollowed := true, recurses := true, apart := false }
def TopViewsSaid : Prop := topViewsRow.holds Tryz.pinned (OpenSpec.ofChange topViewsSpec)

/-- ITS FALSE NEIGHBOUR: 'it returns false'. Refute it at one input. -/
def topViewsWrong : ChangeSpec := { name := "topViews", fn := fun _ => fun
  | [d1, d2, d3, d4] => { results := [.lit (.bool false)], args := [d1, d2, d3, d4] }
  | _ => none }
def TopViewsWrongFalsely : Prop := topViewsRow.holds Tryz.pinned (OpenSpec.ofChange topViewsWrong)

/-- 'orangerytop.TopFails': WHATEVER THE INPUT: true; the input reads as it did. -/
def topFailsSpec : ChangeSpec := { name := "topFails", fn := fun _ => fun
  | [d1, d2, d3, d4, d5] => { results := [.lit (.bool true)], args := [d1, d2, d3, d4, d5] }
  | _ => none }
def topFailsRow : OpenClaim := { program := "ytloldofjddbjoaagreat", sum := "ff85ba185b039923182fd2ae88dc52aea14dddb9a03b9f166512bd64454bdfce", func := "orangery/orangerytop.TopFails", spec := "topFails", inPlace := ["slices.overlaps[int]", "internal/bytealg.abigen_runtime_cmpstring"], unfollowed := true, recurses := true, apart := false }
def TopFailsSaid : Prop := topFailsRow.holds Tryz.pinned (OpenSpec.ofChange topFailsSpec)

/-- ITS FALSE NEIGHBOUR: 'it returns false'. Refute it at one input. -/
def topFailsWrong : ChangeSpec := { name := "topFails", fn := fun _ => fun
  | [d1, d2, d3, d4, d5] => { results := [.lit (.bool false)], args := [d1, d2, d3, d4, d5] }
  | _ => none }
def TopFailsWrongFalsely : Prop := topFailsRow.holds Tryz.pinned (OpenSpec.ofChange topFailsWrong)

/-- 'orangerytop.TopFull': WHATEVER THE INPUT: true; the input reads as it did. -/
def topFullSpec : ChangeSpec := { name := "topFull", fn := fun _ => fun
  | [d1, d2] => { results := [.lit (.bool true)], args := [d1, d2] }
  | _ => none }
def topFullRow : OpenClaim := { program := "ytloldofjddbjoaagreat", sum := "ff85ba185b039923182fd2ae88dc52aea14dddb9a03b9f166512bd64454bdfce", func := "orangery/orangerytop.TopFull", spec := "topFull", inPlace := ["slices.overlaps[int]", "internal/bytealg.abigen_runtime_cmpstring"], unfollowed := true, recurses := true, apart := false }
def TopFullSaid : Prop := topFullRow.holds Tryz.pinned (OpenSpec.ofChange topFullSpec)

/-- ITS FALSE NEIGHBOUR: 'it returns false'. Refute it at one input. -/
def topFullWrong : ChangeSpec := { name := "topFull", fn := fun _ => fun
  | [d1, d2] => { results := [.lit (.bool false)], args := [d1, d2] }
  | _ => none }
def TopFullWrongFalsely : Prop := topFullRow.holds Tryz.pinned (OpenSpec.ofChange topFullWrong)

/-- 'orangerytop.TopNodes': WHATEVER THE INPUT: true; the input reads as it did. -/
def topNodesSpec : ChangeSpec := { name := "topNodes", fn := fun _ => fun
  | [d1, d2, d3, d4] => { results := [.lit (.bool true)], args := [d1, d2, d3, d4] }
  | _ => none }
def topNodesRow : OpenClaim := { program := "ytloldofjddbjoaagreat", sum := "ff85ba185b039923182fd2ae88dc52aea14dddb9a03b9f166512bd64454bdfce", func := "orangery/orangerytop.TopNodes", spec := "topNodes", inPlace := ["slices.overlaps[int]", "internal/bytealg.abigen_runtime_cmpstring"], unfollowed := true, recurses := true, apart := false }
def TopNodesSaid : Prop := topNodesRow.holds Tryz.pinned (OpenSpec.ofChange topNodesSpec)

/-- ITS FALSE NEIGHBOUR: 'it returns false'. Refute it at one input. -/
def topNodesWrong : ChangeSpec := { name := "topNodes", fn := fun _ => fun
  | [d1, d2, d3, d4] => { results := [.lit (.bool false)], args := [d1, d2, d3, d4] }
  | _ => none }
def TopNodesWrongFalsely : Prop := topNodesRow.holds Tryz.pinned (OpenSpec.ofChange topNodesWrong)

/- THE SECOND FORM. 'bulk': how many values and letters a reading holds, each counted each time it is reached (what is shared counts as often as it is met; a slice's spare places count too). A statement '..UptoSaid' is the law's where the arguments, and the package variables that the reading takes, are together of bulk at most 1048576: NARROWER than '..Said'. Prove '..Said' where nothing that the law and all that it calls make is longer than what came in: it says more and counts as full. Else prove '..UptoSaid'. A law counts once. -/
mutual
def uptoBulk {H : Type} : DataW H → Nat
  | .lit (.string bytes) => bytes.length + 1
  | .lit _ => 1
  | .nil => 1
  | .ptr d => uptoBulk d + 1
  | .slice elems spare => uptoBulkAll elems + uptoBulkAll spare + 1
  | .agg parts => uptoBulkAll parts + 1
  | .iface _ d => uptoBulk d + 1
  | .map entries => uptoBulkEntries entries + 1
  | .held _ => 1
def uptoBulkAll {H : Type} : List (DataW H) → Nat
  | [] => 0
  | d :: r => uptoBulk d + uptoBulkAll r
def uptoBulkEntries {H : Type} : List (Lit × DataW H) → Nat
  | [] => 0
  | x :: r => uptoBulkEntry x + uptoBulkEntries r
def uptoBulkEntry {H : Type} : Lit × DataW H → Nat
  | (.string bytes, d) => bytes.length + uptoBulk d + 1
  | (_, d) => uptoBulk d + 1
 end
def uptoSmall : (H : Type) → List (DataW H) → Bool := fun _ ds => decide (uptoBulkAll ds ≤ 1048576)
def OpenSpec.upto (s : _root_.Go.ChangeSpec) : _root_.Go.OpenSpec := { _root_.Go.OpenSpec.ofChange s with cond := some uptoSmall }

/-- 'orangerytop.TopLines', WHERE WHAT IT READS IS OF BULK AT MOST 1048576: true; the input reads as it did. -/
def topLinesUptoRow : OpenClaim := { program := "ytloldofjddbjoaagreat", sum := "ff85ba185b039923182fd2ae88dc52aea14dddb9a03b9f166512bd64454bdfce", func := "orangery/orangerytop.TopLines", spec := "topLines", inPlace := ["slices.overlaps[int]", "internal/bytealg.abigen_runtime_cmpstring"], unfollowed := true, recurses := true, apart := false, narrowed := true }
def TopLinesUptoSaid : Prop := topLinesUptoRow.holds Tryz.pinned (OpenSpec.upto topLinesSpec)

/-- 'orangerytop.TopMap', WHERE WHAT IT READS IS OF BULK AT MOST 1048576: true; the input reads as it did. -/
def topMapUptoRow : OpenClaim := { program := "ytloldofjddbjoaagreat", sum := "ff85ba185b039923182fd2ae88dc52aea14dddb9a03b9f166512bd64454bdfce", func := "orangery/orangerytop.TopMap", spec := "topMap", inPlace := ["slices.overlaps[int]", "internal/bytealg.abigen_runtime_cmpstring"], unfollowed := true, recurses := true, apart := false, narrowed := true }
def TopMapUptoSaid : Prop := topMapUptoRow.holds Tryz.pinned (OpenSpec.upto topMapSpec)

/-- 'orangerytop.TopOne', WHERE WHAT IT READS IS OF BULK AT MOST 1048576: true; the input reads as it did. -/
def topOneUptoRow : OpenClaim := { program := "ytloldofjddbjoaagreat", sum := "ff85ba185b039923182fd2ae88dc52aea14dddb9a03b9f166512bd64454bdfce", func := "orangery/orangerytop.TopOne", spec := "topOne", inPlace := ["slices.overlaps[int]", "internal/bytealg.abigen_runtime_cmpstring"], unfollowed := true, recurses := true, apart := false, narrowed := true }
def TopOneUptoSaid : Prop := topOneUptoRow.holds Tryz.pinned (OpenSpec.upto topOneSpec)

/-- 'orangerytop.TopAdds', WHERE WHAT IT READS IS OF BULK AT MOST 1048576: true; the input reads as it did. -/
def topAddsUptoRow : OpenClaim := { program := "ytloldofjddbjoaagreat", sum := "ff85ba185b039923182fd2ae88dc52aea14dddb9a03b9f166512bd64454bdfce", func := "orangery/orangerytop.TopAdds", spec := "topAdds", inPlace := ["slices.overlaps[int]", "internal/bytealg.abigen_runtime_cmpstring"], unfollowed := true, recurses := true, apart := false, narrowed := true }
def TopAddsUptoSaid : Prop := topAddsUptoRow.holds Tryz.pinned (OpenSpec.upto topAddsSpec)

/-- 'orangerytop.TopViews', WHERE WHAT IT READS IS OF BULK AT MOST 1048576: true; the input reads as it did. -/
def topViewsUptoRow : OpenClaim := { program := "ytloldofjddbjoaagreat", sum := "ff85ba185b039923182fd2ae88dc52aea14dddb9a03b9f166512bd64454bdfce", func := "orangery/orangerytop.TopViews", spec := "topViews", inPlace := ["slices.overlaps[int]", "internal/bytealg.abigen_runtime_cmpstring"], unfollowed := true, recurses := true, apart := false, narrowed := true }
def TopViewsUptoSaid : Prop := topViewsUptoRow.holds Tryz.pinned (OpenSpec.upto topViewsSpec)

/-- 'orangerytop.TopFails', WHERE WHAT IT READS IS OF BULK AT MOST 1048576: true; the input reads as it did. -/
def topFailsUptoRow : OpenClaim := { program := "ytloldofjddbjoaagreat", sum := "ff85ba185b039923182fd2ae88dc52aea14dddb9a03b9f166512bd64454bdfce", func := "orangery/orangerytop.TopFails", spec := "topFails", inPlace := ["slices.overlaps[int]", "internal/bytealg.abigen_runtime_cmpstring"], unfollowed := true, recurses := true, apart := false, narrowed := true }
def TopFailsUptoSaid : Prop := topFailsUptoRow.holds Tryz.pinned (OpenSpec.upto topFailsSpec)

/-- 'orangerytop.TopFull', WHERE WHAT IT READS IS OF BULK AT MOST 1048576: true; the input reads as it did. -/
def topFullUptoRow : OpenClaim := { program := "ytloldofjddbjoaagreat", sum := "ff85ba185b039923182fd2ae88dc52aea14dddb9a03b9f166512bd64454bdfce", func := "orangery/orangerytop.TopFull", spec := "topFull", inPlace := ["slices.overlaps[int]", "internal/bytealg.abigen_runtime_cmpstring"], unfollowed := true, recurses := true, apart := false, narrowed := true }
def TopFullUptoSaid : Prop := topFullUptoRow.holds Tryz.pinned (OpenSpec.upto topFullSpec)

/-- 'orangerytop.TopNodes', WHERE WHAT IT READS IS OF BULK AT MOST 1048576: true; the input reads as it did. -/
def topNodesUptoRow : OpenClaim := { program := "ytloldofjddbjoaagreat", sum := "ff85ba185b039923182fd2ae88dc52aea14dddb9a03b9f166512bd64454bdfce", func := "orangery/orangerytop.TopNodes", spec := "topNodes", inPlace := ["slices.overlaps[int]", "internal/bytealg.abigen_runtime_cmpstring"], unfollowed := true, recurses := true, apart := false, narrowed := true }
def TopNodesUptoSaid : Prop := topNodesUptoRow.holds Tryz.pinned (OpenSpec.upto topNodesSpec)

end Rows
end Go.Proofs.YtloldofjddbjoaaGreat
