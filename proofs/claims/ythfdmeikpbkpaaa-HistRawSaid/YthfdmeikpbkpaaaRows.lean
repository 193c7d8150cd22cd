/-
  No cell of these rows narrows 'for every input' (looked for: loops, veiled, ifaces, maps, wideKeys, modest, calm, conditions, laid).
  DERIVED. THE GIVEN ROWS OF THIS SEAT. 5 by the template 'for every input the law returns true; each argument reads behind the call as it read before'; 0 by the template 'total and deterministic' (their statements: YthfdmeikpbkpaaaTotals.lean).
  GIVEN WITH THE SEED: the statements are not yours to turn. If you find one false, say at which input.
  Laid BY PROGRAM, IN A SANDBOX (cutbox-rows.mjs): the forced cells as the released guide's own fill.sh prints them over the translation 629726068aa8e175… (all of the seat's roots in one cut). By AI agents, Wed Nov 11 2026. No macro, syntax, notation, axiom, sorry.
-/
import Derived.Test.YthfdmeikpbkpaaaChecked
import GoSem.Claim
import GoSem.ClaimJoined
import GoSem.ClaimMapViews
import Derived.JoinedTies
import Derived.KernelRfl
namespace Go.Proofs.Ythfdmeikpbkpaaa
/- THE CELL 'sum', in the pinned program and in every row, IS THE sha256 OF THE DUMP (.gsa) THAT YthfdmeikpbkpaaaProg.lean LOADS. Nothing in Lean hashes anything: it is a label: what it is worth is what the hold of that sum in a sandbox is worth. -/
noncomputable def Try.pinned : Pinned := { name := "ythfdmeikpbkpaaa", sum := "629726068aa8e1754417d757b54b9b964854fbbb18ab5e26826b92c947790154", checked := Try.checked }
namespace Rows
def none {H : Type} : Left H := { results := [], args := [] }

/-- 'orangerylaw23.HistAll': WHATEVER THE INPUT: true; the input reads as it did. -/
def histAllSpec : ChangeSpec := { name := "histAll", fn := fun _ => fun
  | [d1, d2, d3] => { results := [.lit (.bool true)], args := [d1, d2, d3] }
  | _ => none }
def histAllRow : OpenClaim := { program := "ythfdmeikpbkpaaa", sum := "629726068aa8e1754417d757b54b9b964854fbbb18ab5e26826b92c947790154", func := "orangery/orangerylaw23.HistAll", spec := "histAll", plainKeys := false, apart := false }
def HistAllSaid : Prop := histAllRow.holds Try.pinned (OpenSpec.ofChange histAllSpec)

/-- ITS FALSE NEIGHBOUR: 'it returns false'. Refute it at one input. -/
def histAllWrong : ChangeSpec := { name := "histAll", fn := fun _ => fun
  | [d1, d2, d3] => { results := [.lit (.bool false)], args := [d1, d2, d3] }
  | _ => none }
def HistAllWrongFalsely : Prop := histAllRow.holds Try.pinned (OpenSpec.ofChange histAllWrong)

/-- 'orangerylaw23.HistRaw': WHATEVER THE INPUT: true; the input reads as it did. -/
def histRawSpec : ChangeSpec := { name := "histRaw", fn := fun _ => fun
  | [d1, d2, d3, d4] => { results := [.lit (.bool true)], args := [d1, d2, d3, d4] }
  | _ => none }
def histRawRow : OpenClaim := { program := "ythfdmeikpbkpaaa", sum := "629726068aa8e1754417d757b54b9b964854fbbb18ab5e26826b92c947790154", func := "orangery/orangerylaw23.HistRaw", spec := "histRaw", plainKeys := false, apart := false }
def HistRawSaid : Prop := histRawRow.holds Try.pinned (OpenSpec.ofChange histRawSpec)

/-- ITS FALSE NEIGHBOUR: 'it returns false'. Refute it at one input. -/
def histRawWrong : ChangeSpec := { name := "histRaw", fn := fun _ => fun
  | [d1, d2, d3, d4] => { results := [.lit (.bool false)], args := [d1, d2, d3, d4] }
  | _ => none }
def HistRawWrongFalsely : Prop := histRawRow.holds Try.pinned (OpenSpec.ofChange histRawWrong)

/-- 'orangerylaw23.HistFronts': WHATEVER THE INPUT: true; the input reads as it did. -/
def histFrontsSpec : ChangeSpec := { name := "histFronts", fn := fun _ => fun
  | [d1, d2, d3, d4] => { results := [.lit (.bool true)], args := [d1, d2, d3, d4] }
  | _ => none }
def histFrontsRow : OpenClaim := { program := "ythfdmeikpbkpaaa", sum := "629726068aa8e1754417d757b54b9b964854fbbb18ab5e26826b92c947790154", func := "orangery/orangerylaw23.HistFronts", spec := "histFronts", plainKeys := false, apart := false }
def HistFrontsSaid : Prop := histFrontsRow.holds Try.pinned (OpenSpec.ofChange histFrontsSpec)

/-- ITS FALSE NEIGHBOUR: 'it returns false'. Refute it at one input. -/
def histFrontsWrong : ChangeSpec := { name := "histFronts", fn := fun _ => fun
  | [d1, d2, d3, d4] => { results := [.lit (.bool false)], args := [d1, d2, d3, d4] }
  | _ => none }
def HistFrontsWrongFalsely : Prop := histFrontsRow.holds Try.pinned (OpenSpec.ofChange histFrontsWrong)

/-- 'orangerylaw23.HistOrder': WHATEVER THE INPUT: true; the input reads as it did. -/
def histOrderSpec : ChangeSpec := { name := "histOrder", fn := fun _ => fun
  | [d1, d2, d3] => { results := [.lit (.bool true)], args := [d1, d2, d3] }
  | _ => none }
def histOrderRow : OpenClaim := { program := "ythfdmeikpbkpaaa", sum := "629726068aa8e1754417d757b54b9b964854fbbb18ab5e26826b92c947790154", func := "orangery/orangerylaw23.HistOrder", spec := "histOrder", plainKeys := false, apart := false }
def HistOrderSaid : Prop := histOrderRow.holds Try.pinned (OpenSpec.ofChange histOrderSpec)

/-- ITS FALSE NEIGHBOUR: 'it returns false'. Refute it at one input. -/
def histOrderWrong : ChangeSpec := { name := "histOrder", fn := fun _ => fun
  | [d1, d2, d3] => { results := [.lit (.bool false)], args := [d1, d2, d3] }
  | _ => none }
def HistOrderWrongFalsely : Prop := histOrderRow.holds Try.pinned (OpenSpec.ofChange histOrderWrong)

/-- 'orangerylaw23.HistTurned': WHATEVER THE INPUT: true; the input reads as it did. -/
def histTurnedSpec : ChangeSpec := { name := "histTurned", fn := fun _ => fun
  | [d1, d2, d3, d4, d5] => { results := [.lit (.bool true)], args := [d1, d2, d3, d4, d5] }
  | _ => none }
def histTurnedRow : OpenClaim := { program := "ythfdmeikpbkpaaa", sum := "629726068aa8e1754417d757b54b9b964854fbbb18ab5e26826b92c947790154", func := "orangery/orangerylaw23.HistTurned", spec := "histTurned", plainKeys := false, apart := false }
def HistTurnedSaid : Prop := histTurnedRow.holds Try.pinned (OpenSpec.ofChange histTurnedSpec)

/-- ITS FALSE NEIGHBOUR: 'it returns false'. Refute it at one input. -/
def histTurnedWrong : ChangeSpec := { name := "histTurned", fn := fun _ => fun
  | [d1, d2, d3, d4, d5] => { results := [.lit (.bool false)], args := [d1, d2, d3, d4, d5] }
  | _ => none }
def HistTurnedWrongFalsely : Prop := histTurnedRow.holds Try.pinned (OpenSpec.ofChange histTurnedWrong)

/- THE SECOND FORM. 'bulk': how many values and letters a reading holds, each counted each time it is reached (what is shared counts as often as it is met; a slice's spare places count too). A statement '..UptoSaid' is the law's where the arguments, and the package variables that the reading takes, are together of bulk at most 1048576: NARROWER than '..Said'. Prove '..Said' where nothing that the law and all that it calls make is longer than what came in: it says more and counts as full. Else prove '..UptoSaid'. A law counts once. -/
mutual
def uptoBulk {H : Type} : DataW H → Nat
  | .lit (.string bytes) => bytes.length + 1
  | .lit _ => 1
  | .nil => 1
  | .ptr d => uptoBulk d + 1
  | .slice elems spare => uptoBulkAll elems + uptoBulkAll spare + 1
  | .agg parts => uptoBulkAll parts + 1
  | .iface _ d => uptoBulk d + 1
  | .map entries => uptoBulkEntries entries + 1
  | .held _ => 1
def uptoBulkAll {H : Type} : List (DataW H) → Nat
  | [] => 0
  | d :: r => uptoBulk d + uptoBulkAll r
def uptoBulkEntries {H : Type} : List (Lit × DataW H) → Nat
  | [] => 0
  | x :: r => uptoBulkEntry x + uptoBulkEntries r
def uptoBulkEntry {H : Type} : Lit × DataW H → Nat
  | (.string bytes, d) => bytes.length + uptoBulk d + 1
  | (_, d) => uptoBulk d + 1
 end
def uptoSmall : (H : Type) → List (DataW H) → Bool := fun _ ds => decide (uptoBulkAll ds ≤ 1048576)
def OpenSpec.upto (s : _root_.Go.ChangeSpec) : _root_.Go.OpenSpec := { _root_.Go.OpenSpec.ofChange s with cond := some uptoSmall }

/-- 'orangerylaw23.HistAll', WHERE WHAT IT READS IS OF BULK AT MOST 1048576: true; the input reads as it did. -/
def histAllUptoRow : OpenClaim := { program := "ythfdmeikpbkpaaa", sum := "629726068aa8e1754417d757b54b9b964854fbbb18ab5e26826b92c947790154", func := "orangery/orangerylaw23.HistAll", spec := "histAll", plainKeys := false, apart := false, narrowed := true }
def HistAllUptoSaid : Prop := histAllUptoRow.holds Try.pinned (OpenSpec.upto histAllSpec)

/-- 'orangerylaw23.HistRaw', WHERE WHAT IT READS IS OF BULK AT MOST 1048576: true; the input reads as it did. -/
def histRawUptoRow : OpenClaim := { program := "ythfdmeikpbkpaaa", sum := "629726068aa8e1754417d757b54b9b964854fbbb18ab5e26826b92c947790154", func := "orangery/orangerylaw23.HistRaw", spec := "histRaw", plainKeys := false, apart := false, narrowed := true }
def HistRawUptoSaid : Prop := histRawUptoRow.holds Try.pinned (OpenSpec.upto histRawSpec)

/-- 'orangerylaw23.HistFronts', WHERE WHAT IT READS IS OF BULK AT MOST 1048576: true; the input reads as it did. -/
def histFrontsUptoRow : OpenClaim := { program := "ythfdmeikpbkpaaa", sum := "629726068aa8e1754417d757b54b9b964854fbbb18ab5e26826b92c947790154", func := "orangery/orangerylaw23.HistFronts", spec := "histFronts", plainKeys := false, apart := false, narrowed := true }
def HistFrontsUptoSaid : Prop := histFrontsUptoRow.holds Try.pinned (OpenSpec.upto histFrontsSpec)

/-- 'orangerylaw23.HistOrder', WHERE WHAT IT READS IS OF BULK AT MOST 1048576: true; the input reads as it did. -/
def histOrderUptoRow : OpenClaim := { program := "ythfdmeikpbkpaaa", sum := "629726068aa8e1754417d757b54b9b964854fbbb18ab5e26826b92c947790154", func := "orangery/orangerylaw23.HistOrder", spec := "histOrder", plainKeys := false, apart := false, narrowed := true }
def HistOrderUptoSaid : Prop := histOrderUptoRow.holds Try.pinned (OpenSpec.upto histOrderSpec)

/-- 'orangerylaw23.HistTurned', WHERE WHAT IT READS IS OF BULK AT MOST 1048576: true; the input reads as it did. -/
def histTurnedUptoRow : OpenClaim := { program := "ythfdmeikpbkpaaa", sum := "629726068aa8e1754417d757b54b9b964854fbbb18ab5e26826b92c947790154", func := "orangery/orangerylaw23.HistTurned", spec := "histTurned", plainKeys := false, apart := false, narrowed := true }
def HistTurnedUptoSaid : Prop := histTurnedUptoRow.holds Try.pinned (OpenSpec.upto histTurnedSpec)

end Rows
end Go.Proofs.Ythfdmeikpbkpaaa
