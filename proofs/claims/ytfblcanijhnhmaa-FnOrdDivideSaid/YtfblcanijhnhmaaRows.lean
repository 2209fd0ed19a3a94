/-
  No cell of these rows narrows 'for every input' (looked for: loops, veiled, ifaces, maps, wideKeys, modest, calm, conditions, laid).
  DERIVED. THE GIVEN ROWS OF THIS SEAT. 12 by the template 'for every input the law returns true; each argument reads behind the call as it read before'; 0 by the template 'total and deterministic' (their statements: YtfblcanijhnhmaaTotals.lean).
  GIVEN WITH THE SEED: the statements are not yours to turn. If you find one false, say at which input.
  Laid BY PROGRAM, IN A SANDBOX (cutbox-rows.mjs): the forced cells as the released guide's own fill.sh prints them over the translation 198a54249b8b889a… (all of the seat's roots in one cut). By AI agents, Wed Nov 11 2026. No macro, syntax, notation, axiom, sorry.
-/
import Derived.Test.YtfblcanijhnhmaaChecked
import GoSem.Claim
import GoSem.ClaimJoined
import GoSem.ClaimMapViews
import Derived.JoinedTies
import Derived.KernelRfl
namespace Go.Proofs.Ytfblcanijhnhmaa
/- THE CELL 'sum', in the pinned program and in every row, IS THE sha256 OF THE DUMP (.gsa) THAT YtfblcanijhnhmaaProg.lean LOADS. Nothing in Lean hashes anything: it is a label: what it is worth is what the hold of that sum in a sandbox is worth. -/
noncomputable def Try.pinned : Pinned := { name := "ytfblcanijhnhmaa", sum := "198a54249b8b889aa01f4220d0f0bc380c5f1ce150a65df1c235c1bcade7edc9", checked := Try.checked }
namespace Rows
def none {H : Type} : Left H := { results := [], args := [] }

/-- 'laws.FnExactOrdAdd': WHATEVER THE INPUT: true; the input reads as it did. -/
def fnExactOrdAddSpec : ChangeSpec := { name := "fnExactOrdAdd", fn := fun _ => fun
  | [d1, d2] => { results := [.lit (.bool true)], args := [d1, d2] }
  | _ => none }
def fnExactOrdAddRow : OpenClaim := { program := "ytfblcanijhnhmaa", sum := "198a54249b8b889aa01f4220d0f0bc380c5f1ce150a65df1c235c1bcade7edc9", func := "loop.example/ordinalhydras/laws.FnExactOrdAdd", spec := "fnExactOrdAdd", recurses := true, apart := false }
def FnExactOrdAddSaid : Prop := fnExactOrdAddRow.holds Try.pinned (OpenSpec.ofChange fnExactOrdAddSpec)

/-- ITS FALSE NEIGHBOUR: 'it returns false'. Refute it at one input. -/
def fnExactOrdAddWrong : ChangeSpec := { name := "fnExactOrdAdd", fn := fun _ => fun
  | [d1, d2] => { results := [.lit (.bool false)], args := [d1, d2] }
  | _ => none }
def FnExactOrdAddWrongFalsely : Prop := fnExactOrdAddRow.holds Try.pinned (OpenSpec.ofChange fnExactOrdAddWrong)

/-- 'laws.FnExactOrdMinus': WHATEVER THE INPUT: true; the input reads as it did. -/
def fnExactOrdMinusSpec : ChangeSpec := { name := "fnExactOrdMinus", fn := fun _ => fun
  | [d1, d2] => { results := [.lit (.bool true)], args := [d1, d2] }
  | _ => none }
def fnExactOrdMinusRow : OpenClaim := { program := "ytfblcanijhnhmaa", sum := "198a54249b8b889aa01f4220d0f0bc380c5f1ce150a65df1c235c1bcade7edc9", func := "loop.example/ordinalhydras/laws.FnExactOrdMinus", spec := "fnExactOrdMinus", recurses := true, apart := false }
def FnExactOrdMinusSaid : Prop := fnExactOrdMinusRow.holds Try.pinned (OpenSpec.ofChange fnExactOrdMinusSpec)

/-- ITS FALSE NEIGHBOUR: 'it returns false'. Refute it at one input. -/
def fnExactOrdMinusWrong : ChangeSpec := { name := "fnExactOrdMinus", fn := fun _ => fun
  | [d1, d2] => { results := [.lit (.bool false)], args := [d1, d2] }
  | _ => none }
def FnExactOrdMinusWrongFalsely : Prop := fnExactOrdMinusRow.holds Try.pinned (OpenSpec.ofChange fnExactOrdMinusWrong)

/-- 'laws.FnExactOrdNatural': WHATEVER THE INPUT: true; the input reads as it did. -/
def fnExactOrdNaturalSpec : ChangeSpec := { name := "fnExactOrdNatural", fn := fun _ => fun
  | [d1, d2] => { results := [.lit (.bool true)], args := [d1, d2] }
  | _ => none }
def fnExactOrdNaturalRow : OpenClaim := { program := "ytfblcanijhnhmaa", sum := "198a54249b8b889aa01f4220d0f0bc380c5f1ce150a65df1c235c1bcade7edc9", func := "loop.example/ordinalhydras/laws.FnExactOrdNatural", spec := "fnExactOrdNatural", recurses := true, apart := false }
def FnExactOrdNaturalSaid : Prop := fnExactOrdNaturalRow.holds Try.pinned (OpenSpec.ofChange fnExactOrdNaturalSpec)

/-- ITS FALSE NEIGHBOUR: 'it returns false'. Refute it at one input. -/
def fnExactOrdNaturalWrong : ChangeSpec := { name := "fnExactOrdNatural", fn := fun _ => fun
  | [d1, d2] => { results := [.lit (.bool false)], args := [d1, d2] }
  | _ => none }
def FnExactOrdNaturalWrongFalsely : Prop := fnExactOrdNaturalRow.holds Try.pinned (OpenSpec.ofChange fnExactOrdNaturalWrong)

/-- 'laws.FnExactOrdTimes': WHATEVER THE INPUT: true; the input reads as it did. -/
def fnExactOrdTimesSpec : ChangeSpec := { name := "fnExactOrdTimes", fn := fun _ => fun
  | [d1, d2] => { results := [.lit (.bool true)], args := [d1, d2] }
  | _ => none }
def fnExactOrdTimesRow : OpenClaim := { program := "ytfblcanijhnhmaa", sum := "198a54249b8b889aa01f4220d0f0bc380c5f1ce150a65df1c235c1bcade7edc9", func := "loop.example/ordinalhydras/laws.FnExactOrdTimes", spec := "fnExactOrdTimes", recurses := true, apart := false }
def FnExactOrdTimesSaid : Prop := fnExactOrdTimesRow.holds Try.pinned (OpenSpec.ofChange fnExactOrdTimesSpec)

/-- ITS FALSE NEIGHBOUR: 'it returns false'. Refute it at one input. -/
def fnExactOrdTimesWrong : ChangeSpec := { name := "fnExactOrdTimes", fn := fun _ => fun
  | [d1, d2] => { results := [.lit (.bool false)], args := [d1, d2] }
  | _ => none }
def FnExactOrdTimesWrongFalsely : Prop := fnExactOrdTimesRow.holds Try.pinned (OpenSpec.ofChange fnExactOrdTimesWrong)

/-- 'laws.FnExactOrdRaise': WHATEVER THE INPUT: true; the input reads as it did. -/
def fnExactOrdRaiseSpec : ChangeSpec := { name := "fnExactOrdRaise", fn := fun _ => fun
  | [d1, d2] => { results := [.lit (.bool true)], args := [d1, d2] }
  | _ => none }
def fnExactOrdRaiseRow : OpenClaim := { program := "ytfblcanijhnhmaa", sum := "198a54249b8b889aa01f4220d0f0bc380c5f1ce150a65df1c235c1bcade7edc9", func := "loop.example/ordinalhydras/laws.FnExactOrdRaise", spec := "fnExactOrdRaise", recurses := true, apart := false }
def FnExactOrdRaiseSaid : Prop := fnExactOrdRaiseRow.holds Try.pinned (OpenSpec.ofChange fnExactOrdRaiseSpec)

/-- ITS FALSE NEIGHBOUR: 'it returns false'. Refute it at one input. -/
def fnExactOrdRaiseWrong : ChangeSpec := { name := "fnExactOrdRaise", fn := fun _ => fun
  | [d1, d2] => { results := [.lit (.bool false)], args := [d1, d2] }
  | _ => none }
def FnExactOrdRaiseWrongFalsely : Prop := fnExactOrdRaiseRow.holds Try.pinned (OpenSpec.ofChange fnExactOrdRaiseWrong)

/-- 'laws.FnExactOrdDivide': WHATEVER THE INPUT: true; the input reads as it did. -/
def fnExactOrdDivideSpec : ChangeSpec := { name := "fnExactOrdDivide", fn := fun _ => fun
  | [d1, d2] => { results := [.lit (.bool true)], args := [d1, d2] }
  | _ => none }
def fnExactOrdDivideRow : OpenClaim := { program := "ytfblcanijhnhmaa", sum := "198a54249b8b889aa01f4220d0f0bc380c5f1ce150a65df1c235c1bcade7edc9", func := "loop.example/ordinalhydras/laws.FnExactOrdDivide", spec := "fnExactOrdDivide", recurses := true, apart := false }
def FnExactOrdDivideSaid : Prop := fnExactOrdDivideRow.holds Try.pinned (OpenSpec.ofChange fnExactOrdDivideSpec)

/-- ITS FALSE NEIGHBOUR: 'it returns false'. Refute it at one input. -/
def fnExactOrdDivideWrong : ChangeSpec := { name := "fnExactOrdDivide", fn := fun _ => fun
  | [d1, d2] => { results := [.lit (.bool false)], args := [d1, d2] }
  | _ => none }
def FnExactOrdDivideWrongFalsely : Prop := fnExactOrdDivideRow.holds Try.pinned (OpenSpec.ofChange fnExactOrdDivideWrong)

/-- 'laws.FnOrdAdd': WHATEVER THE INPUT: true; the input reads as it did. -/
def fnOrdAddSpec : ChangeSpec := { name := "fnOrdAdd", fn := fun _ => fun
  | [d1, d2] => { results := [.lit (.bool true)], args := [d1, d2] }
  | _ => none }
def fnOrdAddRow : OpenClaim := { program := "ytfblcanijhnhmaa", sum := "198a54249b8b889aa01f4220d0f0bc380c5f1ce150a65df1c235c1bcade7edc9", func := "loop.example/ordinalhydras/laws.FnOrdAdd", spec := "fnOrdAdd", recurses := true, apart := false }
def FnOrdAddSaid : Prop := fnOrdAddRow.holds Try.pinned (OpenSpec.ofChange fnOrdAddSpec)

/-- ITS FALSE NEIGHBOUR: 'it returns false'. Refute it at one input. -/
def fnOrdAddWrong : ChangeSpec := { name := "fnOrdAdd", fn := fun _ => fun
  | [d1, d2] => { results := [.lit (.bool false)], args := [d1, d2] }
  | _ => none }
def FnOrdAddWrongFalsely : Prop := fnOrdAddRow.holds Try.pinned (OpenSpec.ofChange fnOrdAddWrong)

/-- 'laws.FnOrdTimes': WHATEVER THE INPUT: true; the input reads as it did. -/
def fnOrdTimesSpec : ChangeSpec := { name := "fnOrdTimes", fn := fun _ => fun
  | [d1, d2] => { results := [.lit (.bool true)], args := [d1, d2] }
  | _ => none }
def fnOrdTimesRow : OpenClaim := { program := "ytfblcanijhnhmaa", sum := "198a54249b8b889aa01f4220d0f0bc380c5f1ce150a65df1c235c1bcade7edc9", func := "loop.example/ordinalhydras/laws.FnOrdTimes", spec := "fnOrdTimes", recurses := true, apart := false }
def FnOrdTimesSaid : Prop := fnOrdTimesRow.holds Try.pinned (OpenSpec.ofChange fnOrdTimesSpec)

/-- ITS FALSE NEIGHBOUR: 'it returns false'. Refute it at one input. -/
def fnOrdTimesWrong : ChangeSpec := { name := "fnOrdTimes", fn := fun _ => fun
  | [d1, d2] => { results := [.lit (.bool false)], args := [d1, d2] }
  | _ => none }
def FnOrdTimesWrongFalsely : Prop := fnOrdTimesRow.holds Try.pinned (OpenSpec.ofChange fnOrdTimesWrong)

/-- 'laws.FnOrdMinus': WHATEVER THE INPUT: true; the input reads as it did. -/
def fnOrdMinusSpec : ChangeSpec := { name := "fnOrdMinus", fn := fun _ => fun
  | [d] => { results := [.lit (.bool true)], args := [d] }
  | _ => none }
def fnOrdMinusRow : OpenClaim := { program := "ytfblcanijhnhmaa", sum := "198a54249b8b889aa01f4220d0f0bc380c5f1ce150a65df1c235c1bcade7edc9", func := "loop.example/ordinalhydras/laws.FnOrdMinus", spec := "fnOrdMinus", recurses := true, apart := false }
def FnOrdMinusSaid : Prop := fnOrdMinusRow.holds Try.pinned (OpenSpec.ofChange fnOrdMinusSpec)

/-- ITS FALSE NEIGHBOUR: 'it returns false'. Refute it at one input. -/
def fnOrdMinusWrong : ChangeSpec := { name := "fnOrdMinus", fn := fun _ => fun
  | [d] => { results := [.lit (.bool false)], args := [d] }
  | _ => none }
def FnOrdMinusWrongFalsely : Prop := fnOrdMinusRow.holds Try.pinned (OpenSpec.ofChange fnOrdMinusWrong)

/-- 'laws.FnOrdDivide': WHATEVER THE INPUT: true; the input reads as it did. -/
def fnOrdDivideSpec : ChangeSpec := { name := "fnOrdDivide", fn := fun _ => fun
  | [d] => { results := [.lit (.bool true)], args := [d] }
  | _ => none }
def fnOrdDivideRow : OpenClaim := { program := "ytfblcanijhnhmaa", sum := "198a54249b8b889aa01f4220d0f0bc380c5f1ce150a65df1c235c1bcade7edc9", func := "loop.example/ordinalhydras/laws.FnOrdDivide", spec := "fnOrdDivide", recurses := true, apart := false }
def FnOrdDivideSaid : Prop := fnOrdDivideRow.holds Try.pinned (OpenSpec.ofChange fnOrdDivideSpec)

/-- ITS FALSE NEIGHBOUR: 'it returns false'. Refute it at one input. -/
def fnOrdDivideWrong : ChangeSpec := { name := "fnOrdDivide", fn := fun _ => fun
  | [d] => { results := [.lit (.bool false)], args := [d] }
  | _ => none }
def FnOrdDivideWrongFalsely : Prop := fnOrdDivideRow.holds Try.pinned (OpenSpec.ofChange fnOrdDivideWrong)

/-- 'laws.FnOrdNatural': WHATEVER THE INPUT: true; the input reads as it did. -/
def fnOrdNaturalSpec : ChangeSpec := { name := "fnOrdNatural", fn := fun _ => fun
  | [d1, d2] => { results := [.lit (.bool true)], args := [d1, d2] }
  | _ => none }
def fnOrdNaturalRow : OpenClaim := { program := "ytfblcanijhnhmaa", sum := "198a54249b8b889aa01f4220d0f0bc380c5f1ce150a65df1c235c1bcade7edc9", func := "loop.example/ordinalhydras/laws.FnOrdNatural", spec := "fnOrdNatural", recurses := true, apart := false }
def FnOrdNaturalSaid : Prop := fnOrdNaturalRow.holds Try.pinned (OpenSpec.ofChange fnOrdNaturalSpec)

/-- ITS FALSE NEIGHBOUR: 'it returns false'. Refute it at one input. -/
def fnOrdNaturalWrong : ChangeSpec := { name := "fnOrdNatural", fn := fun _ => fun
  | [d1, d2] => { results := [.lit (.bool false)], args := [d1, d2] }
  | _ => none }
def FnOrdNaturalWrongFalsely : Prop := fnOrdNaturalRow.holds Try.pinned (OpenSpec.ofChange fnOrdNaturalWrong)

/-- 'laws.FnOrdRaise': WHATEVER THE INPUT: true; the input reads as it did. -/
def fnOrdRaiseSpec : ChangeSpec := { name := "fnOrdRaise", fn := fun _ => fun
  | [d] => { results := [.lit (.bool true)], args := [d] }
  | _ => none }
def fnOrdRaiseRow : OpenClaim := { program := "ytfblcanijhnhmaa", sum := "198a54249b8b889aa01f4220d0f0bc380c5f1ce150a65df1c235c1bcade7edc9", func := "loop.example/ordinalhydras/laws.FnOrdRaise", spec := "fnOrdRaise", recurses := true, apart := false }
def FnOrdRaiseSaid : Prop := fnOrdRaiseRow.holds Try.pinned (OpenSpec.ofChange fnOrdRaiseSpec)

/-- ITS FALSE NEIGHBOUR: 'it returns false'. Refute it at one input. -/
def fnOrdRaiseWrong : ChangeSpec := { name := "fnOrdRaise", fn := fun _ => fun
  | [d] => { results := [.lit (.bool false)], args := [d] }
  | _ => none }
def FnOrdRaiseWrongFalsely : Prop := fnOrdRaiseRow.holds Try.pinned (OpenSpec.ofChange fnOrdRaiseWrong)

/- THE SECOND FORM. 'bulk': how many values and letters a reading holds, each counted each time it is reached (what is shared counts as often as it is met; a slice's spare places count too). A statement '..UptoSaid' is the law's where the arguments, and the package variables that the reading takes, are together of bulk at most 1048576: NARROWER than '..Said'. Prove '..Said' where nothing that the law and all that it calls make is longer than what came in: it says more and counts as full. Else prove '..UptoSaid'. A law counts once. -/
mutual
def uptoBulk {H : Type} : DataW H → Nat
  | .lit (.string bytes) => bytes.length + 1
  | .lit _ => 1
  | .nil => 1
  | .ptr d => uptoBulk d + 1
  | .slice elems spare => uptoBulkAll elems + uptoBulkAll spare + 1
  | .agg parts => uptoBulkAll parts + 1
  | .iface _ d => uptoBulk d + 1
  | .map entries => uptoBulkEntries entries + 1
  | .held _ => 1
def uptoBulkAll {H : Type} : List (DataW H) → Nat
  | [] => 0
  | d :: r => uptoBulk d + uptoBulkAll r
def uptoBulkEntries {H : Type} : List (Lit × DataW H) → Nat
  | [] => 0
  | x :: r => uptoBulkEntry x + uptoBulkEntries r
def uptoBulkEntry {H : Type} : Lit × DataW H → Nat
  | (.string bytes, d) => bytes.length + uptoBulk d + 1
  | (_, d) => uptoBulk d + 1
 end
def uptoSmall : (H : Type) → List (DataW H) → Bool := fun _ ds => decide (uptoBulkAll ds ≤ 1048576)
def OpenSpec.upto (s : _root_.Go.ChangeSpec) : _root_.Go.OpenSpec := { _root_.Go.OpenSpec.ofChange s with cond := some uptoSmall }

/-- 'laws.FnExactOrdAdd', WHERE WHAT IT READS IS OF BULK AT MOST 1048576: true; the input reads as it did. -/
def fnExactOrdAddUptoRow : OpenClaim := { program := "ytfblcanijhnhmaa", sum := "198a54249b8b889aa01f4220d0f0bc380c5f1ce150a65df1c235c1bcade7edc9", func := "loop.example/ordinalhydras/laws.FnExactOrdAdd", spec := "fnExactOrdAdd", recurses := true, apart := false, narrowed := true }
def FnExactOrdAddUptoSaid : Prop := fnExactOrdAddUptoRow.holds Try.pinned (OpenSpec.upto fnExactOrdAddSpec)

/-- 'laws.FnExactOrdMinus', WHERE WHAT IT READS IS OF BULK AT MOST 1048576: true; the input reads as it did. -/
def fnExactOrdMinusUptoRow : OpenClaim := { program := "ytfblcanijhnhmaa", sum := "198a54249b8b889aa01f4220d0f0bc380c5f1ce150a65df1c235c1bcade7edc9", func := "loop.example/ordinalhydras/laws.FnExactOrdMinus", spec := "fnExactOrdMinus", recurses := true, apart := false, narrowed := true }
def FnExactOrdMinusUptoSaid : Prop := fnExactOrdMinusUptoRow.holds Try.pinned (OpenSpec.upto fnExactOrdMinusSpec)

/-- 'laws.FnExactOrdNatural', WHERE WHAT IT READS IS OF BULK AT MOST 1048576: true; the input reads as it did. -/
def fnExactOrdNaturalUptoRow : OpenClaim := { program := "ytfblcanijhnhmaa", sum := "198a54249b8b889aa01f4220d0f0bc380c5f1ce150a65df1c235c1bcade7edc9", func := "loop.example/ordinalhydras/laws.FnExactOrdNatural", spec := "fnExactOrdNatural", recurses := true, apart := false, narrowed := true }
def FnExactOrdNaturalUptoSaid : Prop := fnExactOrdNaturalUptoRow.holds Try.pinned (OpenSpec.upto fnExactOrdNaturalSpec)

/-- 'laws.FnExactOrdTimes', WHERE WHAT IT READS IS OF BULK AT MOST 1048576: true; the input reads as it did. -/
def fnExactOrdTimesUptoRow : OpenClaim := { program := "ytfblcanijhnhmaa", sum := "198a54249b8b889aa01f4220d0f0bc380c5f1ce150a65df1c235c1bcade7edc9", func := "loop.example/ordinalhydras/laws.FnExactOrdTimes", spec := "fnExactOrdTimes", recurses := true, apart := false, narrowed := true }
def FnExactOrdTimesUptoSaid : Prop := fnExactOrdTimesUptoRow.holds Try.pinned (OpenSpec.upto fnExactOrdTimesSpec)

/-- 'laws.FnExactOrdRaise', WHERE WHAT IT READS IS OF BULK AT MOST 1048576: true; the input reads as it did. -/
def fnExactOrdRaiseUptoRow : OpenClaim := { program := "ytfblcanijhnhmaa", sum := "198a54249b8b889aa01f4220d0f0bc380c5f1ce150a65df1c235c1bcade7edc9", func := "loop.example/ordinalhydras/laws.FnExactOrdRaise", spec := "fnExactOrdRaise", recurses := true, apart := false, narrowed := true }
def FnExactOrdRaiseUptoSaid : Prop := fnExactOrdRaiseUptoRow.holds Try.pinned (OpenSpec.upto fnExactOrdRaiseSpec)

/-- 'laws.FnExactOrdDivide', WHERE WHAT IT READS IS OF BULK AT MOST 1048576: true; the input reads as it did. -/
def fnExactOrdDivideUptoRow : OpenClaim := { program := "ytfblcanijhnhmaa", sum := "198a54249b8b889aa01f4220d0f0bc380c5f1ce150a65df1c235c1bcade7edc9", func := "loop.example/ordinalhydras/laws.FnExactOrdDivide", spec := "fnExactOrdDivide", recurses := true, apart := false, narrowed := true }
def FnExactOrdDivideUptoSaid : Prop := fnExactOrdDivideUptoRow.holds Try.pinned (OpenSpec.upto fnExactOrdDivideSpec)

/-- 'laws.FnOrdAdd', WHERE WHAT IT READS IS OF BULK AT MOST 1048576: true; the input reads as it did. -/
def fnOrdAddUptoRow : OpenClaim := { program := "ytfblcanijhnhmaa", sum := "198a54249b8b889aa01f4220d0f0bc380c5f1ce150a65df1c235c1bcade7edc9", func := "loop.example/ordinalhydras/laws.FnOrdAdd", spec := "fnOrdAdd", recurses := true, apart := false, narrowed := true }
def FnOrdAddUptoSaid : Prop := fnOrdAddUptoRow.holds Try.pinned (OpenSpec.upto fnOrdAddSpec)

/-- 'laws.FnOrdTimes', WHERE WHAT IT READS IS OF BULK AT MOST 1048576: true; the input reads as it did. -/
def fnOrdTimesUptoRow : OpenClaim := { program := "ytfblcanijhnhmaa", sum := "198a54249b8b889aa01f4220d0f0bc380c5f1ce150a65df1c235c1bcade7edc9", func := "loop.example/ordinalhydras/laws.FnOrdTimes", spec := "fnOrdTimes", recurses := true, apart := false, narrowed := true }
def FnOrdTimesUptoSaid : Prop := fnOrdTimesUptoRow.holds Try.pinned (OpenSpec.upto fnOrdTimesSpec)

/-- 'laws.FnOrdMinus', WHERE WHAT IT READS IS OF BULK AT MOST 1048576: true; the input reads as it did. -/
def fnOrdMinusUptoRow : OpenClaim := { program := "ytfblcanijhnhmaa", sum := "198a54249b8b889aa01f4220d0f0bc380c5f1ce150a65df1c235c1bcade7edc9", func := "loop.example/ordinalhydras/laws.FnOrdMinus", spec := "fnOrdMinus", recurses := true, apart := false, narrowed := true }
def FnOrdMinusUptoSaid : Prop := fnOrdMinusUptoRow.holds Try.pinned (OpenSpec.upto fnOrdMinusSpec)

/-- 'laws.FnOrdDivide', WHERE WHAT IT READS IS OF BULK AT MOST 1048576: true; the input reads as it did. -/
def fnOrdDivideUptoRow : OpenClaim := { program := "ytfblcanijhnhmaa", sum := "198a54249b8b889aa01f4220d0f0bc380c5f1ce150a65df1c235c1bcade7edc9", func := "loop.example/ordinalhydras/laws.FnOrdDivide", spec := "fnOrdDivide", recurses := true, apart := false, narrowed := true }
def FnOrdDivideUptoSaid : Prop := fnOrdDivideUptoRow.holds Try.pinned (OpenSpec.upto fnOrdDivideSpec)

/-- 'laws.FnOrdNatural', WHERE WHAT IT READS IS OF BULK AT MOST 1048576: true; the input reads as it did. -/
def fnOrdNaturalUptoRow : OpenClaim := { program := "ytfblcanijhnhmaa", sum := "198a54249b8b889aa01f4220d0f0bc380c5f1ce150a65df1c235c1bcade7edc9", func := "loop.example/ordinalhydras/laws.FnOrdNatural", spec := "fnOrdNatural", recurses := true, apart := false, narrowed := true }
def FnOrdNaturalUptoSaid : Prop := fnOrdNaturalUptoRow.holds Try.pinned (OpenSpec.upto fnOrdNaturalSpec)

/-- 'laws.FnOrdRaise', WHERE WHAT IT READS IS OF BULK AT MOST 1048576: true; the input reads as it did. -/
def fnOrdRaiseUptoRow : OpenClaim := { program := "ytfblcanijhnhmaa", sum := "198a54249b8b889aa01f4220d0f0bc380c5f1ce150a65df1c235c1bcade7edc9", func := "loop.example/ordinalhydras/laws.FnOrdRaise", spec := "fnOrdRaise", recurses := true, apart := false, narrowed := true }
def FnOrdRaiseUptoSaid : Prop := fnOrdRaiseUptoRow.holds Try.pinned (OpenSpec.upto fnOrdRaiseSpec)

end Rows
end Go.Proofs.Ytfblcanijhnhmaa
