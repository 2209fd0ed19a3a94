/-
  No cell of these rows narrows 'for every input' (looked for: loops, veiled, ifaces, maps, wideKeys, modest, calm, conditions, laid).
  DERIVED. THE GIVEN ROWS OF THIS SEAT. 12 by the template 'for every input the law returns true; each argument reads behind the call as it read before'; 0 by the template 'total and deterministic' (their statements: YtgohpemgjladeaaTotals.lean).
  GIVEN WITH THE SEED: the statements are not yours to turn. If you find one false, say at which input.
  Laid BY PROGRAM, IN A SANDBOX (cutbox-rows.mjs): the forced cells as the released guide's own fill.sh prints them over the translation 4bea04774c93e685… (all of the seat's roots in one cut). By AI agents, Wed Nov 11 2026. No macro, syntax, notation, axiom, sorry.
-/
import Derived.Test.YtgohpemgjladeaaChecked
import GoSem.Claim
import GoSem.ClaimJoined
import GoSem.ClaimMapViews
import Derived.JoinedTies
import Derived.KernelRfl
namespace Go.Proofs.Ytgohpemgjladeaa
/- THE CELL 'sum', in the pinned program and in every row, IS THE sha256 OF THE DUMP (.gsa) THAT YtgohpemgjladeaaProg.lean LOADS. Nothing in Lean hashes anything: it is a label: what it is worth is what the hold of that sum in a sandbox is worth. -/
noncomputable def Try.pinned : Pinned := { name := "ytgohpemgjladeaa", sum := "4bea04774c93e68538119052773d358647672020a1462d37a5f6cf03c387c034", checked := Try.checked }
namespace Rows
def none {H : Type} : Left H := { results := [], args := [] }

/-- 'laws.FnExactConstants': WHATEVER THE INPUT: true; the input reads as it did. -/
def fnExactConstantsSpec : ChangeSpec := { name := "fnExactConstants", fn := fun _ => fun
  | [] => { results := [.lit (.bool true)], args := [] }
  | _ => none }
def fnExactConstantsRow : OpenClaim := { program := "ytgohpemgjladeaa", sum := "4bea04774c93e68538119052773d358647672020a1462d37a5f6cf03c387c034", func := "loop.example/ordinalhydras/laws.FnExactConstants", spec := "fnExactConstants", apart := false }
def FnExactConstantsSaid : Prop := fnExactConstantsRow.holds Try.pinned (OpenSpec.ofChange fnExactConstantsSpec)

/-- ITS FALSE NEIGHBOUR: 'it returns false'. Refute it at one input. -/
def fnExactConstantsWrong : ChangeSpec := { name := "fnExactConstants", fn := fun _ => fun
  | [] => { results := [.lit (.bool false)], args := [] }
  | _ => none }
def FnExactConstantsWrongFalsely : Prop := fnExactConstantsRow.holds Try.pinned (OpenSpec.ofChange fnExactConstantsWrong)

/-- 'laws.FnExactPlainNext': WHATEVER THE INPUT: true; the input reads as it did. -/
def fnExactPlainNextSpec : ChangeSpec := { name := "fnExactPlainNext", fn := fun _ => fun
  | [d1, d2] => { results := [.lit (.bool true)], args := [d1, d2] }
  | _ => none }
def fnExactPlainNextRow : OpenClaim := { program := "ytgohpemgjladeaa", sum := "4bea04774c93e68538119052773d358647672020a1462d37a5f6cf03c387c034", func := "loop.example/ordinalhydras/laws.FnExactPlainNext", spec := "fnExactPlainNext", apart := false }
def FnExactPlainNextSaid : Prop := fnExactPlainNextRow.holds Try.pinned (OpenSpec.ofChange fnExactPlainNextSpec)

/-- ITS FALSE NEIGHBOUR: 'it returns false'. Refute it at one input. -/
def fnExactPlainNextWrong : ChangeSpec := { name := "fnExactPlainNext", fn := fun _ => fun
  | [d1, d2] => { results := [.lit (.bool false)], args := [d1, d2] }
  | _ => none }
def FnExactPlainNextWrongFalsely : Prop := fnExactPlainNextRow.holds Try.pinned (OpenSpec.ofChange fnExactPlainNextWrong)

/-- 'laws.FnExactOrdOf': WHATEVER THE INPUT: true; the input reads as it did. -/
def fnExactOrdOfSpec : ChangeSpec := { name := "fnExactOrdOf", fn := fun _ => fun
  | [d] => { results := [.lit (.bool true)], args := [d] }
  | _ => none }
def fnExactOrdOfRow : OpenClaim := { program := "ytgohpemgjladeaa", sum := "4bea04774c93e68538119052773d358647672020a1462d37a5f6cf03c387c034", func := "loop.example/ordinalhydras/laws.FnExactOrdOf", spec := "fnExactOrdOf", recurses := true, apart := false }
def FnExactOrdOfSaid : Prop := fnExactOrdOfRow.holds Try.pinned (OpenSpec.ofChange fnExactOrdOfSpec)

/-- ITS FALSE NEIGHBOUR: 'it returns false'. Refute it at one input. -/
def fnExactOrdOfWrong : ChangeSpec := { name := "fnExactOrdOf", fn := fun _ => fun
  | [d] => { results := [.lit (.bool false)], args := [d] }
  | _ => none }
def FnExactOrdOfWrongFalsely : Prop := fnExactOrdOfRow.holds Try.pinned (OpenSpec.ofChange fnExactOrdOfWrong)

/-- 'laws.FnExactOrdTower': WHATEVER THE INPUT: true; the input reads as it did. -/
def fnExactOrdTowerSpec : ChangeSpec := { name := "fnExactOrdTower", fn := fun _ => fun
  | [d] => { results := [.lit (.bool true)], args := [d] }
  | _ => none }
def fnExactOrdTowerRow : OpenClaim := { program := "ytgohpemgjladeaa", sum := "4bea04774c93e68538119052773d358647672020a1462d37a5f6cf03c387c034", func := "loop.example/ordinalhydras/laws.FnExactOrdTower", spec := "fnExactOrdTower", recurses := true, apart := false }
def FnExactOrdTowerSaid : Prop := fnExactOrdTowerRow.holds Try.pinned (OpenSpec.ofChange fnExactOrdTowerSpec)

/-- ITS FALSE NEIGHBOUR: 'it returns false'. Refute it at one input. -/
def fnExactOrdTowerWrong : ChangeSpec := { name := "fnExactOrdTower", fn := fun _ => fun
  | [d] => { results := [.lit (.bool false)], args := [d] }
  | _ => none }
def FnExactOrdTowerWrongFalsely : Prop := fnExactOrdTowerRow.holds Try.pinned (OpenSpec.ofChange fnExactOrdTowerWrong)

/-- 'laws.FnExactOrdInBase': WHATEVER THE INPUT: true; the input reads as it did. -/
def fnExactOrdInBaseSpec : ChangeSpec := { name := "fnExactOrdInBase", fn := fun _ => fun
  | [d1, d2] => { results := [.lit (.bool true)], args := [d1, d2] }
  | _ => none }
def fnExactOrdInBaseRow : OpenClaim := { program := "ytgohpemgjladeaa", sum := "4bea04774c93e68538119052773d358647672020a1462d37a5f6cf03c387c034", func := "loop.example/ordinalhydras/laws.FnExactOrdInBase", spec := "fnExactOrdInBase", recurses := true, apart := false }
def FnExactOrdInBaseSaid : Prop := fnExactOrdInBaseRow.holds Try.pinned (OpenSpec.ofChange fnExactOrdInBaseSpec)

/-- ITS FALSE NEIGHBOUR: 'it returns false'. Refute it at one input. -/
def fnExactOrdInBaseWrong : ChangeSpec := { name := "fnExactOrdInBase", fn := fun _ => fun
  | [d1, d2] => { results := [.lit (.bool false)], args := [d1, d2] }
  | _ => none }
def FnExactOrdInBaseWrongFalsely : Prop := fnExactOrdInBaseRow.holds Try.pinned (OpenSpec.ofChange fnExactOrdInBaseWrong)

/-- 'laws.FnExactPlainOrd': WHATEVER THE INPUT: true; the input reads as it did. -/
def fnExactPlainOrdSpec : ChangeSpec := { name := "fnExactPlainOrd", fn := fun _ => fun
  | [d1, d2] => { results := [.lit (.bool true)], args := [d1, d2] }
  | _ => none }
def fnExactPlainOrdRow : OpenClaim := { program := "ytgohpemgjladeaa", sum := "4bea04774c93e68538119052773d358647672020a1462d37a5f6cf03c387c034", func := "loop.example/ordinalhydras/laws.FnExactPlainOrd", spec := "fnExactPlainOrd", recurses := true, apart := false }
def FnExactPlainOrdSaid : Prop := fnExactPlainOrdRow.holds Try.pinned (OpenSpec.ofChange fnExactPlainOrdSpec)

/-- ITS FALSE NEIGHBOUR: 'it returns false'. Refute it at one input. -/
def fnExactPlainOrdWrong : ChangeSpec := { name := "fnExactPlainOrd", fn := fun _ => fun
  | [d1, d2] => { results := [.lit (.bool false)], args := [d1, d2] }
  | _ => none }
def FnExactPlainOrdWrongFalsely : Prop := fnExactPlainOrdRow.holds Try.pinned (OpenSpec.ofChange fnExactPlainOrdWrong)

/-- 'laws.FnExactOrdValid': WHATEVER THE INPUT: true; the input reads as it did. -/
def fnExactOrdValidSpec : ChangeSpec := { name := "fnExactOrdValid", fn := fun _ => fun
  | [d] => { results := [.lit (.bool true)], args := [d] }
  | _ => none }
def fnExactOrdValidRow : OpenClaim := { program := "ytgohpemgjladeaa", sum := "4bea04774c93e68538119052773d358647672020a1462d37a5f6cf03c387c034", func := "loop.example/ordinalhydras/laws.FnExactOrdValid", spec := "fnExactOrdValid", recurses := true, apart := false }
def FnExactOrdValidSaid : Prop := fnExactOrdValidRow.holds Try.pinned (OpenSpec.ofChange fnExactOrdValidSpec)

/-- ITS FALSE NEIGHBOUR: 'it returns false'. Refute it at one input. -/
def fnExactOrdValidWrong : ChangeSpec := { name := "fnExactOrdValid", fn := fun _ => fun
  | [d] => { results := [.lit (.bool false)], args := [d] }
  | _ => none }
def FnExactOrdValidWrongFalsely : Prop := fnExactOrdValidRow.holds Try.pinned (OpenSpec.ofChange fnExactOrdValidWrong)

/-- 'laws.FnExactOrdCompare': WHATEVER THE INPUT: true; the input reads as it did. -/
def fnExactOrdCompareSpec : ChangeSpec := { name := "fnExactOrdCompare", fn := fun _ => fun
  | [d1, d2] => { results := [.lit (.bool true)], args := [d1, d2] }
  | _ => none }
def fnExactOrdCompareRow : OpenClaim := { program := "ytgohpemgjladeaa", sum := "4bea04774c93e68538119052773d358647672020a1462d37a5f6cf03c387c034", func := "loop.example/ordinalhydras/laws.FnExactOrdCompare", spec := "fnExactOrdCompare", recurses := true, apart := false }
def FnExactOrdCompareSaid : Prop := fnExactOrdCompareRow.holds Try.pinned (OpenSpec.ofChange fnExactOrdCompareSpec)

/-- ITS FALSE NEIGHBOUR: 'it returns false'. Refute it at one input. -/
def fnExactOrdCompareWrong : ChangeSpec := { name := "fnExactOrdCompare", fn := fun _ => fun
  | [d1, d2] => { results := [.lit (.bool false)], args := [d1, d2] }
  | _ => none }
def FnExactOrdCompareWrongFalsely : Prop := fnExactOrdCompareRow.holds Try.pinned (OpenSpec.ofChange fnExactOrdCompareWrong)

/-- 'laws.FnExactOrdDepth': WHATEVER THE INPUT: true; the input reads as it did. -/
def fnExactOrdDepthSpec : ChangeSpec := { name := "fnExactOrdDepth", fn := fun _ => fun
  | [d] => { results := [.lit (.bool true)], args := [d] }
  | _ => none }
def fnExactOrdDepthRow : OpenClaim := { program := "ytgohpemgjladeaa", sum := "4bea04774c93e68538119052773d358647672020a1462d37a5f6cf03c387c034", func := "loop.example/ordinalhydras/laws.FnExactOrdDepth", spec := "fnExactOrdDepth", recurses := true, apart := false }
def FnExactOrdDepthSaid : Prop := fnExactOrdDepthRow.holds Try.pinned (OpenSpec.ofChange fnExactOrdDepthSpec)

/-- ITS FALSE NEIGHBOUR: 'it returns false'. Refute it at one input. -/
def fnExactOrdDepthWrong : ChangeSpec := { name := "fnExactOrdDepth", fn := fun _ => fun
  | [d] => { results := [.lit (.bool false)], args := [d] }
  | _ => none }
def FnExactOrdDepthWrongFalsely : Prop := fnExactOrdDepthRow.holds Try.pinned (OpenSpec.ofChange fnExactOrdDepthWrong)

/-- 'laws.FnExactOrdNumber': WHATEVER THE INPUT: true; the input reads as it did. -/
def fnExactOrdNumberSpec : ChangeSpec := { name := "fnExactOrdNumber", fn := fun _ => fun
  | [d] => { results := [.lit (.bool true)], args := [d] }
  | _ => none }
def fnExactOrdNumberRow : OpenClaim := { program := "ytgohpemgjladeaa", sum := "4bea04774c93e68538119052773d358647672020a1462d37a5f6cf03c387c034", func := "loop.example/ordinalhydras/laws.FnExactOrdNumber", spec := "fnExactOrdNumber", recurses := true, apart := false }
def FnExactOrdNumberSaid : Prop := fnExactOrdNumberRow.holds Try.pinned (OpenSpec.ofChange fnExactOrdNumberSpec)

/-- ITS FALSE NEIGHBOUR: 'it returns false'. Refute it at one input. -/
def fnExactOrdNumberWrong : ChangeSpec := { name := "fnExactOrdNumber", fn := fun _ => fun
  | [d] => { results := [.lit (.bool false)], args := [d] }
  | _ => none }
def FnExactOrdNumberWrongFalsely : Prop := fnExactOrdNumberRow.holds Try.pinned (OpenSpec.ofChange fnExactOrdNumberWrong)

/-- 'laws.FnExactOrdMost': WHATEVER THE INPUT: true; the input reads as it did. -/
def fnExactOrdMostSpec : ChangeSpec := { name := "fnExactOrdMost", fn := fun _ => fun
  | [d] => { results := [.lit (.bool true)], args := [d] }
  | _ => none }
def fnExactOrdMostRow : OpenClaim := { program := "ytgohpemgjladeaa", sum := "4bea04774c93e68538119052773d358647672020a1462d37a5f6cf03c387c034", func := "loop.example/ordinalhydras/laws.FnExactOrdMost", spec := "fnExactOrdMost", recurses := true, apart := false }
def FnExactOrdMostSaid : Prop := fnExactOrdMostRow.holds Try.pinned (OpenSpec.ofChange fnExactOrdMostSpec)

/-- ITS FALSE NEIGHBOUR: 'it returns false'. Refute it at one input. -/
def fnExactOrdMostWrong : ChangeSpec := { name := "fnExactOrdMost", fn := fun _ => fun
  | [d] => { results := [.lit (.bool false)], args := [d] }
  | _ => none }
def FnExactOrdMostWrongFalsely : Prop := fnExactOrdMostRow.holds Try.pinned (OpenSpec.ofChange fnExactOrdMostWrong)

/-- 'laws.FnExactBaseOk': WHATEVER THE INPUT: true; the input reads as it did. -/
def fnExactBaseOkSpec : ChangeSpec := { name := "fnExactBaseOk", fn := fun _ => fun
  | [d1, d2] => { results := [.lit (.bool true)], args := [d1, d2] }
  | _ => none }
def fnExactBaseOkRow : OpenClaim := { program := "ytgohpemgjladeaa", sum := "4bea04774c93e68538119052773d358647672020a1462d37a5f6cf03c387c034", func := "loop.example/ordinalhydras/laws.FnExactBaseOk", spec := "fnExactBaseOk", recurses := true, apart := false }
def FnExactBaseOkSaid : Prop := fnExactBaseOkRow.holds Try.pinned (OpenSpec.ofChange fnExactBaseOkSpec)

/-- ITS FALSE NEIGHBOUR: 'it returns false'. Refute it at one input. -/
def fnExactBaseOkWrong : ChangeSpec := { name := "fnExactBaseOk", fn := fun _ => fun
  | [d1, d2] => { results := [.lit (.bool false)], args := [d1, d2] }
  | _ => none }
def FnExactBaseOkWrongFalsely : Prop := fnExactBaseOkRow.holds Try.pinned (OpenSpec.ofChange fnExactBaseOkWrong)

/- THE SECOND FORM. 'bulk': how many values and letters a reading holds, each counted each time it is reached (what is shared counts as often as it is met; a slice's spare places count too). A statement '..UptoSaid' is the law's where the arguments, and the package variables that the reading takes, are together of bulk at most 1048576: NARROWER than '..Said'. Prove '..Said' where nothing that the law and all that it calls make is longer than what came in: it says more and counts as full. Else prove '..UptoSaid'. A law counts once. -/
mutual
def uptoBulk {H : Type} : DataW H → Nat
  | .lit (.string bytes) => bytes.length + 1
  | .lit _ => 1
  | .nil => 1
  | .ptr d => uptoBulk d + 1
  | .slice elems spare => uptoBulkAll elems + uptoBulkAll spare + 1
  | .agg parts => uptoBulkAll parts + 1
  | .iface _ d => uptoBulk d + 1
  | .map entries => uptoBulkEntries entries + 1
  | .held _ => 1
def uptoBulkAll {H : Type} : List (DataW H) → Nat
  | [] => 0
  | d :: r => uptoBulk d + uptoBulkAll r
def uptoBulkEntries {H : Type} : List (Lit × DataW H) → Nat
  | [] => 0
  | x :: r => uptoBulkEntry x + uptoBulkEntries r
def uptoBulkEntry {H : Type} : Lit × DataW H → Nat
  | (.string bytes, d) => bytes.length + uptoBulk d + 1
  | (_, d) => uptoBulk d + 1
 end
def uptoSmall : (H : Type) → List (DataW H) → Bool := fun _ ds => decide (uptoBulkAll ds ≤ 1048576)
def OpenSpec.upto (s : _root_.Go.ChangeSpec) : _root_.Go.OpenSpec := { _root_.Go.OpenSpec.ofChange s with cond := some uptoSmall }

/-- 'laws.FnExactConstants', WHERE WHAT IT READS IS OF BULK AT MOST 1048576: true; the input reads as it did. -/
def fnExactConstantsUptoRow : OpenClaim := { program := "ytgohpemgjladeaa", sum := "4bea04774c93e68538119052773d358647672020a1462d37a5f6cf03c387c034", func := "loop.example/ordinalhydras/laws.FnExactConstants", spec := "fnExactConstants", apart := false, narrowed := true }
def FnExactConstantsUptoSaid : Prop := fnExactConstantsUptoRow.holds Try.pinned (OpenSpec.upto fnExactConstantsSpec)

/-- 'laws.FnExactPlainNext', WHERE WHAT IT READS IS OF BULK AT MOST 1048576: true; the input reads as it did. -/
def fnExactPlainNextUptoRow : OpenClaim := { program := "ytgohpemgjladeaa", sum := "4bea04774c93e68538119052773d358647672020a1462d37a5f6cf03c387c034", func := "loop.example/ordinalhydras/laws.FnExactPlainNext", spec := "fnExactPlainNext", apart := false, narrowed := true }
def FnExactPlainNextUptoSaid : Prop := fnExactPlainNextUptoRow.holds Try.pinned (OpenSpec.upto fnExactPlainNextSpec)

/-- 'laws.FnExactOrdOf', WHERE WHAT IT READS IS OF BULK AT MOST 1048576: true; the input reads as it did. -/
def fnExactOrdOfUptoRow : OpenClaim := { program := "ytgohpemgjladeaa", sum := "4bea04774c93e68538119052773d358647672020a1462d37a5f6cf03c387c034", func := "loop.example/ordinalhydras/laws.FnExactOrdOf", spec := "fnExactOrdOf", recurses := true, apart := false, narrowed := true }
def FnExactOrdOfUptoSaid : Prop := fnExactOrdOfUptoRow.holds Try.pinned (OpenSpec.upto fnExactOrdOfSpec)

/-- 'laws.FnExactOrdTower', WHERE WHAT IT READS IS OF BULK AT MOST 1048576: true; the input reads as it did. -/
def fnExactOrdTowerUptoRow : OpenClaim := { program := "ytgohpemgjladeaa", sum := "4bea04774c93e68538119052773d358647672020a1462d37a5f6cf03c387c034", func := "loop.example/ordinalhydras/laws.FnExactOrdTower", spec := "fnExactOrdTower", recurses := true, apart := false, narrowed := true }
def FnExactOrdTowerUptoSaid : Prop := fnExactOrdTowerUptoRow.holds Try.pinned (OpenSpec.upto fnExactOrdTowerSpec)

/-- 'laws.FnExactOrdInBase', WHERE WHAT IT READS IS OF BULK AT MOST 1048576: true; the input reads as it did. -/
def fnExactOrdInBaseUptoRow : OpenClaim := { program := "ytgohpemgjladeaa", sum := "4bea04774c93e68538119052773d358647672020a1462d37a5f6cf03c387c034", func := "loop.example/ordinalhydras/laws.FnExactOrdInBase", spec := "fnExactOrdInBase", recurses := true, apart := false, narrowed := true }
def FnExactOrdInBaseUptoSaid : Prop := fnExactOrdInBaseUptoRow.holds Try.pinned (OpenSpec.upto fnExactOrdInBaseSpec)

/-- 'laws.FnExactPlainOrd', WHERE WHAT IT READS IS OF BULK AT MOST 1048576: true; the input reads as it did. -/
def fnExactPlainOrdUptoRow : OpenClaim := { program := "ytgohpemgjladeaa", sum := "4bea04774c93e68538119052773d358647672020a1462d37a5f6cf03c387c034", func := "loop.example/ordinalhydras/laws.FnExactPlainOrd", spec := "fnExactPlainOrd", recurses := true, apart := false, narrowed := true }
def FnExactPlainOrdUptoSaid : Prop := fnExactPlainOrdUptoRow.holds Try.pinned (OpenSpec.upto fnExactPlainOrdSpec)

/-- 'laws.FnExactOrdValid', WHERE WHAT IT READS IS OF BULK AT MOST 1048576: true; the input reads as it did. -/
def fnExactOrdValidUptoRow : OpenClaim := { program := "ytgohpemgjladeaa", sum := "4bea04774c93e68538119052773d358647672020a1462d37a5f6cf03c387c034", func := "loop.example/ordinalhydras/laws.FnExactOrdValid", spec := "fnExactOrdValid", recurses := true, apart := false, narrowed := true }
def FnExactOrdValidUptoSaid : Prop := fnExactOrdValidUptoRow.holds Try.pinned (OpenSpec.upto fnExactOrdValidSpec)

/-- 'laws.FnExactOrdCompare', WHERE WHAT IT READS IS OF BULK AT MOST 1048576: true; the input reads as it did. -/
def fnExactOrdCompareUptoRow : OpenClaim := { program := "ytgohpemgjladeaa", sum := "4bea04774c93e68538119052773d358647672020a1462d37a5f6cf03c387c034", func := "loop.example/ordinalhydras/laws.FnExactOrdCompare", spec := "fnExactOrdCompare", recurses := true, apart := false, narrowed := true }
def FnExactOrdCompareUptoSaid : Prop := fnExactOrdCompareUptoRow.holds Try.pinned (OpenSpec.upto fnExactOrdCompareSpec)

/-- 'laws.FnExactOrdDepth', WHERE WHAT IT READS IS OF BULK AT MOST 1048576: true; the input reads as it did. -/
def fnExactOrdDepthUptoRow : OpenClaim := { program := "ytgohpemgjladeaa", sum := "4bea04774c93e68538119052773d358647672020a1462d37a5f6cf03c387c034", func := "loop.example/ordinalhydras/laws.FnExactOrdDepth", spec := "fnExactOrdDepth", recurses := true, apart := false, narrowed := true }
def FnExactOrdDepthUptoSaid : Prop := fnExactOrdDepthUptoRow.holds Try.pinned (OpenSpec.upto fnExactOrdDepthSpec)

/-- 'laws.FnExactOrdNumber', WHERE WHAT IT READS IS OF BULK AT MOST 1048576: true; the input reads as it did. -/
def fnExactOrdNumberUptoRow : OpenClaim := { program := "ytgohpemgjladeaa", sum := "4bea04774c93e68538119052773d358647672020a1462d37a5f6cf03c387c034", func := "loop.example/ordinalhydras/laws.FnExactOrdNumber", spec := "fnExactOrdNumber", recurses := true, apart := false, narrowed := true }
def FnExactOrdNumberUptoSaid : Prop := fnExactOrdNumberUptoRow.holds Try.pinned (OpenSpec.upto fnExactOrdNumberSpec)

/-- 'laws.FnExactOrdMost', WHERE WHAT IT READS IS OF BULK AT MOST 1048576: true; the input reads as it did. -/
def fnExactOrdMostUptoRow : OpenClaim := { program := "ytgohpemgjladeaa", sum := "4bea04774c93e68538119052773d358647672020a1462d37a5f6cf03c387c034", func := "loop.example/ordinalhydras/laws.FnExactOrdMost", spec := "fnExactOrdMost", recurses := true, apart := false, narrowed := true }
def FnExactOrdMostUptoSaid : Prop := fnExactOrdMostUptoRow.holds Try.pinned (OpenSpec.upto fnExactOrdMostSpec)

/-- 'laws.FnExactBaseOk', WHERE WHAT IT READS IS OF BULK AT MOST 1048576: true; the input reads as it did. -/
def fnExactBaseOkUptoRow : OpenClaim := { program := "ytgohpemgjladeaa", sum := "4bea04774c93e68538119052773d358647672020a1462d37a5f6cf03c387c034", func := "loop.example/ordinalhydras/laws.FnExactBaseOk", spec := "fnExactBaseOk", recurses := true, apart := false, narrowed := true }
def FnExactBaseOkUptoSaid : Prop := fnExactBaseOkUptoRow.holds Try.pinned (OpenSpec.upto fnExactBaseOkSpec)

end Rows
end Go.Proofs.Ytgohpemgjladeaa
