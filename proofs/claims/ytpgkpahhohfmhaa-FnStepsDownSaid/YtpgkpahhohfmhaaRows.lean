/-
  No cell of these rows narrows 'for every input' (looked for: loops, veiled, ifaces, maps, wideKeys, modest, calm, conditions, laid).
  DERIVED. THE GIVEN ROWS OF THIS SEAT. 8 by the template 'for every input the law returns true; each argument reads behind the call as it read before'; 0 by the template 'total and deterministic' (their statements: YtpgkpahhohfmhaaTotals.lean).
  GIVEN WITH THE SEED: the statements are not yours to turn. If you find one false, say at which input.
  Laid BY PROGRAM, IN A SANDBOX (cutbox-rows.mjs): the forced cells as the released guide's own fill.sh prints them over the translation 139ac42083665efc… (all of the seat's roots in one cut). By AI agents, Wed Nov 11 2026. No macro, syntax, notation, axiom, sorry.
-/
import Derived.Test.YtpgkpahhohfmhaaChecked
import GoSem.Claim
import GoSem.ClaimJoined
import GoSem.ClaimMapViews
import Derived.JoinedTies
import Derived.KernelRfl
namespace Go.Proofs.Ytpgkpahhohfmhaa
/- THE CELL 'sum', in the pinned program and in every row, IS THE sha256 OF THE DUMP (.gsa) THAT YtpgkpahhohfmhaaProg.lean LOADS. Nothing in Lean hashes anything: it is a label: what it is worth is what the hold of that sum in a sandbox is worth. -/
noncomputable def Try.pinned : Pinned := { name := "ytpgkpahhohfmhaa", sum := "139ac42083665efc8d9fae2b33f176e2e014c0dc9490c78cc1837d943441a0a5", checked := Try.checked }
namespace Rows
def none {H : Type} : Left H := { results := [], args := [] }

/-- 'laws.FnOrdInBase': WHATEVER THE INPUT: true; the input reads as it did. -/
def fnOrdInBaseSpec : ChangeSpec := { name := "fnOrdInBase", fn := fun _ => fun
  | [d1, d2] => { results := [.lit (.bool true)], args := [d1, d2] }
  | _ => none }
def fnOrdInBaseRow : OpenClaim := { program := "ytpgkpahhohfmhaa", sum := "139ac42083665efc8d9fae2b33f176e2e014c0dc9490c78cc1837d943441a0a5", func := "loop.example/ordinalhydras/laws.FnOrdInBase", spec := "fnOrdInBase", recurses := true, apart := false }
def FnOrdInBaseSaid : Prop := fnOrdInBaseRow.holds Try.pinned (OpenSpec.ofChange fnOrdInBaseSpec)

/-- ITS FALSE NEIGHBOUR: 'it returns false'. Refute it at one input. -/
def fnOrdInBaseWrong : ChangeSpec := { name := "fnOrdInBase", fn := fun _ => fun
  | [d1, d2] => { results := [.lit (.bool false)], args := [d1, d2] }
  | _ => none }
def FnOrdInBaseWrongFalsely : Prop := fnOrdInBaseRow.holds Try.pinned (OpenSpec.ofChange fnOrdInBaseWrong)

/-- 'laws.FnPlainOrd': WHATEVER THE INPUT: true; the input reads as it did. -/
def fnPlainOrdSpec : ChangeSpec := { name := "fnPlainOrd", fn := fun _ => fun
  | [d] => { results := [.lit (.bool true)], args := [d] }
  | _ => none }
def fnPlainOrdRow : OpenClaim := { program := "ytpgkpahhohfmhaa", sum := "139ac42083665efc8d9fae2b33f176e2e014c0dc9490c78cc1837d943441a0a5", func := "loop.example/ordinalhydras/laws.FnPlainOrd", spec := "fnPlainOrd", recurses := true, apart := false }
def FnPlainOrdSaid : Prop := fnPlainOrdRow.holds Try.pinned (OpenSpec.ofChange fnPlainOrdSpec)

/-- ITS FALSE NEIGHBOUR: 'it returns false'. Refute it at one input. -/
def fnPlainOrdWrong : ChangeSpec := { name := "fnPlainOrd", fn := fun _ => fun
  | [d] => { results := [.lit (.bool false)], args := [d] }
  | _ => none }
def FnPlainOrdWrongFalsely : Prop := fnPlainOrdRow.holds Try.pinned (OpenSpec.ofChange fnPlainOrdWrong)

/-- 'laws.FnPlainNext': WHATEVER THE INPUT: true; the input reads as it did. -/
def fnPlainNextSpec : ChangeSpec := { name := "fnPlainNext", fn := fun _ => fun
  | [d] => { results := [.lit (.bool true)], args := [d] }
  | _ => none }
def fnPlainNextRow : OpenClaim := { program := "ytpgkpahhohfmhaa", sum := "139ac42083665efc8d9fae2b33f176e2e014c0dc9490c78cc1837d943441a0a5", func := "loop.example/ordinalhydras/laws.FnPlainNext", spec := "fnPlainNext", recurses := true, apart := false }
def FnPlainNextSaid : Prop := fnPlainNextRow.holds Try.pinned (OpenSpec.ofChange fnPlainNextSpec)

/-- ITS FALSE NEIGHBOUR: 'it returns false'. Refute it at one input. -/
def fnPlainNextWrong : ChangeSpec := { name := "fnPlainNext", fn := fun _ => fun
  | [d] => { results := [.lit (.bool false)], args := [d] }
  | _ => none }
def FnPlainNextWrongFalsely : Prop := fnPlainNextRow.holds Try.pinned (OpenSpec.ofChange fnPlainNextWrong)

/-- 'laws.FnChangeBase': WHATEVER THE INPUT: true; the input reads as it did. -/
def fnChangeBaseSpec : ChangeSpec := { name := "fnChangeBase", fn := fun _ => fun
  | [d] => { results := [.lit (.bool true)], args := [d] }
  | _ => none }
def fnChangeBaseRow : OpenClaim := { program := "ytpgkpahhohfmhaa", sum := "139ac42083665efc8d9fae2b33f176e2e014c0dc9490c78cc1837d943441a0a5", func := "loop.example/ordinalhydras/laws.FnChangeBase", spec := "fnChangeBase", recurses := true, apart := false }
def FnChangeBaseSaid : Prop := fnChangeBaseRow.holds Try.pinned (OpenSpec.ofChange fnChangeBaseSpec)

/-- ITS FALSE NEIGHBOUR: 'it returns false'. Refute it at one input. -/
def fnChangeBaseWrong : ChangeSpec := { name := "fnChangeBase", fn := fun _ => fun
  | [d] => { results := [.lit (.bool false)], args := [d] }
  | _ => none }
def FnChangeBaseWrongFalsely : Prop := fnChangeBaseRow.holds Try.pinned (OpenSpec.ofChange fnChangeBaseWrong)

/-- 'laws.FnGoodsteinNext': WHATEVER THE INPUT: true; the input reads as it did. -/
def fnGoodsteinNextSpec : ChangeSpec := { name := "fnGoodsteinNext", fn := fun _ => fun
  | [d] => { results := [.lit (.bool true)], args := [d] }
  | _ => none }
def fnGoodsteinNextRow : OpenClaim := { program := "ytpgkpahhohfmhaa", sum := "139ac42083665efc8d9fae2b33f176e2e014c0dc9490c78cc1837d943441a0a5", func := "loop.example/ordinalhydras/laws.FnGoodsteinNext", spec := "fnGoodsteinNext", recurses := true, apart := false }
def FnGoodsteinNextSaid : Prop := fnGoodsteinNextRow.holds Try.pinned (OpenSpec.ofChange fnGoodsteinNextSpec)

/-- ITS FALSE NEIGHBOUR: 'it returns false'. Refute it at one input. -/
def fnGoodsteinNextWrong : ChangeSpec := { name := "fnGoodsteinNext", fn := fun _ => fun
  | [d] => { results := [.lit (.bool false)], args := [d] }
  | _ => none }
def FnGoodsteinNextWrongFalsely : Prop := fnGoodsteinNextRow.holds Try.pinned (OpenSpec.ofChange fnGoodsteinNextWrong)

/-- 'laws.FnSlowValue': WHATEVER THE INPUT: true; the input reads as it did. -/
def fnSlowValueSpec : ChangeSpec := { name := "fnSlowValue", fn := fun _ => fun
  | [d] => { results := [.lit (.bool true)], args := [d] }
  | _ => none }
def fnSlowValueRow : OpenClaim := { program := "ytpgkpahhohfmhaa", sum := "139ac42083665efc8d9fae2b33f176e2e014c0dc9490c78cc1837d943441a0a5", func := "loop.example/ordinalhydras/laws.FnSlowValue", spec := "fnSlowValue", recurses := true, apart := false }
def FnSlowValueSaid : Prop := fnSlowValueRow.holds Try.pinned (OpenSpec.ofChange fnSlowValueSpec)

/-- ITS FALSE NEIGHBOUR: 'it returns false'. Refute it at one input. -/
def fnSlowValueWrong : ChangeSpec := { name := "fnSlowValue", fn := fun _ => fun
  | [d] => { results := [.lit (.bool false)], args := [d] }
  | _ => none }
def FnSlowValueWrongFalsely : Prop := fnSlowValueRow.holds Try.pinned (OpenSpec.ofChange fnSlowValueWrong)

/-- 'laws.FnOrdFall': WHATEVER THE INPUT: true; the input reads as it did. -/
def fnOrdFallSpec : ChangeSpec := { name := "fnOrdFall", fn := fun _ => fun
  | [d] => { results := [.lit (.bool true)], args := [d] }
  | _ => none }
def fnOrdFallRow : OpenClaim := { program := "ytpgkpahhohfmhaa", sum := "139ac42083665efc8d9fae2b33f176e2e014c0dc9490c78cc1837d943441a0a5", func := "loop.example/ordinalhydras/laws.FnOrdFall", spec := "fnOrdFall", recurses := true, apart := false }
def FnOrdFallSaid : Prop := fnOrdFallRow.holds Try.pinned (OpenSpec.ofChange fnOrdFallSpec)

/-- ITS FALSE NEIGHBOUR: 'it returns false'. Refute it at one input. -/
def fnOrdFallWrong : ChangeSpec := { name := "fnOrdFall", fn := fun _ => fun
  | [d] => { results := [.lit (.bool false)], args := [d] }
  | _ => none }
def FnOrdFallWrongFalsely : Prop := fnOrdFallRow.holds Try.pinned (OpenSpec.ofChange fnOrdFallWrong)

/-- 'laws.FnStepsDown': WHATEVER THE INPUT: true; the input reads as it did. -/
def fnStepsDownSpec : ChangeSpec := { name := "fnStepsDown", fn := fun _ => fun
  | [d1, d2] => { results := [.lit (.bool true)], args := [d1, d2] }
  | _ => none }
def fnStepsDownRow : OpenClaim := { program := "ytpgkpahhohfmhaa", sum := "139ac42083665efc8d9fae2b33f176e2e014c0dc9490c78cc1837d943441a0a5", func := "loop.example/ordinalhydras/laws.FnStepsDown", spec := "fnStepsDown", recurses := true, apart := false }
def FnStepsDownSaid : Prop := fnStepsDownRow.holds Try.pinned (OpenSpec.ofChange fnStepsDownSpec)

/-- ITS FALSE NEIGHBOUR: 'it returns false'. Refute it at one input. -/
def fnStepsDownWrong : ChangeSpec := { name := "fnStepsDown", fn := fun _ => fun
  | [d1, d2] => { results := [.lit (.bool false)], args := [d1, d2] }
  | _ => none }
def FnStepsDownWrongFalsely : Prop := fnStepsDownRow.holds Try.pinned (OpenSpec.ofChange fnStepsDownWrong)

/- THE SECOND FORM. 'bulk': how many values and letters a reading holds, each counted each time it is reached (what is shared counts as often as it is met; a slice's spare places count too). A statement '..UptoSaid' is the law's where the arguments, and the package variables that the reading takes, are together of bulk at most 1048576: NARROWER than '..Said'. Prove '..Said' where nothing that the law and all that it calls make is longer than what came in: it says more and counts as full. Else prove '..UptoSaid'. A law counts once. -/
mutual
def uptoBulk {H : Type} : DataW H → Nat
  | .lit (.string bytes) => bytes.length + 1
  | .lit _ => 1
  | .nil => 1
  | .ptr d => uptoBulk d + 1
  | .slice elems spare => uptoBulkAll elems + uptoBulkAll spare + 1
  | .agg parts => uptoBulkAll parts + 1
  | .iface _ d => uptoBulk d + 1
  | .map entries => uptoBulkEntries entries + 1
  | .held _ => 1
def uptoBulkAll {H : Type} : List (DataW H) → Nat
  | [] => 0
  | d :: r => uptoBulk d + uptoBulkAll r
def uptoBulkEntries {H : Type} : List (Lit × DataW H) → Nat
  | [] => 0
  | x :: r => uptoBulkEntry x + uptoBulkEntries r
def uptoBulkEntry {H : Type} : Lit × DataW H → Nat
  | (.string bytes, d) => bytes.length + uptoBulk d + 1
  | (_, d) => uptoBulk d + 1
 end
def uptoSmall : (H : Type) → List (DataW H) → Bool := fun _ ds => decide (uptoBulkAll ds ≤ 1048576)
def OpenSpec.upto (s : _root_.Go.ChangeSpec) : _root_.Go.OpenSpec := { _root_.Go.OpenSpec.ofChange s with cond := some uptoSmall }

/-- 'laws.FnOrdInBase', WHERE WHAT IT READS IS OF BULK AT MOST 1048576: true; the input reads as it did. -/
def fnOrdInBaseUptoRow : OpenClaim := { program := "ytpgkpahhohfmhaa", sum := "139ac42083665efc8d9fae2b33f176e2e014c0dc9490c78cc1837d943441a0a5", func := "loop.example/ordinalhydras/laws.FnOrdInBase", spec := "fnOrdInBase", recurses := true, apart := false, narrowed := true }
def FnOrdInBaseUptoSaid : Prop := fnOrdInBaseUptoRow.holds Try.pinned (OpenSpec.upto fnOrdInBaseSpec)

/-- 'laws.FnPlainOrd', WHERE WHAT IT READS IS OF BULK AT MOST 1048576: true; the input reads as it did. -/
def fnPlainOrdUptoRow : OpenClaim := { program := "ytpgkpahhohfmhaa", sum := "139ac42083665efc8d9fae2b33f176e2e014c0dc9490c78cc1837d943441a0a5", func := "loop.example/ordinalhydras/laws.FnPlainOrd", spec := "fnPlainOrd", recurses := true, apart := false, narrowed := true }
def FnPlainOrdUptoSaid : Prop := fnPlainOrdUptoRow.holds Try.pinned (OpenSpec.upto fnPlainOrdSpec)

/-- 'laws.FnPlainNext', WHERE WHAT IT READS IS OF BULK AT MOST 1048576: true; the input reads as it did. -/
def fnPlainNextUptoRow : OpenClaim := { program := "ytpgkpahhohfmhaa", sum := "139ac42083665efc8d9fae2b33f176e2e014c0dc9490c78cc1837d943441a0a5", func := "loop.example/ordinalhydras/laws.FnPlainNext", spec := "fnPlainNext", recurses := true, apart := false, narrowed := true }
def FnPlainNextUptoSaid : Prop := fnPlainNextUptoRow.holds Try.pinned (OpenSpec.upto fnPlainNextSpec)

/-- 'laws.FnChangeBase', WHERE WHAT IT READS IS OF BULK AT MOST 1048576: true; the input reads as it did. -/
def fnChangeBaseUptoRow : OpenClaim := { program := "ytpgkpahhohfmhaa", sum := "139ac42083665efc8d9fae2b33f176e2e014c0dc9490c78cc1837d943441a0a5", func := "loop.example/ordinalhydras/laws.FnChangeBase", spec := "fnChangeBase", recurses := true, apart := false, narrowed := true }
def FnChangeBaseUptoSaid : Prop := fnChangeBaseUptoRow.holds Try.pinned (OpenSpec.upto fnChangeBaseSpec)

/-- 'laws.FnGoodsteinNext', WHERE WHAT IT READS IS OF BULK AT MOST 1048576: true; the input reads as it did. -/
def fnGoodsteinNextUptoRow : OpenClaim := { program := "ytpgkpahhohfmhaa", sum := "139ac42083665efc8d9fae2b33f176e2e014c0dc9490c78cc1837d943441a0a5", func := "loop.example/ordinalhydras/laws.FnGoodsteinNext", spec := "fnGoodsteinNext", recurses := true, apart := false, narrowed := true }
def FnGoodsteinNextUptoSaid : Prop := fnGoodsteinNextUptoRow.holds Try.pinned (OpenSpec.upto fnGoodsteinNextSpec)

/-- 'laws.FnSlowValue', WHERE WHAT IT READS IS OF BULK AT MOST 1048576: true; the input reads as it did. -/
def fnSlowValueUptoRow : OpenClaim := { program := "ytpgkpahhohfmhaa", sum := "139ac42083665efc8d9fae2b33f176e2e014c0dc9490c78cc1837d943441a0a5", func := "loop.example/ordinalhydras/laws.FnSlowValue", spec := "fnSlowValue", recurses := true, apart := false, narrowed := true }
def FnSlowValueUptoSaid : Prop := fnSlowValueUptoRow.holds Try.pinned (OpenSpec.upto fnSlowValueSpec)

/-- 'laws.FnOrdFall', WHERE WHAT IT READS IS OF BULK AT MOST 1048576: true; the input reads as it did. -/
def fnOrdFallUptoRow : OpenClaim := { program := "ytpgkpahhohfmhaa", sum := "139ac42083665efc8d9fae2b33f176e2e014c0dc9490c78cc1837d943441a0a5", func := "loop.example/ordinalhydras/laws.FnOrdFall", spec := "fnOrdFall", recurses := true, apart := false, narrowed := true }
def FnOrdFallUptoSaid : Prop := fnOrdFallUptoRow.holds Try.pinned (OpenSpec.upto fnOrdFallSpec)

/-- 'laws.FnStepsDown', WHERE WHAT IT READS IS OF BULK AT MOST 1048576: true; the input reads as it did. -/
def fnStepsDownUptoRow : OpenClaim := { program := "ytpgkpahhohfmhaa", sum := "139ac42083665efc8d9fae2b33f176e2e014c0dc9490c78cc1837d943441a0a5", func := "loop.example/ordinalhydras/laws.FnStepsDown", spec := "fnStepsDown", recurses := true, apart := false, narrowed := true }
def FnStepsDownUptoSaid : Prop := fnStepsDownUptoRow.holds Try.pinned (OpenSpec.upto fnStepsDownSpec)

end Rows
end Go.Proofs.Ytpgkpahhohfmhaa
