/-
  DERIVED. GIVEN WITH THE SEED: THE CARDS: each row of YtbdbldhpglponaaDoorRows.lean that lists a variable, with what it lists TIED to the program's text (the seventh form; the later family's looks); each row that meets fmt, with fmt's text TOLD by the authors' own Lean function (tested against real Go, not proved from fmt's source: count such statements apart). THE CARD IS WHAT COUNTS. Prove the row's statement (the work); the ties are given (YtbdbldhpglponaaDoorTie.lean); close each card by the builder's one call (the guide's Derived/Test/ToyasCard.lean, 'card_holds'). Laid BY PROGRAM, IN A SANDBOX (cutbox-door.mjs). By AI agents, Wed Nov 11 2026. No macro, syntax, notation, axiom, sorry.
-/
import Derived.Test.YtbdbldhpglponaaDoorRows
import GoSem.ClaimSeven
namespace Go.Proofs.YtbdbldhpglponaaDoor
namespace Rows

/-- THE TIED CARD OF 'laws.FnExactReadOrd'. -/
def fnExactReadOrdCard : Claim7 := { stood := { row := fnExactReadOrdRow, standIns := [], harness := (true, "0ee9790e56ef935549fe0cb71b8b35efb36a109dd705e4fdb83f83c0b064061b"), looks := true }, kinds := [], alts := [], laidByText := true, laidKinds := [.data, .data, .data, .sentinel, .sentinel], laidTests := true, laidLooks := .later }
def FnExactReadOrdCardSaid : Prop := Claim7.holds Tryd.pinned (.plain (OpenSpec.ofChange fnExactReadOrdSpec)) fnExactReadOrdCard

/-- THE TIED CARD OF 'laws.FnOrdText'. -/
def fnOrdTextCard : Claim7 := { stood := { row := fnOrdTextRow, standIns := [], harness := (true, "0ee9790e56ef935549fe0cb71b8b35efb36a109dd705e4fdb83f83c0b064061b"), looks := true }, kinds := [], alts := [], laidByText := true, laidKinds := [.data, .data, .data, .sentinel, .sentinel], laidTests := true, laidLooks := .later }
def FnOrdTextCardSaid : Prop := Claim7.holds Tryd.pinned (.plain (OpenSpec.ofChange fnOrdTextSpec)) fnOrdTextCard

/-- THE TIED CARD OF 'laws.FnReadOrd'. -/
def fnReadOrdCard : Claim7 := { stood := { row := fnReadOrdRow, standIns := [], harness := (true, "0ee9790e56ef935549fe0cb71b8b35efb36a109dd705e4fdb83f83c0b064061b"), looks := true }, kinds := [], alts := [], laidByText := true, laidKinds := [.data, .data, .data, .sentinel, .sentinel], laidTests := true, laidLooks := .later }
def FnReadOrdCardSaid : Prop := Claim7.holds Tryd.pinned (.plain (OpenSpec.ofChange fnReadOrdSpec)) fnReadOrdCard

/-- THE TIED CARD OF 'laws.FnExactOrdText'. -/
def fnExactOrdTextCard : Claim7 := { stood := { row := fnExactOrdTextRow, standIns := [], harness := (true, "0ee9790e56ef935549fe0cb71b8b35efb36a109dd705e4fdb83f83c0b064061b"), looks := true }, kinds := [], alts := [], laidByText := true, laidKinds := [.data, .data, .data], laidTests := true, laidLooks := .later }
def FnExactOrdTextCardSaid : Prop := Claim7.holds Tryd.pinned (.plain (OpenSpec.ofChange fnExactOrdTextSpec)) fnExactOrdTextCard

/-- THE SECOND FORM's CARD OF 'laws.FnExactReadOrd'. -/
def fnExactReadOrdUptoCard : Claim7 := { stood := { row := fnExactReadOrdUptoRow, standIns := [], harness := (true, "0ee9790e56ef935549fe0cb71b8b35efb36a109dd705e4fdb83f83c0b064061b"), looks := true }, kinds := [], alts := [], laidByText := true, laidKinds := [.data, .data, .data, .sentinel, .sentinel], laidTests := true, laidLooks := .later }
def FnExactReadOrdUptoCardSaid : Prop := Claim7.holds Tryd.pinned (.plain (OpenSpec.upto fnExactReadOrdSpec)) fnExactReadOrdUptoCard

/-- THE SECOND FORM's CARD OF 'laws.FnOrdText'. -/
def fnOrdTextUptoCard : Claim7 := { stood := { row := fnOrdTextUptoRow, standIns := [], harness := (true, "0ee9790e56ef935549fe0cb71b8b35efb36a109dd705e4fdb83f83c0b064061b"), looks := true }, kinds := [], alts := [], laidByText := true, laidKinds := [.data, .data, .data, .sentinel, .sentinel], laidTests := true, laidLooks := .later }
def FnOrdTextUptoCardSaid : Prop := Claim7.holds Tryd.pinned (.plain (OpenSpec.upto fnOrdTextSpec)) fnOrdTextUptoCard

/-- THE SECOND FORM's CARD OF 'laws.FnReadOrd'. -/
def fnReadOrdUptoCard : Claim7 := { stood := { row := fnReadOrdUptoRow, standIns := [], harness := (true, "0ee9790e56ef935549fe0cb71b8b35efb36a109dd705e4fdb83f83c0b064061b"), looks := true }, kinds := [], alts := [], laidByText := true, laidKinds := [.data, .data, .data, .sentinel, .sentinel], laidTests := true, laidLooks := .later }
def FnReadOrdUptoCardSaid : Prop := Claim7.holds Tryd.pinned (.plain (OpenSpec.upto fnReadOrdSpec)) fnReadOrdUptoCard

/-- THE SECOND FORM's CARD OF 'laws.FnExactOrdText'. -/
def fnExactOrdTextUptoCard : Claim7 := { stood := { row := fnExactOrdTextUptoRow, standIns := [], harness := (true, "0ee9790e56ef935549fe0cb71b8b35efb36a109dd705e4fdb83f83c0b064061b"), looks := true }, kinds := [], alts := [], laidByText := true, laidKinds := [.data, .data, .data], laidTests := true, laidLooks := .later }
def FnExactOrdTextUptoCardSaid : Prop := Claim7.holds Tryd.pinned (.plain (OpenSpec.upto fnExactOrdTextSpec)) fnExactOrdTextUptoCard
end Rows
end Go.Proofs.YtbdbldhpglponaaDoor
