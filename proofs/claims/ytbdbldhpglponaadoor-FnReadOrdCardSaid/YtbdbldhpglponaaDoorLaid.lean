/- What the listed variables hold when a call begins, as the walks ask for it; and that the program's own start lays them so. -/
import Derived.Test.YtbdbldhpglponaaDoorShelf
import Derived.Test.YtbdbldhpglponaaDoorTie
import Derived.ProofKit
import Derived.LaidMore
import Derived.Lib.LaidTab
import Derived.Stop.LaidErr
import Derived.SevenTiedAt
namespace Go.Proofs.YtbdbldhpglponaaDoor.P
open Go.RowKit
theorem ltail {P : Program} {l : List (String × DataW Unit)} {w : World} (h : laidMet P l w) : laidMet P l.tail w := by
  cases l with
  | nil => exact h
  | cons x r => exact laidMet.tail h
theorem lplain (l : List (String × DataW Unit)) (w : World) (h : (l.all fun x => x.2.handleName?.isNone) = true) (hL : laidMetH Tryd.prog l w) : laidMet Tryd.prog l w := by
  rw [MakeChecks.laidMetH_plain _ _ _ h] at hL; exact hL
theorem row122 {nm : String} (hn : ∀ u, Tryd.prog.typeName? 3 u = some nm → Tryd.prog.typeName? 3 u = Tryd.prog.typeName? 3 122) : ∀ u, Tryd.prog.typeName? 3 u = some nm → u = 122 := by
  intro u h
  refine typeName_ptr_named (P := Tryd.prog) (nm := "errors.errorString") (tp := 122) ?_ ?_ ?_ u ?_
  · kernel_rfl
  · kernel_rfl
  · decide
  · rw [hn u h]; kernel_rfl
theorem ta_of {l : List (String × DataW Unit)} {W : World} {rest : List (String × DataW Unit)} (hl : l.tail.tail = (nm_ 2, Lib.tabData .u64 Lib.pow10Tab) :: rest) (h : laidMet Tryd.prog l W) : TA W := by
  have h2 := ltail (ltail h)
  rw [hl] at h2
  exact Lib.tabIs_of_head (by kernel_rfl : Tryd.prog.globalNamed (nm_ 2) = some 0) (by kernel_rfl : (Tryd.prog.globals[0]?).map (·.type) = some 109) (n := 20) (e := 94) Tryd.underlying109 Tryd.underlying94 (by kernel_rfl) (by kernel_rfl) h2
theorem ta_three {W : World} (hL : laidMetH Tryd.prog Rows.fnExactOrdTextRow.laid W) : TA W := ta_of (rest := []) (by kernel_rfl) (lplain _ _ (by kernel_rfl) hL)
theorem tb_five {W : World} (hL : laidMetH Tryd.prog Rows.fnOrdTextRow.laid W) : TB W := by
  have h := lplain _ _ (by kernel_rfl) hL
  refine ⟨ta_of (rest := [(nm_ 3, Rows.laid_strconv_ErrRange), (nm_ 4, Rows.laid_strconv_ErrSyntax)]) (by kernel_rfl) h, ?_, ?_⟩
  · have h4 := ltail (ltail (ltail (ltail h)))
    rw [show Rows.fnOrdTextRow.laid.tail.tail.tail.tail = [(nm_ 4, Rows.laid_strconv_ErrSyntax)] by kernel_rfl] at h4
    obtain ⟨a, s, hv, _⟩ := laid_sentinel h4 (by kernel_rfl : Tryd.prog.globalNamed (nm_ 4) = some 2) (by kernel_rfl : (Tryd.prog.globals[2]?).map (·.type) = some 83) Tryd.underlying83 (row122 (fun u h => h.trans (by kernel_rfl))) Tryd.underlying122 Tryd.underlying124 rfl rfl Tryd.underlying9 (by kernel_rfl) (by kernel_rfl)
    exact ⟨_, _, hv⟩
  · have h3 := ltail (ltail (ltail h))
    rw [show Rows.fnOrdTextRow.laid.tail.tail.tail = [(nm_ 3, Rows.laid_strconv_ErrRange), (nm_ 4, Rows.laid_strconv_ErrSyntax)] by kernel_rfl] at h3
    obtain ⟨a, s, hv, _⟩ := laid_sentinel h3 (by kernel_rfl : Tryd.prog.globalNamed (nm_ 3) = some 3) (by kernel_rfl : (Tryd.prog.globals[3]?).map (·.type) = some 83) Tryd.underlying83 (row122 (fun u h => h.trans (by kernel_rfl))) Tryd.underlying122 Tryd.underlying124 rfl rfl Tryd.underlying9 (by kernel_rfl) (by kernel_rfl)
    exact ⟨_, _, hv⟩
/-- The door's own heap meets the conditions. -/
theorem door_five (os : Os) (args : Array Value) : laidMetH Tryd.prog Rows.fnOrdTextRow.laid ((World.doorLaid Tryd.prog 400 os).forCall (fun _ _ => 0) ⟨#[], args, []⟩).memory :=
  laidMetH_of_parts3 (fuel := 65) (laidMet_of_run' 65 (by kernel_rfl) (by kernel_rfl)) (by kernel_rfl) (by kernel_rfl)
theorem door_three (os : Os) (args : Array Value) : laidMetH Tryd.prog Rows.fnExactOrdTextRow.laid ((World.doorLaid Tryd.prog 400 os).forCall (fun _ _ => 0) ⟨#[], args, []⟩).memory :=
  laidMetH_of_parts3 (fuel := 65) (laidMet_of_run' 65 (by kernel_rfl) (by kernel_rfl)) (by kernel_rfl) (by kernel_rfl)
end Go.Proofs.YtbdbldhpglponaaDoor.P
