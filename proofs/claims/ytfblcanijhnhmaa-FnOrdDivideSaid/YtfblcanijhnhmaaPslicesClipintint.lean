/- One Go function comes to what its Lean function tells. -/
import Derived.Test.YtfblcanijhnhmaaP0
namespace Go.Proofs.Ytfblcanijhnhmaa.P
open Go.RowKit YtfblcanijhnhmaaW.PrintWords YtfblcanijhnhmaaW.PrintLast YtfblcanijhnhmaaW.PrintMore
set_option linter.unusedVariables false
set_option linter.unusedSimpArgs false
/-! ### slices_Clip_int_int: function 71 (by hand) -/
def slices_Clip_int_int.f (l0:List Int):Option (List Int):=some l0
theorem slices_Clip_int_int.calls (z:Nat→Prop)(j:Value)(l0:List Int)(r:List Int)(o w:World)(hB:Below o.heap.size o w)(m:Kd.R (Kd.int .i64) 3 w o.heap.size z j l0)(h:slices_Clip_int_int.f l0=some r) :
  Calls Try.prog 71 #[j] w fun e w'=>∃ D:Value,e=.returned (D)∧Kd.R (Kd.int .i64) 3 w' o.heap.size (fun k_=>(z k_∨w.heap.size≤k_)) D r∧Below o.heap.size o w'∧Kept w w' (fun k_=>z k_):=by
 obtain rfl:=Option.some.inj h;obtain⟨E,G,rfl⟩:=Kd.R_slice m;have hc:=(Kd.R_reads' m).2.1;have hH:=Sd.mk m;have hB':=Sd.mk hB;clear m hB h;go_enter Try.func71,Try.ntmps71;go_wp2;go_ret;exact⟨_,rfl,Kd.R_mono (Kd.R_clip hH.out (Nat.le_refl _) hc) (fun _ hk=>.inl hk),hB'.out,Kept.refl _ _⟩
end Go.Proofs.Ytfblcanijhnhmaa.P