/- One Go function comes to what its Lean function tells. -/
import Derived.Test.YtfblcanijhnhmaaP0
namespace Go.Proofs.Ytfblcanijhnhmaa.P
open Go.RowKit YtfblcanijhnhmaaW.PrintWords YtfblcanijhnhmaaW.PrintLast YtfblcanijhnhmaaW.PrintMore
set_option linter.unusedVariables false
set_option linter.unusedSimpArgs false
/-! ### slices_Clip_int_int: function 71 (by hand) -/
def slices_Clip_int_int.f (l0:List Int):Option (List Int):=some l0
theorem slices_Clip_int_int.calls (P0_:Nat→Prop)(u9000_:Value)(l0:List Int)(r:List Int)(w0 w:World)(hB:Below w0.heap.size w0 w)(ho0:Kd.R (Kd.int .i64) 3 w w0.heap.size P0_ u9000_ l0)(h:slices_Clip_int_int.f l0=some r) :
  Calls Try.prog 71 #[u9000_] w fun e w'=>∃ v0_:Value,e=.returned (v0_)∧Kd.R (Kd.int .i64) 3 w' w0.heap.size (fun k_=>(P0_ k_∨w.heap.size≤k_)) v0_ r∧Below w0.heap.size w0 w'∧Kept w w' (fun k_=>P0_ k_):=by
 obtain rfl:=Option.some.inj h;obtain⟨A0,c0,rfl⟩:=Kd.R_slice ho0;have hc:=(Kd.R_reads' ho0).2.1;have hH:=Sd.mk ho0;have hB':=Sd.mk hB;clear ho0 hB h;go_enter Try.func71,Try.ntmps71;go_wp2;go_ret;exact⟨_,rfl,Kd.R_mono (Kd.R_clip hH.out (Nat.le_refl _) hc) (fun _ hk=>.inl hk),hB'.out,Kept.refl _ _⟩
end Go.Proofs.Ytfblcanijhnhmaa.P