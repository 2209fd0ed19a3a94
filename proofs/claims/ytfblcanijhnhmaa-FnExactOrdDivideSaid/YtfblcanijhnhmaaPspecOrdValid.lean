/- One Go function comes to what its Lean function tells. -/
import Derived.Test.YtfblcanijhnhmaaP0
import Derived.Test.YtfblcanijhnhmaaPspecl1End
import Derived.Test.YtfblcanijhnhmaaPspecl1In
namespace Go.Proofs.Ytfblcanijhnhmaa.P
open Go.RowKit YtfblcanijhnhmaaW.PrintWords YtfblcanijhnhmaaW.PrintLast YtfblcanijhnhmaaW.PrintMore
set_option linter.unusedVariables false
set_option linter.unusedSimpArgs false
/-! ### spec_OrdValid: function 34 -/
def spec_OrdValid.f (k:Nat)(l0:List Int):Option (Bool):=(spec_l1In.f (l0.length:Int) 1 60).bind fun t175=>(if t175=true then((spec_l1End.f k l0 0).bind fun t176=>(some (t176 == (l0.length:Int)))) else(some false))
theorem spec_OrdValid.mono:∀ a0 k,LeO (spec_OrdValid.f k a0) (spec_OrdValid.f (k+1) a0):=by
 intro a0 k;unfold spec_OrdValid.f
 repeat' first|(with_reducible first|exact spec_l1End.mono _ _ _|exact LeO.refl _|exact LeO.none _|refine LeO.ite ?_ ?_|refine LeO.bind ?_ (fun _=>?_))|exact spec_l1End.mono _ _ _|exact LeO.none _|refine LeO.ite ?_ ?_|refine LeO.bind ?_ (fun _=>?_)
set_option maxHeartbeats 8000000 in
set_option maxRecDepth 100000 in
theorem spec_OrdValid.calls (k:Nat)(A0:Option Addr)(c0:Nat)(l0:List Int)(r:Bool)(w:World)(hr0:Kd.C (Kd.int .i64) w A0 l0.length l0)(hc0:l0.length≤c0)(h:spec_OrdValid.f k l0=some r) :
  Calls Try.prog 34 #[.slice A0 l0.length c0] w fun e w'=>e=.returned (.bool r)∧Below w.heap.size w w':=by
 have HR0:=Sd.mk hr0;have HC0:=Sd.mk hc0;clear hr0 hc0;have HB:=Sd.mk (Below.refl w.heap.size w);have H:((spec_l1In.f (l0.length:Int) 1 60).bind fun t175=>(if t175=true then((spec_l1End.f k l0 0).bind fun t176=>(some (t176 == (l0.length:Int)))) else(some false)))=some r:=h;clear h;replace H:=Option.bind_eq_some_iff.mp H;obtain⟨t175,A20,H⟩:=H;replace H:(if t175=true then((spec_l1End.f k l0 0).bind fun t176=>(some (t176 == (l0.length:Int)))) else(some false))=some r:=H;have A2:=Sd.mk A20;clear A20
 by_cases c3:t175=true
 ·subst c3
  have H1:((spec_l1End.f k l0 0).bind fun t176=>(some (t176 == (l0.length:Int))))=some r:=by rw[if_pos rfl] at H;exact H
  clear H;have H:=H1;clear H1;replace H:=Option.bind_eq_some_iff.mp H;obtain⟨t176,A40,H⟩:=H;replace H:(some (t176 == (l0.length:Int)))=some r:=H;have A4:=Sd.mk A40;clear A40;obtain rfl:=Option.some.inj H;go_enter Try.func34,Try.ntmps34;go_wp2_with (first|((with_reducible refine gate_callee (f:=58) rfl ?_);refine goesL_ (some 5) rfl rfl Try.func58 (by kernel_rfl) rfl #[.int .i64 (l0.length:Int),.int .i64 1,.int .i64 60] rfl az ?_;(with_reducible refine(spec_l1In.calls (l0.length:Int) 1 60 true _ A2.out).mono ?_);rintro e w' ⟨rfl,⟨nd,rfl⟩⟩;refine⟨_,rfl,?_⟩)|(go_at_call 64;(with_reducible refine(spec_l1End.calls k (fun k_=>k_<w.heap.size) _ _ l0 0 t176 _ ?side1 A4.out).mono ?_);(case side1=>exact Kd.V_mk HC0.out (Kd.F_below (Kd.C_F (Kd.heap_int .i64) HR0.out) bz));rintro e w5 ⟨rfl,hb⟩;replace HB:=Sd.mk (below_step bz hb);(try clear hb);(try clear hb2);(try clear hk);(try clear hi)));go_ret;exact⟨by first|rfl|(simp[errW_none,errW_some]<;>rfl)|(simp[*,errW_none,errW_some]<;>rfl),bz⟩
 ·replace c3:=Bool.eq_false_iff.mpr c3
  subst c3
  have H1:(some false)=some r:=by rw[if_neg (show ¬ (false=true) by decide)] at H;exact H
  clear H;have H:=H1;clear H1;obtain rfl:=Option.some.inj H;go_enter Try.func34,Try.ntmps34;go_wp2_with (first|((with_reducible refine gate_callee (f:=58) rfl ?_);refine goesL_ (some 5) rfl rfl Try.func58 (by kernel_rfl) rfl #[.int .i64 (l0.length:Int),.int .i64 1,.int .i64 60] rfl az ?_;(with_reducible refine(spec_l1In.calls (l0.length:Int) 1 60 false _ A2.out).mono ?_);rintro e w' ⟨rfl,⟨nd,rfl⟩⟩;refine⟨_,rfl,?_⟩));go_ret;exact⟨by first|rfl|(simp[errW_none,errW_some]<;>rfl)|(simp[*,errW_none,errW_some]<;>rfl),bz⟩
end Go.Proofs.Ytfblcanijhnhmaa.P