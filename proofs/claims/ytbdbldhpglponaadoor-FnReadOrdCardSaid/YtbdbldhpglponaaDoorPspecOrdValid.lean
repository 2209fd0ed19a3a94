/- One Go function comes to what its Lean function tells. -/
import Derived.Test.YtbdbldhpglponaaDoorP0
import Derived.Test.YtbdbldhpglponaaDoorPspecl1End
import Derived.Test.YtbdbldhpglponaaDoorPspecl1In
namespace Go.Proofs.YtbdbldhpglponaaDoor.P
open Go.RowKit YtbdbldhpglponaaDoorW.PrintWords YtbdbldhpglponaaDoorW.PrintLast YtbdbldhpglponaaDoorW.PrintMore
set_option linter.unusedVariables false
set_option linter.unusedSimpArgs false
/-! ### spec_OrdValid: function 27 -/
def spec_OrdValid.f (k:Nat)(l0:List Int):Option (Bool):=(spec_l1In.f (l0.length:Int) 1 60).bind fun t166=>(if t166=true then((spec_l1End.f k l0 0).bind fun t167=>(some (t167 == (l0.length:Int)))) else(some false))
set_option maxHeartbeats 8000000 in
set_option maxRecDepth 100000 in
theorem spec_OrdValid.calls (k:Nat)(D:Option Addr)(E:Nat)(l0:List Int)(r:Bool)(w:World)(o:Kd.C (Kd.int .i64) w D l0.length l0)(z:l0.length≤E)(h:spec_OrdValid.f k l0=some r) :
  Calls Tryd.prog 27 #[.slice D l0.length E] w fun e w'=>e=.returned (.bool r)∧Below w.heap.size w w':=by
 have G:=Sd.mk o;have I:=Sd.mk z;clear o z;have HB:=Sd.mk (Below.refl w.heap.size w);have H:((spec_l1In.f (l0.length:Int) 1 60).bind fun j=>(if j=true then((spec_l1End.f k l0 0).bind fun m=>(some (m == (l0.length:Int)))) else(some false)))=some r:=h;clear h;obtain⟨j,J,H⟩:=bs H
 by_cases c3:j=true
 ·subst c3
  replace H:=ip rfl H;obtain⟨m,L,H⟩:=bs H;obtain rfl:=Option.some.inj H;go_enter Tryd.func27,Tryd.ntmps27;go_wp2_with (first|((with_reducible refine gate_callee (f:=40) rfl ?_);refine goesL_ (some 5) rfl rfl Tryd.func40 (by kernel_rfl) rfl #[.int .i64 (l0.length:Int),.int .i64 1,.int .i64 60] rfl az ?_;(with_reducible refine(spec_l1In.calls (l0.length:Int) 1 60 true _ J.out).mono ?_);rintro e w' ⟨rfl,⟨nd,rfl⟩⟩;refine⟨_,rfl,?_⟩)|(go_at_call 41;(with_reducible refine(spec_l1End.calls k (fun k_=>k_<w.heap.size) _ _ l0 0 m _ ?side1 L.out).mono ?_);(case side1=>exact Kd.V_mk I.out (Kd.F_below (Kd.C_F (Kd.heap_int .i64) G.out) bz));rintro e M ⟨rfl,hb⟩;replace HB:=Sd.mk (below_step bz hb)));go_ret;exact⟨by first|rfl|(simp[errW_none,errW_some]<;>rfl)|(simp[*,errW_none,errW_some]<;>rfl),bz⟩
 ·replace c3:=Bool.eq_false_iff.mpr c3
  subst c3;replace H:=ng ft H;obtain rfl:=Option.some.inj H;go_enter Tryd.func27,Tryd.ntmps27;go_wp2_with (first|((with_reducible refine gate_callee (f:=40) rfl ?_);refine goesL_ (some 5) rfl rfl Tryd.func40 (by kernel_rfl) rfl #[.int .i64 (l0.length:Int),.int .i64 1,.int .i64 60] rfl az ?_;(with_reducible refine(spec_l1In.calls (l0.length:Int) 1 60 false _ J.out).mono ?_);rintro e w' ⟨rfl,⟨nd,rfl⟩⟩;refine⟨_,rfl,?_⟩));go_ret;exact⟨by first|rfl|(simp[errW_none,errW_some]<;>rfl)|(simp[*,errW_none,errW_some]<;>rfl),bz⟩
end Go.Proofs.YtbdbldhpglponaaDoor.P