/- One Go function comes to what its Lean function tells. -/
import Derived.Test.YtbdbldhpglponaaDoorP0
import Derived.Test.YtbdbldhpglponaaDoorPspecOrdValid
import Derived.Test.YtbdbldhpglponaaDoorPspecl1Text
namespace Go.Proofs.YtbdbldhpglponaaDoor.P
open Go.RowKit YtbdbldhpglponaaDoorW.PrintWords YtbdbldhpglponaaDoorW.PrintLast YtbdbldhpglponaaDoorW.PrintMore
set_option linter.unusedVariables false
set_option linter.unusedSimpArgs false
/-! ### spec_OrdText: function 14 -/
def spec_OrdText.f (k:Nat)(l0:List Int):Option (ByteArray):=(spec_OrdValid.f k l0).bind fun t227=>(if t227=true then((spec_l1Text.f k l0).bind fun t228=>(some t228)) else(some (⟨#[]⟩:ByteArray)))
set_option maxHeartbeats 8000000 in
set_option maxRecDepth 100000 in
theorem spec_OrdText.calls (k:Nat)(o:Option Addr)(z:Nat)(l0:List Int)(r:ByteArray)(w:World)(G:Kd.C (Kd.int .i64) w o l0.length l0)(I:l0.length≤z)(h:spec_OrdText.f k l0=some r) :
  Calls Tryd.prog 14 #[.slice o l0.length z] w fun e w'=>e=.returned (.string r)∧Below w.heap.size w w':=by
 have D:=Sd.mk G;have E:=Sd.mk I;clear G I;have HB:=Sd.mk (Below.refl w.heap.size w);have H:((spec_OrdValid.f k l0).bind fun j=>(if j=true then((spec_l1Text.f k l0).bind fun m=>(some m)) else(some (⟨#[]⟩:ByteArray))))=some r:=h;clear h;obtain⟨j,J,H⟩:=bs H
 by_cases c3:j=true
 ·subst c3
  replace H:=ip rfl H;obtain⟨m,L,H⟩:=bs H;obtain rfl:=Option.some.inj H;go_enter Tryd.func14,Tryd.ntmps14;go_wp2_with (first|((with_reducible refine gate_callee (f:=27) rfl ?_);refine goesL_ (some 4) rfl rfl Tryd.func27 (by kernel_rfl) rfl #[.slice o l0.length z] rfl az ?_;(with_reducible refine(spec_OrdValid.calls k _ _ l0 true _ ?side1 ?side2 J.out).mono ?_);(case side1=>exact Kd.Cz D.out);(case side2=>exact E.out);rintro e M ⟨rfl,hb⟩;refine⟨_,rfl,?_⟩;replace HB:=Sd.mk (below_step bz hb))|((with_reducible refine gate_callee (f:=28) rfl ?_);refine goesL_ (some 7) rfl rfl Tryd.func28 (by kernel_rfl) rfl #[.slice o l0.length z] rfl az ?_;(with_reducible refine(spec_l1Text.calls k _ _ l0 m _ ?side1 ?side2 L.out).mono ?_);(case side1=>exact Kd.Cz (Kd.C_below D.out HB.out));(case side2=>exact E.out);rintro e O ⟨rfl,hb⟩;refine⟨_,rfl,?_⟩;replace HB:=Sd.mk (below_step bz hb)));go_ret;exact⟨by first|rfl|(simp[errW_none,errW_some]<;>rfl)|(simp[*,errW_none,errW_some]<;>rfl),bz⟩
 ·replace c3:=Bool.eq_false_iff.mpr c3
  subst c3;replace H:=ng ft H;obtain rfl:=Option.some.inj H;go_enter Tryd.func14,Tryd.ntmps14;go_wp2_with (first|((with_reducible refine gate_callee (f:=27) rfl ?_);refine goesL_ (some 4) rfl rfl Tryd.func27 (by kernel_rfl) rfl #[.slice o l0.length z] rfl az ?_;(with_reducible refine(spec_OrdValid.calls k _ _ l0 false _ ?side1 ?side2 J.out).mono ?_);(case side1=>exact Kd.Cz D.out);(case side2=>exact E.out);rintro e U ⟨rfl,hb⟩;refine⟨_,rfl,?_⟩;replace HB:=Sd.mk (below_step bz hb)));go_ret;exact⟨by first|rfl|(simp[errW_none,errW_some]<;>rfl)|(simp[*,errW_none,errW_some]<;>rfl),bz⟩
end Go.Proofs.YtbdbldhpglponaaDoor.P