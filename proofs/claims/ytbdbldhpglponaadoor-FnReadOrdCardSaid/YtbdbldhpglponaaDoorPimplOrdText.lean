/- One Go function comes to what its Lean function tells. -/
import Derived.Test.YtbdbldhpglponaaDoorP0
import Derived.Test.YtbdbldhpglponaaDoorPimplordOf
import Derived.Test.YtbdbldhpglponaaDoorPimpltextOf
import Derived.Test.YtbdbldhpglponaaDoorShelf
namespace Go.Proofs.YtbdbldhpglponaaDoor.P
open Go.RowKit YtbdbldhpglponaaDoorW.PrintWords YtbdbldhpglponaaDoorW.PrintLast YtbdbldhpglponaaDoorW.PrintMore
set_option linter.unusedVariables false
set_option linter.unusedSimpArgs false
/-! ### impl_OrdText: function 13 -/
def impl_OrdText.f (k:Nat)(l0:List Int):Option (ByteArray):=(impl_ordOf.f k l0).bind fun bt660=>(if bt660.2=true then((impl_textOf.f k bt660.1).bind fun t664=>(some t664)) else(some (⟨#[]⟩:ByteArray)))
set_option maxHeartbeats 8000000 in
set_option maxRecDepth 100000 in
theorem impl_OrdText.calls (k:Nat)(G:Option Addr)(I:Nat)(l0:List Int)(r:ByteArray)(w:World)(J:Kd.C (Kd.int .i64) w G l0.length l0)(L:l0.length≤I)(h:impl_OrdText.f k l0=some r)(M:TA w:=by first|exact HT0.out|exact TA.up HT0.out (by repeat (first|(with_reducible first|exact HB.out|apply below_alloc|apply pw_below_drewN|apply below_drew1)|exact HB.out|refine below_set ?_ (Sd.out (by assumption))))|exact TB.ta HT0.out|exact TA.up (TB.ta HT0.out) (by repeat (first|(with_reducible first|exact HB.out|apply below_alloc|apply pw_below_drewN|apply below_drew1)|exact HB.out|refine below_set ?_ (Sd.out (by assumption))))) :
  Calls Tryd.prog 13 #[.slice G l0.length I] w fun e w'=>e=.returned (.string r)∧Below w.heap.size w w':=by
 have HT0:Sd (TA w):=⟨M⟩;clear M;have O:=Sd.mk J;have U:=Sd.mk L;clear J L;have HB:=Sd.mk (Below.refl w.heap.size w);have H:((impl_ordOf.f k l0).bind fun z=>(if z.2=true then((impl_textOf.f k z.1).bind fun m=>(some m)) else(some (⟨#[]⟩:ByteArray))))=some r:=h;clear h;replace H:=Option.bind_eq_some_iff.mp H;obtain⟨⟨o,D⟩,X,H⟩:=H;replace H:(if D=true then((impl_textOf.f k o).bind fun m=>(some m)) else(some (⟨#[]⟩:ByteArray)))=some r:=H;have Z:=Sd.mk X;clear X
 by_cases c3:D=true
 ·subst c3
  replace H:=ip rfl H;obtain⟨m,A4,H⟩:=bs H;obtain rfl:=Option.some.inj H;go_enter Tryd.func13,Tryd.ntmps13;go_wp2_with (first|((with_reducible refine gate_callee (f:=26) rfl ?_);refine goesL_ (some 7) rfl rfl Tryd.func26 (by kernel_rfl) rfl #[.slice G l0.length I] rfl az ?_;(with_reducible refine(impl_ordOf.calls k _ _ l0 o true _ ?side1 ?side2 Z.out).mono ?_);(case side1=>exact Kd.Cz O.out);(case side2=>exact U.out);rintro e w5 ⟨Y,rfl,E,hb⟩;refine⟨_,rfl,?_⟩;have j:=Sd.mk (Kd.R_lower E (below_size bz));replace HB:=Sd.mk (below_step bz hb);obtain⟨aa,ab,ac⟩:=Kd.R_slice j.out;subst ac)|((with_reducible refine gate_callee (f:=22) rfl ?_);refine goesL_ (some 13) rfl rfl Tryd.func22 (by kernel_rfl) rfl #[.slice aa o.length ab] rfl az ?_;(with_reducible refine(impl_textOf.calls k _ _ o m _ ?side1 ?side2 A4.out).mono ?_);(case side1=>exact Kd.Cz (Kd.R_reads' j.out).2.2);(case side2=>exact(Kd.R_reads' j.out).2.1);rintro e w7 ⟨rfl,hb⟩;refine⟨_,rfl,?_⟩;replace j:=Sd.mk (Kd.R_below (Kd.Rz j.out) hb);replace HB:=Sd.mk (below_step bz hb)));go_ret;exact⟨by first|rfl|(simp[errW_none,errW_some]<;>rfl)|(simp[*,errW_none,errW_some]<;>rfl),bz⟩
 ·replace c3:=Bool.eq_false_iff.mpr c3
  subst c3;replace H:=ng ft H;obtain rfl:=Option.some.inj H;go_enter Tryd.func13,Tryd.ntmps13;go_wp2_with (first|((with_reducible refine gate_callee (f:=26) rfl ?_);refine goesL_ (some 7) rfl rfl Tryd.func26 (by kernel_rfl) rfl #[.slice G l0.length I] rfl az ?_;(with_reducible refine(impl_ordOf.calls k _ _ l0 o false _ ?side1 ?side2 Z.out).mono ?_);(case side1=>exact Kd.Cz O.out);(case side2=>exact U.out);rintro e w8 ⟨Y,rfl,E,hb⟩;refine⟨_,rfl,?_⟩;have j:=Sd.mk (Kd.R_lower E (below_size bz));replace HB:=Sd.mk (below_step bz hb)));go_ret;exact⟨by first|rfl|(simp[errW_none,errW_some]<;>rfl)|(simp[*,errW_none,errW_some]<;>rfl),bz⟩
end Go.Proofs.YtbdbldhpglponaaDoor.P