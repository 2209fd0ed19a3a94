/- One Go function comes to what its Lean function tells. -/
import Derived.Test.YtfblcanijhnhmaaP0
import Derived.Test.YtfblcanijhnhmaaPimplcompare
import Derived.Test.YtfblcanijhnhmaaPimplordOf
namespace Go.Proofs.Ytfblcanijhnhmaa.P
open Go.RowKit YtfblcanijhnhmaaW.PrintWords YtfblcanijhnhmaaW.PrintLast YtfblcanijhnhmaaW.PrintMore
set_option linter.unusedVariables false
set_option linter.unusedSimpArgs false
/-! ### impl_OrdCompare: function 35 -/
def impl_OrdCompare.f (k:Nat)(l0:List Int)(l1:List Int):Option (Int):=(impl_ordOf.f k l0).bind fun bt1410=>((impl_ordOf.f k l1).bind fun bt1414=>(if bt1410.2=true then(if bt1414.2=true then((impl_compare.f k bt1410.1 bt1414.1).bind fun t1418=>(some t1418)) else(some (-2))) else(some (-2))))
theorem impl_OrdCompare.mono:∀ a0 a1 k,LeO (impl_OrdCompare.f k a0 a1) (impl_OrdCompare.f (k+1) a0 a1):=by
 intro a0 a1 k
 unfold impl_OrdCompare.f
 repeat' first|(with_reducible first|exact impl_compare.mono _ _ _|exact impl_ordOf.mono _ _|exact LeO.refl _|exact LeO.none _|refine LeO.ite ?_ ?_|refine LeO.bind ?_ (fun _=>?_))|exact impl_compare.mono _ _ _|exact impl_ordOf.mono _ _|exact LeO.none _|refine LeO.ite ?_ ?_|refine LeO.bind ?_ (fun _=>?_)
set_option maxHeartbeats 8000000 in
set_option maxRecDepth 100000 in
theorem impl_OrdCompare.calls (k:Nat)(A0:Option Addr)(c0:Nat)(l0:List Int)(A1:Option Addr)(c1:Nat)(l1:List Int)(r:Int)(w:World)(hr0:Kd.C (Kd.int .i64) w A0 l0.length l0)(hc0:l0.length≤c0)(hr1:Kd.C (Kd.int .i64) w A1 l1.length l1)(hc1:l1.length≤c1)(h:impl_OrdCompare.f k l0 l1=some r) :
  Calls Try.prog 35 #[.slice A0 l0.length c0,.slice A1 l1.length c1] w fun e w'=>e=.returned (.int .i64 r)∧Below w.heap.size w w':=by
 have HR0:=Sd.mk hr0
 have HC0:=Sd.mk hc0
 clear hr0 hc0
 have HR1:=Sd.mk hr1
 have HC1:=Sd.mk hc1
 clear hr1 hc1
 have HB:=Sd.mk (Below.refl w.heap.size w)
 have H:((impl_ordOf.f k l0).bind fun bt1410=>((impl_ordOf.f k l1).bind fun bt1414=>(if bt1410.2=true then(if bt1414.2=true then((impl_compare.f k bt1410.1 bt1414.1).bind fun t1418=>(some t1418)) else(some (-2))) else(some (-2)))))=some r:=h
 clear h
 replace H:=Option.bind_eq_some_iff.mp H
 obtain⟨⟨t1410,t1411⟩,A30,H⟩:=H
 replace H:((impl_ordOf.f k l1).bind fun bt1414=>(if t1411=true then(if bt1414.2=true then((impl_compare.f k t1410 bt1414.1).bind fun t1418=>(some t1418)) else(some (-2))) else(some (-2))))=some r:=H
 have A3:=Sd.mk A30
 clear A30
 replace H:=Option.bind_eq_some_iff.mp H
 obtain⟨⟨t1414,t1415⟩,A40,H⟩:=H
 replace H:(if t1411=true then(if t1415=true then((impl_compare.f k t1410 t1414).bind fun t1418=>(some t1418)) else(some (-2))) else(some (-2)))=some r:=H
 have A4:=Sd.mk A40
 clear A40
 by_cases c5:t1411=true
 ·subst c5
  have H1:(if t1415=true then((impl_compare.f k t1410 t1414).bind fun t1418=>(some t1418)) else(some (-2)))=some r:=by rw[if_pos rfl] at H;exact H
  clear H
  have H:=H1
  clear H1
  by_cases c6:t1415=true
  ·subst c6
   have H1:((impl_compare.f k t1410 t1414).bind fun t1418=>(some t1418))=some r:=by rw[if_pos rfl] at H;exact H
   clear H
   have H:=H1
   clear H1
   replace H:=Option.bind_eq_some_iff.mp H
   obtain⟨t1418,A70,H⟩:=H
   replace H:(some t1418)=some r:=H
   have A7:=Sd.mk A70
   clear A70
   obtain rfl:=Option.some.inj H
   go_enter Try.func35,Try.ntmps35
   go_wp2_with (first|((with_reducible refine gate_callee (f:=59) rfl ?_);refine goesL_ (some 11) rfl rfl Try.func59 (by kernel_rfl) rfl #[.slice A0 l0.length c0] rfl az ?_;(with_reducible refine(impl_ordOf.calls k _ _ l0 t1410 true _ ?side1 ?side2 A3.out).mono ?_);(case side1=>exact Kd.Cz HR0.out);(case side2=>exact HC0.out);rintro e w8 ⟨v1412,rfl,ho0,hb⟩;refine⟨_,rfl,?_⟩;have HO1413:=Sd.mk (Kd.R_lower ho0 (below_size bz));replace HB:=Sd.mk (below_step bz hb);(try clear hb);(try clear hb2);(try clear hk);(try clear hi);(try clear ho0))|((with_reducible refine gate_callee (f:=59) rfl ?_);refine goesL_ (some 16) rfl rfl Try.func59 (by kernel_rfl) rfl #[.slice A1 l1.length c1] rfl az ?_;(with_reducible refine(impl_ordOf.calls k _ _ l1 t1414 true _ ?side1 ?side2 A4.out).mono ?_);(case side1=>exact Kd.Cz (Kd.C_below HR1.out HB.out));(case side2=>exact HC1.out);rintro e w9 ⟨v1416,rfl,ho0,hb⟩;refine⟨_,rfl,?_⟩;have HO1417:=Sd.mk (Kd.R_lower (Kd.R_new' ho0 (Kd.R_lt (Kd.Rz HO1413.out))) (below_size bz));replace HO1413:=Sd.mk (Kd.R_elder' (Kd.Rz HO1413.out) (Kd.R_base ho0) hb);replace HB:=Sd.mk (below_step bz hb);(try clear hb);(try clear hb2);(try clear hk);(try clear hi);(try clear ho0);obtain⟨Ao10,co10,eo10⟩:=Kd.R_slice HO1413.out;subst eo10;obtain⟨Ao11,co11,eo11⟩:=Kd.R_slice HO1417.out;subst eo11)|((with_reducible refine gate_callee (f:=50) rfl ?_);refine goesL_ (some 27) rfl rfl Try.func50 (by kernel_rfl) rfl #[.slice Ao10 t1410.length co10,.slice Ao11 t1414.length co11] rfl az ?_;(with_reducible refine(impl_compare.calls k _ _ t1410 _ _ t1414 t1418 _ ?side1 ?side2 ?side3 ?side4 A7.out).mono ?_);(case side1=>exact Kd.Cz (Kd.R_reads' HO1413.out).2.2);(case side2=>exact(Kd.R_reads' HO1413.out).2.1);(case side3=>exact Kd.Cz (Kd.R_reads' HO1417.out).2.2);(case side4=>exact(Kd.R_reads' HO1417.out).2.1);rintro e w12 ⟨rfl,hb⟩;refine⟨_,rfl,?_⟩;replace HO1413:=Sd.mk (Kd.R_below (Kd.Rz HO1413.out) hb);replace HO1417:=Sd.mk (Kd.R_below (Kd.Rz HO1417.out) hb);replace HB:=Sd.mk (below_step bz hb);(try clear hb);(try clear hb2);(try clear hk);(try clear hi)))
   go_ret
   exact⟨by first|rfl|(simp[errW_none,errW_some]<;>rfl)|(simp[*,errW_none,errW_some]<;>rfl),bz⟩
  ·replace c6:=Bool.eq_false_iff.mpr c6
   subst c6
   have H1:(some (-2))=some r:=by rw[if_neg (show ¬ (false=true) by decide)] at H;exact H
   clear H
   have H:=H1
   clear H1
   obtain rfl:=Option.some.inj H
   go_enter Try.func35,Try.ntmps35
   go_wp2_with (first|((with_reducible refine gate_callee (f:=59) rfl ?_);refine goesL_ (some 11) rfl rfl Try.func59 (by kernel_rfl) rfl #[.slice A0 l0.length c0] rfl az ?_;(with_reducible refine(impl_ordOf.calls k _ _ l0 t1410 true _ ?side1 ?side2 A3.out).mono ?_);(case side1=>exact Kd.Cz HR0.out);(case side2=>exact HC0.out);rintro e w13 ⟨v1412,rfl,ho0,hb⟩;refine⟨_,rfl,?_⟩;have HO1413:=Sd.mk (Kd.R_lower ho0 (below_size bz));replace HB:=Sd.mk (below_step bz hb);(try clear hb);(try clear hb2);(try clear hk);(try clear hi);(try clear ho0))|((with_reducible refine gate_callee (f:=59) rfl ?_);refine goesL_ (some 16) rfl rfl Try.func59 (by kernel_rfl) rfl #[.slice A1 l1.length c1] rfl az ?_;(with_reducible refine(impl_ordOf.calls k _ _ l1 t1414 false _ ?side1 ?side2 A4.out).mono ?_);(case side1=>exact Kd.Cz (Kd.C_below HR1.out HB.out));(case side2=>exact HC1.out);rintro e w14 ⟨v1416,rfl,ho0,hb⟩;refine⟨_,rfl,?_⟩;have HO1417:=Sd.mk (Kd.R_lower (Kd.R_new' ho0 (Kd.R_lt (Kd.Rz HO1413.out))) (below_size bz));replace HO1413:=Sd.mk (Kd.R_elder' (Kd.Rz HO1413.out) (Kd.R_base ho0) hb);replace HB:=Sd.mk (below_step bz hb);(try clear hb);(try clear hb2);(try clear hk);(try clear hi);(try clear ho0)))
   go_ret
   exact⟨by first|rfl|(simp[errW_none,errW_some]<;>rfl)|(simp[*,errW_none,errW_some]<;>rfl),bz⟩
 ·replace c5:=Bool.eq_false_iff.mpr c5
  subst c5
  have H1:(some (-2))=some r:=by rw[if_neg (show ¬ (false=true) by decide)] at H;exact H
  clear H
  have H:=H1
  clear H1
  obtain rfl:=Option.some.inj H
  go_enter Try.func35,Try.ntmps35
  go_wp2_with (first|((with_reducible refine gate_callee (f:=59) rfl ?_);refine goesL_ (some 11) rfl rfl Try.func59 (by kernel_rfl) rfl #[.slice A0 l0.length c0] rfl az ?_;(with_reducible refine(impl_ordOf.calls k _ _ l0 t1410 false _ ?side1 ?side2 A3.out).mono ?_);(case side1=>exact Kd.Cz HR0.out);(case side2=>exact HC0.out);rintro e w15 ⟨v1412,rfl,ho0,hb⟩;refine⟨_,rfl,?_⟩;have HO1413:=Sd.mk (Kd.R_lower ho0 (below_size bz));replace HB:=Sd.mk (below_step bz hb);(try clear hb);(try clear hb2);(try clear hk);(try clear hi);(try clear ho0))|((with_reducible refine gate_callee (f:=59) rfl ?_);refine goesL_ (some 16) rfl rfl Try.func59 (by kernel_rfl) rfl #[.slice A1 l1.length c1] rfl az ?_;(with_reducible refine(impl_ordOf.calls k _ _ l1 t1414 t1415 _ ?side1 ?side2 A4.out).mono ?_);(case side1=>exact Kd.Cz (Kd.C_below HR1.out HB.out));(case side2=>exact HC1.out);rintro e w16 ⟨v1416,rfl,ho0,hb⟩;refine⟨_,rfl,?_⟩;have HO1417:=Sd.mk (Kd.R_lower (Kd.R_new' ho0 (Kd.R_lt (Kd.Rz HO1413.out))) (below_size bz));replace HO1413:=Sd.mk (Kd.R_elder' (Kd.Rz HO1413.out) (Kd.R_base ho0) hb);replace HB:=Sd.mk (below_step bz hb);(try clear hb);(try clear hb2);(try clear hk);(try clear hi);(try clear ho0)))
  go_ret
  exact⟨by first|rfl|(simp[errW_none,errW_some]<;>rfl)|(simp[*,errW_none,errW_some]<;>rfl),bz⟩
end Go.Proofs.Ytfblcanijhnhmaa.P