/- One Go function comes to what its Lean function tells. -/
import Derived.Test.YtfkecmnklpjelaaP0
import Derived.Test.YtfkecmnklpjelaaPimplcompare
import Derived.Test.YtfkecmnklpjelaaPimplordOf
namespace Go.Proofs.Ytfkecmnklpjelaa.P
open Go.RowKit YtfkecmnklpjelaaW.PrintWords YtfkecmnklpjelaaW.PrintLast YtfkecmnklpjelaaW.PrintMore
set_option linter.unusedVariables false
set_option linter.unusedSimpArgs false
/-! ### impl_OrdCompare: function 15 -/
def impl_OrdCompare.f (k:Nat)(l0:List Int)(l1:List Int):Option (Int):=(impl_ordOf.f k l0).bind fun bt598=>((impl_ordOf.f k l1).bind fun bt602=>(if bt598.2=true then(if bt602.2=true then((impl_compare.f k bt598.1 bt602.1).bind fun t606=>(some t606)) else(some (-2))) else(some (-2))))
theorem impl_OrdCompare.mono:∀ a0 a1 k,LeO (impl_OrdCompare.f k a0 a1) (impl_OrdCompare.f (k+1) a0 a1):=by
 intro a0 a1 k
 unfold impl_OrdCompare.f
 repeat' first|(with_reducible first|exact impl_compare.mono _ _ _|exact impl_ordOf.mono _ _|exact LeO.refl _|exact LeO.none _|refine LeO.ite ?_ ?_|refine LeO.bind ?_ (fun _=>?_))|exact impl_compare.mono _ _ _|exact impl_ordOf.mono _ _|exact LeO.none _|refine LeO.ite ?_ ?_|refine LeO.bind ?_ (fun _=>?_)
set_option maxHeartbeats 8000000 in
set_option maxRecDepth 100000 in
theorem impl_OrdCompare.calls (k:Nat)(A0:Option Addr)(c0:Nat)(l0:List Int)(A1:Option Addr)(c1:Nat)(l1:List Int)(r:Int)(w:World)(hr0:Kd.C (Kd.int .i64) w A0 l0.length l0)(hc0:l0.length≤c0)(hr1:Kd.C (Kd.int .i64) w A1 l1.length l1)(hc1:l1.length≤c1)(h:impl_OrdCompare.f k l0 l1=some r) :
  Calls Try.prog 15 #[.slice A0 l0.length c0,.slice A1 l1.length c1] w fun e w'=>e=.returned (.int .i64 r)∧Below w.heap.size w w':=by
 have HR0:=Aside0.mk hr0
 have HC0:=Aside0.mk hc0
 clear hr0 hc0
 have HR1:=Aside0.mk hr1
 have HC1:=Aside0.mk hc1
 clear hr1 hc1
 have HB:=Aside0.mk (Below.refl w.heap.size w)
 have H:((impl_ordOf.f k l0).bind fun bt598=>((impl_ordOf.f k l1).bind fun bt602=>(if bt598.2=true then(if bt602.2=true then((impl_compare.f k bt598.1 bt602.1).bind fun t606=>(some t606)) else(some (-2))) else(some (-2)))))=some r:=h
 clear h
 replace H:=Option.bind_eq_some_iff.mp H
 obtain⟨⟨t598,t599⟩,A30,H⟩:=H
 replace H:((impl_ordOf.f k l1).bind fun bt602=>(if t599=true then(if bt602.2=true then((impl_compare.f k t598 bt602.1).bind fun t606=>(some t606)) else(some (-2))) else(some (-2))))=some r:=H
 have A3:=Aside0.mk A30
 clear A30
 replace H:=Option.bind_eq_some_iff.mp H
 obtain⟨⟨t602,t603⟩,A40,H⟩:=H
 replace H:(if t599=true then(if t603=true then((impl_compare.f k t598 t602).bind fun t606=>(some t606)) else(some (-2))) else(some (-2)))=some r:=H
 have A4:=Aside0.mk A40
 clear A40
 by_cases c5:t599=true
 ·subst c5
  have H1:(if t603=true then((impl_compare.f k t598 t602).bind fun t606=>(some t606)) else(some (-2)))=some r:=by rw[if_pos rfl] at H;exact H
  clear H
  have H:=H1
  clear H1
  by_cases c6:t603=true
  ·subst c6
   have H1:((impl_compare.f k t598 t602).bind fun t606=>(some t606))=some r:=by rw[if_pos rfl] at H;exact H
   clear H
   have H:=H1
   clear H1
   replace H:=Option.bind_eq_some_iff.mp H
   obtain⟨t606,A70,H⟩:=H
   replace H:(some t606)=some r:=H
   have A7:=Aside0.mk A70
   clear A70
   obtain rfl:=Option.some.inj H
   go_enter Try.func15,Try.ntmps15
   go_wp2_with (first|((with_reducible refine gate_callee (f:=20) rfl ?_);refine goesL_ (some 11) rfl rfl Try.func20 (by kernel_rfl) rfl #[.slice A0 l0.length c0] rfl az ?_;(with_reducible refine(impl_ordOf.calls k _ _ l0 t598 true _ ?side1 ?side2 A3.out).mono ?_);(case side1=>exact Kd.Cz HR0.out);(case side2=>exact HC0.out);rintro e w8 ⟨v600,rfl,ho0,hb⟩;refine⟨_,rfl,?_⟩;have HO601:=Aside0.mk (Kd.R_lower ho0 (below_size bz));replace HB:=Aside0.mk (below_step bz hb);(try clear hb);(try clear hb2);(try clear hk);(try clear hi);(try clear ho0))|((with_reducible refine gate_callee (f:=20) rfl ?_);refine goesL_ (some 16) rfl rfl Try.func20 (by kernel_rfl) rfl #[.slice A1 l1.length c1] rfl az ?_;(with_reducible refine(impl_ordOf.calls k _ _ l1 t602 true _ ?side1 ?side2 A4.out).mono ?_);(case side1=>exact Kd.Cz (Kd.C_below HR1.out HB.out));(case side2=>exact HC1.out);rintro e w9 ⟨v604,rfl,ho0,hb⟩;refine⟨_,rfl,?_⟩;have HO605:=Aside0.mk (Kd.R_lower (Kd.R_new' ho0 (Kd.R_lt (Kd.Rz HO601.out))) (below_size bz));replace HO601:=Aside0.mk (Kd.R_elder' (Kd.Rz HO601.out) (Kd.R_base ho0) hb);replace HB:=Aside0.mk (below_step bz hb);(try clear hb);(try clear hb2);(try clear hk);(try clear hi);(try clear ho0);obtain⟨Ao10,co10,eo10⟩:=Kd.R_slice HO601.out;subst eo10;obtain⟨Ao11,co11,eo11⟩:=Kd.R_slice HO605.out;subst eo11)|((with_reducible refine gate_callee (f:=28) rfl ?_);refine goesL_ (some 27) rfl rfl Try.func28 (by kernel_rfl) rfl #[.slice Ao10 t598.length co10,.slice Ao11 t602.length co11] rfl az ?_;(with_reducible refine(impl_compare.calls k _ _ t598 _ _ t602 t606 _ ?side1 ?side2 ?side3 ?side4 A7.out).mono ?_);(case side1=>exact Kd.Cz (Kd.R_reads' HO601.out).2.2);(case side2=>exact(Kd.R_reads' HO601.out).2.1);(case side3=>exact Kd.Cz (Kd.R_reads' HO605.out).2.2);(case side4=>exact(Kd.R_reads' HO605.out).2.1);rintro e w12 ⟨rfl,hb⟩;refine⟨_,rfl,?_⟩;replace HO601:=Aside0.mk (Kd.R_below (Kd.Rz HO601.out) hb);replace HO605:=Aside0.mk (Kd.R_below (Kd.Rz HO605.out) hb);replace HB:=Aside0.mk (below_step bz hb);(try clear hb);(try clear hb2);(try clear hk);(try clear hi)))
   go_ret
   exact⟨by first|rfl|(simp[errW_none,errW_some]<;>rfl)|(simp[*,errW_none,errW_some]<;>rfl),bz⟩
  ·replace c6:=Bool.eq_false_iff.mpr c6
   subst c6
   have H1:(some (-2))=some r:=by rw[if_neg (show ¬ (false=true) by decide)] at H;exact H
   clear H
   have H:=H1
   clear H1
   obtain rfl:=Option.some.inj H
   go_enter Try.func15,Try.ntmps15
   go_wp2_with (first|((with_reducible refine gate_callee (f:=20) rfl ?_);refine goesL_ (some 11) rfl rfl Try.func20 (by kernel_rfl) rfl #[.slice A0 l0.length c0] rfl az ?_;(with_reducible refine(impl_ordOf.calls k _ _ l0 t598 true _ ?side1 ?side2 A3.out).mono ?_);(case side1=>exact Kd.Cz HR0.out);(case side2=>exact HC0.out);rintro e w13 ⟨v600,rfl,ho0,hb⟩;refine⟨_,rfl,?_⟩;have HO601:=Aside0.mk (Kd.R_lower ho0 (below_size bz));replace HB:=Aside0.mk (below_step bz hb);(try clear hb);(try clear hb2);(try clear hk);(try clear hi);(try clear ho0))|((with_reducible refine gate_callee (f:=20) rfl ?_);refine goesL_ (some 16) rfl rfl Try.func20 (by kernel_rfl) rfl #[.slice A1 l1.length c1] rfl az ?_;(with_reducible refine(impl_ordOf.calls k _ _ l1 t602 false _ ?side1 ?side2 A4.out).mono ?_);(case side1=>exact Kd.Cz (Kd.C_below HR1.out HB.out));(case side2=>exact HC1.out);rintro e w14 ⟨v604,rfl,ho0,hb⟩;refine⟨_,rfl,?_⟩;have HO605:=Aside0.mk (Kd.R_lower (Kd.R_new' ho0 (Kd.R_lt (Kd.Rz HO601.out))) (below_size bz));replace HO601:=Aside0.mk (Kd.R_elder' (Kd.Rz HO601.out) (Kd.R_base ho0) hb);replace HB:=Aside0.mk (below_step bz hb);(try clear hb);(try clear hb2);(try clear hk);(try clear hi);(try clear ho0)))
   go_ret
   exact⟨by first|rfl|(simp[errW_none,errW_some]<;>rfl)|(simp[*,errW_none,errW_some]<;>rfl),bz⟩
 ·replace c5:=Bool.eq_false_iff.mpr c5
  subst c5
  have H1:(some (-2))=some r:=by rw[if_neg (show ¬ (false=true) by decide)] at H;exact H
  clear H
  have H:=H1
  clear H1
  obtain rfl:=Option.some.inj H
  go_enter Try.func15,Try.ntmps15
  go_wp2_with (first|((with_reducible refine gate_callee (f:=20) rfl ?_);refine goesL_ (some 11) rfl rfl Try.func20 (by kernel_rfl) rfl #[.slice A0 l0.length c0] rfl az ?_;(with_reducible refine(impl_ordOf.calls k _ _ l0 t598 false _ ?side1 ?side2 A3.out).mono ?_);(case side1=>exact Kd.Cz HR0.out);(case side2=>exact HC0.out);rintro e w15 ⟨v600,rfl,ho0,hb⟩;refine⟨_,rfl,?_⟩;have HO601:=Aside0.mk (Kd.R_lower ho0 (below_size bz));replace HB:=Aside0.mk (below_step bz hb);(try clear hb);(try clear hb2);(try clear hk);(try clear hi);(try clear ho0))|((with_reducible refine gate_callee (f:=20) rfl ?_);refine goesL_ (some 16) rfl rfl Try.func20 (by kernel_rfl) rfl #[.slice A1 l1.length c1] rfl az ?_;(with_reducible refine(impl_ordOf.calls k _ _ l1 t602 t603 _ ?side1 ?side2 A4.out).mono ?_);(case side1=>exact Kd.Cz (Kd.C_below HR1.out HB.out));(case side2=>exact HC1.out);rintro e w16 ⟨v604,rfl,ho0,hb⟩;refine⟨_,rfl,?_⟩;have HO605:=Aside0.mk (Kd.R_lower (Kd.R_new' ho0 (Kd.R_lt (Kd.Rz HO601.out))) (below_size bz));replace HO601:=Aside0.mk (Kd.R_elder' (Kd.Rz HO601.out) (Kd.R_base ho0) hb);replace HB:=Aside0.mk (below_step bz hb);(try clear hb);(try clear hb2);(try clear hk);(try clear hi);(try clear ho0)))
  go_ret
  exact⟨by first|rfl|(simp[errW_none,errW_some]<;>rfl)|(simp[*,errW_none,errW_some]<;>rfl),bz⟩
end Go.Proofs.Ytfkecmnklpjelaa.P