/- One Go function comes to what its Lean function tells. -/
import Derived.Test.YtpgkpahhohfmhaaP0
import Derived.Test.YtpgkpahhohfmhaaPimplordOf
import Derived.Test.YtpgkpahhohfmhaaPimplslow
namespace Go.Proofs.Ytpgkpahhohfmhaa.P
open Go.RowKit YtpgkpahhohfmhaaW.PrintWords YtpgkpahhohfmhaaW.PrintLast YtpgkpahhohfmhaaW.PrintMore
set_option linter.unusedVariables false
set_option linter.unusedSimpArgs false
/-! ### impl_SlowValue: function 18 -/
def impl_SlowValue.f (k:Nat)(l0:List Int)(a1:Int):Option (Int):=(impl_ordOf.f k l0).bind fun bt321=>(if bt321.2=true then(if a1<1 then(some (-1)) else(if a1>99 then(some (-1)) else((impl_slow.f k bt321.1 a1).bind fun t325=>(some t325)))) else(some (-1)))
theorem impl_SlowValue.mono:∀ a0 a1 k,LeO (impl_SlowValue.f k a0 a1) (impl_SlowValue.f (k+1) a0 a1):=by
 intro a0 a1 k
 unfold impl_SlowValue.f
 repeat' first|(with_reducible first|exact impl_ordOf.mono _ _|exact impl_slow.mono _ _ _|exact LeO.refl _|exact LeO.none _|refine LeO.ite ?_ ?_|refine LeO.bind ?_ (fun _=>?_))|exact impl_ordOf.mono _ _|exact impl_slow.mono _ _ _|exact LeO.none _|refine LeO.ite ?_ ?_|refine LeO.bind ?_ (fun _=>?_)
set_option maxHeartbeats 8000000 in
set_option maxRecDepth 100000 in
theorem impl_SlowValue.calls (k:Nat)(A0:Option Addr)(c0:Nat)(l0:List Int)(a1:Int)(r:Int)(w:World)(hr0:Kd.C (Kd.int .i64) w A0 l0.length l0)(hc0:l0.length≤c0)(h:impl_SlowValue.f k l0 a1=some r) :
  Calls Try.prog 18 #[.slice A0 l0.length c0,.int .i64 a1] w fun e w'=>e=.returned (.int .i64 r)∧Below w.heap.size w w':=by
 have HR0:=Aside0.mk hr0
 have HC0:=Aside0.mk hc0
 clear hr0 hc0
 have HB:=Aside0.mk (Below.refl w.heap.size w)
 have H:((impl_ordOf.f k l0).bind fun bt321=>(if bt321.2=true then(if a1<1 then(some (-1)) else(if a1>99 then(some (-1)) else((impl_slow.f k bt321.1 a1).bind fun t325=>(some t325)))) else(some (-1))))=some r:=h
 clear h
 replace H:=Option.bind_eq_some_iff.mp H
 obtain⟨⟨t321,t322⟩,A30,H⟩:=H
 replace H:(if t322=true then(if a1<1 then(some (-1)) else(if a1>99 then(some (-1)) else((impl_slow.f k t321 a1).bind fun t325=>(some t325)))) else(some (-1)))=some r:=H
 have A3:=Aside0.mk A30
 clear A30
 by_cases c4:t322=true
 ·subst c4
  have H1:(if a1<1 then(some (-1)) else(if a1>99 then(some (-1)) else((impl_slow.f k t321 a1).bind fun t325=>(some t325))))=some r:=by rw[if_pos rfl] at H;exact H
  clear H
  have H:=H1
  clear H1
  by_cases c5:a1<1
  ·rw[if_pos c5] at H
   have c5b0:decide (a1<1)=true:=decide_eq_true c5
   clear c5
   obtain rfl:=Option.some.inj H
   go_enter Try.func18,Try.ntmps18
   go_wp2_with (first|((with_reducible refine gate_callee (f:=54) rfl ?_);refine goesL_ (some 9) rfl rfl Try.func54 (by kernel_rfl) rfl #[.slice A0 l0.length c0] rfl az ?_;(with_reducible refine(impl_ordOf.calls k _ _ l0 t321 true _ ?side1 ?side2 A3.out).mono ?_);(case side1=>exact Kd.Cz HR0.out);(case side2=>exact HC0.out);rintro e w6 ⟨v323,rfl,ho0,hb⟩;refine⟨_,rfl,?_⟩;have HO324:=Aside0.mk (Kd.R_lower ho0 (below_size bz));replace HB:=Aside0.mk (below_step bz hb);(try clear hb);(try clear hb2);(try clear hk);(try clear hi);(try clear ho0)))
   go_ret
   exact⟨by first|rfl|(simp[errW_none,errW_some]<;>rfl)|(simp[*,errW_none,errW_some]<;>rfl),bz⟩
  ·rw[if_neg c5] at H
   have c5b0:decide (a1<1)=false:=decide_eq_false c5
   clear c5
   by_cases c7:a1>99
   ·rw[if_pos c7] at H
    have c7b0:decide (99<a1)=true:=decide_eq_true c7
    clear c7
    obtain rfl:=Option.some.inj H
    go_enter Try.func18,Try.ntmps18
    go_wp2_with (first|((with_reducible refine gate_callee (f:=54) rfl ?_);refine goesL_ (some 9) rfl rfl Try.func54 (by kernel_rfl) rfl #[.slice A0 l0.length c0] rfl az ?_;(with_reducible refine(impl_ordOf.calls k _ _ l0 t321 true _ ?side1 ?side2 A3.out).mono ?_);(case side1=>exact Kd.Cz HR0.out);(case side2=>exact HC0.out);rintro e w8 ⟨v323,rfl,ho0,hb⟩;refine⟨_,rfl,?_⟩;have HO324:=Aside0.mk (Kd.R_lower ho0 (below_size bz));replace HB:=Aside0.mk (below_step bz hb);(try clear hb);(try clear hb2);(try clear hk);(try clear hi);(try clear ho0)))
    go_ret
    exact⟨by first|rfl|(simp[errW_none,errW_some]<;>rfl)|(simp[*,errW_none,errW_some]<;>rfl),bz⟩
   ·rw[if_neg c7] at H
    have c7b0:decide (99<a1)=false:=decide_eq_false c7
    clear c7
    replace H:=Option.bind_eq_some_iff.mp H
    obtain⟨t325,A90,H⟩:=H
    replace H:(some t325)=some r:=H
    have A9:=Aside0.mk A90
    clear A90
    obtain rfl:=Option.some.inj H
    go_enter Try.func18,Try.ntmps18
    go_wp2_with (first|((with_reducible refine gate_callee (f:=54) rfl ?_);refine goesL_ (some 9) rfl rfl Try.func54 (by kernel_rfl) rfl #[.slice A0 l0.length c0] rfl az ?_;(with_reducible refine(impl_ordOf.calls k _ _ l0 t321 true _ ?side1 ?side2 A3.out).mono ?_);(case side1=>exact Kd.Cz HR0.out);(case side2=>exact HC0.out);rintro e w10 ⟨v323,rfl,ho0,hb⟩;refine⟨_,rfl,?_⟩;have HO324:=Aside0.mk (Kd.R_lower ho0 (below_size bz));replace HB:=Aside0.mk (below_step bz hb);(try clear hb);(try clear hb2);(try clear hk);(try clear hi);(try clear ho0);obtain⟨Ao11,co11,eo11⟩:=Kd.R_slice HO324.out;subst eo11)|((with_reducible refine gate_callee (f:=56) rfl ?_);refine goesL_ (some 24) rfl rfl Try.func56 (by kernel_rfl) rfl #[.slice Ao11 t321.length co11,.int .i64 a1] rfl az ?_;(with_reducible refine(impl_slow.calls k _ _ t321 a1 t325 _ ?side1 ?side2 A9.out).mono ?_);(case side1=>exact Kd.Cz (Kd.R_reads' HO324.out).2.2);(case side2=>exact(Kd.R_reads' HO324.out).2.1);rintro e w12 ⟨rfl,hb⟩;refine⟨_,rfl,?_⟩;replace HO324:=Aside0.mk (Kd.R_below (Kd.Rz HO324.out) hb);replace HB:=Aside0.mk (below_step bz hb);(try clear hb);(try clear hb2);(try clear hk);(try clear hi)))
    go_ret
    exact⟨by first|rfl|(simp[errW_none,errW_some]<;>rfl)|(simp[*,errW_none,errW_some]<;>rfl),bz⟩
 ·replace c4:=Bool.eq_false_iff.mpr c4
  subst c4
  have H1:(some (-1))=some r:=by rw[if_neg (show ¬ (false=true) by decide)] at H;exact H
  clear H
  have H:=H1
  clear H1
  obtain rfl:=Option.some.inj H
  go_enter Try.func18,Try.ntmps18
  go_wp2_with (first|((with_reducible refine gate_callee (f:=54) rfl ?_);refine goesL_ (some 9) rfl rfl Try.func54 (by kernel_rfl) rfl #[.slice A0 l0.length c0] rfl az ?_;(with_reducible refine(impl_ordOf.calls k _ _ l0 t321 false _ ?side1 ?side2 A3.out).mono ?_);(case side1=>exact Kd.Cz HR0.out);(case side2=>exact HC0.out);rintro e w13 ⟨v323,rfl,ho0,hb⟩;refine⟨_,rfl,?_⟩;have HO324:=Aside0.mk (Kd.R_lower ho0 (below_size bz));replace HB:=Aside0.mk (below_step bz hb);(try clear hb);(try clear hb2);(try clear hk);(try clear hi);(try clear ho0)))
  go_ret
  exact⟨by first|rfl|(simp[errW_none,errW_some]<;>rfl)|(simp[*,errW_none,errW_some]<;>rfl),bz⟩
end Go.Proofs.Ytpgkpahhohfmhaa.P