/- One Go function comes to what its Lean function tells. -/
import Derived.Test.YtpgkpahhohfmhaaP0
import Derived.Test.YtpgkpahhohfmhaaPspecOrdValid
import Derived.Test.YtpgkpahhohfmhaaPspecl1Terms
namespace Go.Proofs.Ytpgkpahhohfmhaa.P
open Go.RowKit YtpgkpahhohfmhaaW.PrintWords YtpgkpahhohfmhaaW.PrintLast YtpgkpahhohfmhaaW.PrintMore
set_option linter.unusedVariables false
set_option linter.unusedSimpArgs false
/-! ### spec_OrdKind: function 70 -/
def spec_OrdKind.f (k:Nat)(l0:List Int):Option (Int):=(spec_OrdValid.f k l0).bind fun t954=>(if t954=true then((spec_l1Terms.f k l0).bind fun bt955=>(if(bt955.2.length:Int)=0 then(some 0) else(if 0≤(wrap64 ((bt955.2.length:Int)-1)) then(if(wrap64 ((bt955.2.length:Int)-1))<(bt955.2.length:Int) then(if((rd_L3 bt955.2 (wrap64 ((bt955.2.length:Int)-1))).length:Int)=1 then(some 1) else(some 2)) else(none)) else(none)))) else(some (-1)))
theorem spec_OrdKind.mono:∀ a0 k,LeO (spec_OrdKind.f k a0) (spec_OrdKind.f (k+1) a0):=by
 intro a0 k
 unfold spec_OrdKind.f
 repeat' first|(with_reducible first|exact spec_OrdValid.mono _ _|exact spec_l1Terms.mono _ _|exact LeO.refl _|exact LeO.none _|refine LeO.ite ?_ ?_|refine LeO.bind ?_ (fun _=>?_))|exact spec_OrdValid.mono _ _|exact spec_l1Terms.mono _ _|exact LeO.none _|refine LeO.ite ?_ ?_|refine LeO.bind ?_ (fun _=>?_)
set_option maxHeartbeats 8000000 in
set_option maxRecDepth 100000 in
theorem spec_OrdKind.calls (k:Nat)(A0:Option Addr)(c0:Nat)(l0:List Int)(r:Int)(w:World)(hr0:Kd.C (Kd.int .i64) w A0 l0.length l0)(hc0:l0.length≤c0)(h:spec_OrdKind.f k l0=some r) :
  Calls Try.prog 70 #[.slice A0 l0.length c0] w fun e w'=>e=.returned (.int .i64 r)∧Below w.heap.size w w':=by
 have HR0:=Aside0.mk hr0
 have HC0:=Aside0.mk hc0
 clear hr0 hc0
 have HB:=Aside0.mk (Below.refl w.heap.size w)
 have H:((spec_OrdValid.f k l0).bind fun t954=>(if t954=true then((spec_l1Terms.f k l0).bind fun bt955=>(if(bt955.2.length:Int)=0 then(some 0) else(if 0≤(wrap64 ((bt955.2.length:Int)-1)) then(if(wrap64 ((bt955.2.length:Int)-1))<(bt955.2.length:Int) then(if((rd_L3 bt955.2 (wrap64 ((bt955.2.length:Int)-1))).length:Int)=1 then(some 1) else(some 2)) else(none)) else(none)))) else(some (-1))))=some r:=h
 clear h
 replace H:=Option.bind_eq_some_iff.mp H
 obtain⟨t954,A20,H⟩:=H
 replace H:(if t954=true then((spec_l1Terms.f k l0).bind fun bt955=>(if(bt955.2.length:Int)=0 then(some 0) else(if 0≤(wrap64 ((bt955.2.length:Int)-1)) then(if(wrap64 ((bt955.2.length:Int)-1))<(bt955.2.length:Int) then(if((rd_L3 bt955.2 (wrap64 ((bt955.2.length:Int)-1))).length:Int)=1 then(some 1) else(some 2)) else(none)) else(none)))) else(some (-1)))=some r:=H
 have A2:=Aside0.mk A20
 clear A20
 by_cases c3:t954=true
 ·subst c3
  have H1:((spec_l1Terms.f k l0).bind fun bt955=>(if(bt955.2.length:Int)=0 then(some 0) else(if 0≤(wrap64 ((bt955.2.length:Int)-1)) then(if(wrap64 ((bt955.2.length:Int)-1))<(bt955.2.length:Int) then(if((rd_L3 bt955.2 (wrap64 ((bt955.2.length:Int)-1))).length:Int)=1 then(some 1) else(some 2)) else(none)) else(none))))=some r:=by rw[if_pos rfl] at H;exact H
  clear H
  have H:=H1
  clear H1
  replace H:=Option.bind_eq_some_iff.mp H
  obtain⟨⟨t955,t958⟩,A40,H⟩:=H
  replace H:(if(t958.length:Int)=0 then(some 0) else(if 0≤(wrap64 ((t958.length:Int)-1)) then(if(wrap64 ((t958.length:Int)-1))<(t958.length:Int) then(if((rd_L3 t958 (wrap64 ((t958.length:Int)-1))).length:Int)=1 then(some 1) else(some 2)) else(none)) else(none)))=some r:=H
  have A4:=Aside0.mk A40
  clear A40
  by_cases c5:(t958.length:Int)=0
  ·rw[if_pos c5] at H
   have c5b0:((t958.length:Int) == 0)=true:=beq_iff_eq.mpr c5
   have c5b1:((t958.length:Int) != 0)=false:=bne_eq_false_iff_eq.mpr c5
   clear c5
   obtain rfl:=Option.some.inj H
   go_enter Try.func70,Try.ntmps70
   go_wp2_with (first|((with_reducible refine gate_callee (f:=65) rfl ?_);refine goesL_ (some 6) rfl rfl Try.func65 (by kernel_rfl) rfl #[.slice A0 l0.length c0] rfl az ?_;(with_reducible refine(spec_OrdValid.calls k _ _ l0 true _ ?side1 ?side2 A2.out).mono ?_);(case side1=>exact Kd.Cz HR0.out);(case side2=>exact HC0.out);rintro e w6 ⟨rfl,hb⟩;refine⟨_,rfl,?_⟩;replace HB:=Aside0.mk (below_step bz hb);(try clear hb);(try clear hb2);(try clear hk);(try clear hi))|((with_reducible refine gate_callee (f:=79) rfl ?_);refine goesL_ (some 10) rfl rfl Try.func79 (by kernel_rfl) rfl #[.slice A0 l0.length c0] rfl az ?_;(with_reducible refine(spec_l1Terms.calls k (fun k_=>k_<w.heap.size) _ _ l0 t955 t958 _ ?side1 A4.out).mono ?_);(case side1=>exact Kd.V_mk HC0.out (Kd.F_below (Kd.C_F (Kd.heap_int .i64) HR0.out) bz));rintro e w7 ⟨v956,v959,rfl,ho0,ho1,hb⟩;refine⟨_,rfl,?_⟩;have HO957:=Aside0.mk (Kd.R_lower (Kd.R_mono (ok':=fun k_=>True) ho0 (fun _ hk_=>trivial)) (below_size bz));have HO960:=Aside0.mk (Kd.N_lower (Kd.N_mono (ok':=fun k_=>some k_≠(v956:Value).ownBlock) ho1 (fun k_ hk_=>hk_.2)) (below_size bz));replace HB:=Aside0.mk (below_step bz hb);(try clear hb);(try clear hb2);(try clear hk);(try clear hi);(try clear ho0);(try clear ho1);obtain⟨Ao8,co8,eo8⟩:=Kd.N_slice HO960.out;subst eo8))
   go_ret
   exact⟨by first|rfl|(simp[errW_none,errW_some]<;>rfl)|(simp[*,errW_none,errW_some]<;>rfl),bz⟩
  ·rw[if_neg c5] at H
   have c5b0:((t958.length:Int) == 0)=false:=beq_eq_false_iff_ne.mpr c5
   have c5b1:((t958.length:Int) != 0)=true:=bne_iff_ne.mpr c5
   have c5b2:¬ (t958=[]):=fun h_=>c5 (by rw[h_];rfl)
   obtain⟨ji9,hji9⟩:∃ j_:Int,(wrap64 ((t958.length:Int)-1))=j_:=⟨_,rfl⟩
   replace H:(if 0≤(ji9) then(if(ji9)<(t958.length:Int) then(if((rd_L3 t958 (ji9)).length:Int)=1 then(some 1) else(some 2)) else(none)) else(none))=some r:=by first|(rw[hji9] at H;exact H)|(simp only[hji9] at H ⊢;exact H)
   (try rw[hji9] at A2)
   (try rw[hji9] at A4)
   have hji9w:(IntKind.i64.wrap ((t958.length:Int)-1))=ji9:=(i64_w _).trans hji9
   by_cases c10:0≤(ji9)
   ·rw[if_pos c10] at H
    have c10b0:decide (0≤(ji9))=true:=decide_eq_true c10
    clear c10
    by_cases c11:(ji9)<(t958.length:Int)
    ·rw[if_pos c11] at H
     have c11b0:decide ((ji9)<(t958.length:Int))=true:=decide_eq_true c11
     clear c11
     by_cases c12:((rd_L3 t958 (ji9)).length:Int)=1
     ·rw[if_pos c12] at H
      have c12b0:(((rd_L3 t958 (ji9)).length:Int) == 1)=true:=beq_iff_eq.mpr c12
      have c12b1:(((rd_L3 t958 (ji9)).length:Int) != 1)=false:=bne_eq_false_iff_eq.mpr c12
      clear c12
      obtain rfl:=Option.some.inj H
      go_enter Try.func70,Try.ntmps70
      go_wp2_with (first|((with_reducible refine gate_callee (f:=65) rfl ?_);refine goesL_ (some 6) rfl rfl Try.func65 (by kernel_rfl) rfl #[.slice A0 l0.length c0] rfl az ?_;(with_reducible refine(spec_OrdValid.calls k _ _ l0 true _ ?side1 ?side2 A2.out).mono ?_);(case side1=>exact Kd.Cz HR0.out);(case side2=>exact HC0.out);rintro e w13 ⟨rfl,hb⟩;refine⟨_,rfl,?_⟩;replace HB:=Aside0.mk (below_step bz hb);(try clear hb);(try clear hb2);(try clear hk);(try clear hi))|((with_reducible refine gate_callee (f:=79) rfl ?_);refine goesL_ (some 10) rfl rfl Try.func79 (by kernel_rfl) rfl #[.slice A0 l0.length c0] rfl az ?_;(with_reducible refine(spec_l1Terms.calls k (fun k_=>k_<w.heap.size) _ _ l0 t955 t958 _ ?side1 A4.out).mono ?_);(case side1=>exact Kd.V_mk HC0.out (Kd.F_below (Kd.C_F (Kd.heap_int .i64) HR0.out) bz));rintro e w14 ⟨v956,v959,rfl,ho0,ho1,hb⟩;refine⟨_,rfl,?_⟩;have HO957:=Aside0.mk (Kd.R_lower (Kd.R_mono (ok':=fun k_=>True) ho0 (fun _ hk_=>trivial)) (below_size bz));have HO960:=Aside0.mk (Kd.N_lower (Kd.N_mono (ok':=fun k_=>some k_≠(v956:Value).ownBlock) ho1 (fun k_ hk_=>hk_.2)) (below_size bz));replace HB:=Aside0.mk (below_step bz hb);(try clear hb);(try clear hb2);(try clear hk);(try clear hi);(try clear ho0);(try clear ho1);obtain⟨Ao15,co15,eo15⟩:=Kd.N_slice HO960.out;subst eo15;have p961:0≤((ji9):Int):=dz;have q961:(ji9)<(t958.length:Int):=dz;obtain⟨ad961,A961_0,c961_0,e961,hx961_0,hl961_0,hi961_0⟩:=at_L3 (Kd.N_reads' HO960.out).2.2 (ji9) p961 q961;cases e961;obtain⟨ce961,hce961,hMe961,hcc961⟩:=Kd.N_get HO960.out [] (ji9) p961 (by first|exact q961|exact dz|(have e_:=(Kd.N_reads' HO960.out).1;omega));obtain⟨ua961_0,uc961_0,rfl,ul961_0,ge961_0⟩:=Kd.FK_slice_open hMe961;have hv961_0:=hcc961 0 _ rfl;rw[Nat.add_zero,show ((Kd.slice 3 (Kd.int .i64))).sz=1 from rfl,Nat.mul_one] at hv961_0;replace hv961_0:=Option.some.inj (hv961_0.symm.trans hx961_0);injection hv961_0 with hva_ hvn_ hvc_;rw[hva_] at ge961_0;rw[hvc_] at ul961_0;have HL961_0:=Aside0.mk (show Kd.V (Kd.int .i64) 3 _ w.heap.size _ _ (rd_L3 t958 (ji9)) from Kd.V_mk ul961_0 ge961_0);clear hva_ hvn_ hvc_ ge961_0 ul961_0;clear hcc961 hce961;have HR961_0:=Aside0.mk hi961_0;have HC961_0:=Aside0.mk hl961_0;clear hi961_0 hl961_0;replace p961:=eq_true p961;replace q961:=eq_true q961))
      go_ret
      exact⟨by first|rfl|(simp[errW_none,errW_some]<;>rfl)|(simp only[← hji9];first|rfl|(simp[errW_none,errW_some]<;>rfl))|(simp[*,errW_none,errW_some]<;>rfl),bz⟩
     ·rw[if_neg c12] at H
      have c12b0:(((rd_L3 t958 (ji9)).length:Int) == 1)=false:=beq_eq_false_iff_ne.mpr c12
      have c12b1:(((rd_L3 t958 (ji9)).length:Int) != 1)=true:=bne_iff_ne.mpr c12
      obtain rfl:=Option.some.inj H
      go_enter Try.func70,Try.ntmps70
      go_wp2_with (first|((with_reducible refine gate_callee (f:=65) rfl ?_);refine goesL_ (some 6) rfl rfl Try.func65 (by kernel_rfl) rfl #[.slice A0 l0.length c0] rfl az ?_;(with_reducible refine(spec_OrdValid.calls k _ _ l0 true _ ?side1 ?side2 A2.out).mono ?_);(case side1=>exact Kd.Cz HR0.out);(case side2=>exact HC0.out);rintro e w16 ⟨rfl,hb⟩;refine⟨_,rfl,?_⟩;replace HB:=Aside0.mk (below_step bz hb);(try clear hb);(try clear hb2);(try clear hk);(try clear hi))|((with_reducible refine gate_callee (f:=79) rfl ?_);refine goesL_ (some 10) rfl rfl Try.func79 (by kernel_rfl) rfl #[.slice A0 l0.length c0] rfl az ?_;(with_reducible refine(spec_l1Terms.calls k (fun k_=>k_<w.heap.size) _ _ l0 t955 t958 _ ?side1 A4.out).mono ?_);(case side1=>exact Kd.V_mk HC0.out (Kd.F_below (Kd.C_F (Kd.heap_int .i64) HR0.out) bz));rintro e w17 ⟨v956,v959,rfl,ho0,ho1,hb⟩;refine⟨_,rfl,?_⟩;have HO957:=Aside0.mk (Kd.R_lower (Kd.R_mono (ok':=fun k_=>True) ho0 (fun _ hk_=>trivial)) (below_size bz));have HO960:=Aside0.mk (Kd.N_lower (Kd.N_mono (ok':=fun k_=>some k_≠(v956:Value).ownBlock) ho1 (fun k_ hk_=>hk_.2)) (below_size bz));replace HB:=Aside0.mk (below_step bz hb);(try clear hb);(try clear hb2);(try clear hk);(try clear hi);(try clear ho0);(try clear ho1);obtain⟨Ao18,co18,eo18⟩:=Kd.N_slice HO960.out;subst eo18;have p961:0≤((ji9):Int):=dz;have q961:(ji9)<(t958.length:Int):=dz;obtain⟨ad961,A961_0,c961_0,e961,hx961_0,hl961_0,hi961_0⟩:=at_L3 (Kd.N_reads' HO960.out).2.2 (ji9) p961 q961;cases e961;obtain⟨ce961,hce961,hMe961,hcc961⟩:=Kd.N_get HO960.out [] (ji9) p961 (by first|exact q961|exact dz|(have e_:=(Kd.N_reads' HO960.out).1;omega));obtain⟨ua961_0,uc961_0,rfl,ul961_0,ge961_0⟩:=Kd.FK_slice_open hMe961;have hv961_0:=hcc961 0 _ rfl;rw[Nat.add_zero,show ((Kd.slice 3 (Kd.int .i64))).sz=1 from rfl,Nat.mul_one] at hv961_0;replace hv961_0:=Option.some.inj (hv961_0.symm.trans hx961_0);injection hv961_0 with hva_ hvn_ hvc_;rw[hva_] at ge961_0;rw[hvc_] at ul961_0;have HL961_0:=Aside0.mk (show Kd.V (Kd.int .i64) 3 _ w.heap.size _ _ (rd_L3 t958 (ji9)) from Kd.V_mk ul961_0 ge961_0);clear hva_ hvn_ hvc_ ge961_0 ul961_0;clear hcc961 hce961;have HR961_0:=Aside0.mk hi961_0;have HC961_0:=Aside0.mk hl961_0;clear hi961_0 hl961_0;replace p961:=eq_true p961;replace q961:=eq_true q961))
      go_ret
      exact⟨by first|rfl|(simp[errW_none,errW_some]<;>rfl)|(simp only[← hji9];first|rfl|(simp[errW_none,errW_some]<;>rfl))|(simp[*,errW_none,errW_some]<;>rfl),bz⟩
    ·rw[if_neg c11] at H
     exact absurd H (by simp)
   ·rw[if_neg c10] at H
    exact absurd H (by simp)
 ·replace c3:=Bool.eq_false_iff.mpr c3
  subst c3
  have H1:(some (-1))=some r:=by rw[if_neg (show ¬ (false=true) by decide)] at H;exact H
  clear H
  have H:=H1
  clear H1
  obtain rfl:=Option.some.inj H
  go_enter Try.func70,Try.ntmps70
  go_wp2_with (first|((with_reducible refine gate_callee (f:=65) rfl ?_);refine goesL_ (some 6) rfl rfl Try.func65 (by kernel_rfl) rfl #[.slice A0 l0.length c0] rfl az ?_;(with_reducible refine(spec_OrdValid.calls k _ _ l0 false _ ?side1 ?side2 A2.out).mono ?_);(case side1=>exact Kd.Cz HR0.out);(case side2=>exact HC0.out);rintro e w19 ⟨rfl,hb⟩;refine⟨_,rfl,?_⟩;replace HB:=Aside0.mk (below_step bz hb);(try clear hb);(try clear hb2);(try clear hk);(try clear hi)))
  go_ret
  exact⟨by first|rfl|(simp[errW_none,errW_some]<;>rfl)|(simp[*,errW_none,errW_some]<;>rfl),bz⟩
end Go.Proofs.Ytpgkpahhohfmhaa.P