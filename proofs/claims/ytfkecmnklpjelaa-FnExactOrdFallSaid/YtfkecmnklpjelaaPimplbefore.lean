/- One Go function comes to what its Lean function tells. -/
import Derived.Test.YtfkecmnklpjelaaP0
import Derived.Test.YtfkecmnklpjelaaPslicesCloneord
namespace Go.Proofs.Ytfkecmnklpjelaa.P
open Go.RowKit YtfkecmnklpjelaaW.PrintWords YtfkecmnklpjelaaW.PrintLast YtfkecmnklpjelaaW.PrintMore
set_option linter.unusedVariables false
set_option linter.unusedSimpArgs false
/-! ### impl_before: function 35 (by hand) -/
def impl_before.f (l0:List (S60)):Option (List (S60)):=(slices_Clone_ord.f l0).bind fun t_=>if 0≤wrap64 ((t_.length:Int)-1) then(if wrap64 ((t_.length:Int)-1)<(t_.length:Int) then(if wrap64 ((rd_T60 t_ (wrap64 ((t_.length:Int)-1))).f0-1)=0 then some ((t_.set (wrap64 ((t_.length:Int)-1)).toNat (⟨wrap64 ((rd_T60 t_ (wrap64 ((t_.length:Int)-1))).f0-1),(rd_T60 t_ (wrap64 ((t_.length:Int)-1))).f1⟩:S60)).take (wrap64 ((t_.length:Int)-1)).toNat) else some (t_.set (wrap64 ((t_.length:Int)-1)).toNat (⟨wrap64 ((rd_T60 t_ (wrap64 ((t_.length:Int)-1))).f0-1),(rd_T60 t_ (wrap64 ((t_.length:Int)-1))).f1⟩:S60))) else none) else none
set_option maxHeartbeats 4000000 in
set_option maxRecDepth 100000 in
theorem impl_before.calls (P0_:Nat→Prop)(A0:Option Addr)(c0:Nat)(l0:List (S60))(r:List (S60))(w:World)(hs0:Kd.V k60 60 w w.heap.size (fun k_=>P0_ k_) (.slice A0 l0.length c0) l0)(h:impl_before.f l0=some r) :
  Calls Try.prog 35 #[.slice A0 l0.length c0] w fun e w'=>∃ v0_:Value,e=.returned (v0_)∧Kd.N k60 60 w' w.heap.size (fun k_=>(P0_ k_∨w.heap.size≤k_)) v0_ r∧Below w.heap.size w w':=by
 have HO0:=Sd.mk (show Kd.V k60 60 w w.heap.size (fun k_=>(P0_ k_∨w.heap.size≤k_)) (.slice A0 l0.length c0) l0 from Kd.V_mono hs0 (fun k_ hk=>.inl hk))
 have HB:=Sd.mk (Below.refl w.heap.size w)
 obtain⟨t_,A20,H⟩:=Option.bind_eq_some_iff.mp h
 clear h hs0
 have A2:=Sd.mk A20
 clear A20
 obtain⟨j_,hj_⟩:∃ j:Int,wrap64 ((t_.length:Int)-1)=j:=⟨_,rfl⟩
 rw[hj_] at H
 have hjw:IntKind.i64.wrap ((t_.length:Int)-1)=j_:=(i64_w _).trans hj_
 by_cases c4:0≤j_
 case neg=>rw[if_neg c4] at H;cases H
 rw[if_pos c4] at H
 by_cases c5:j_<(t_.length:Int)
 case neg=>rw[if_neg c5] at H;cases H
 rw[if_pos c5] at H
 have H7:=Sd.mk H
 clear H
 have p_:(0≤j_)=True:=eq_true c4
 have q_:(j_<(t_.length:Int))=True:=eq_true c5
 have pd_:decide (0≤j_)=true:=decide_eq_true c4
 have qd_:decide (j_<(t_.length:Int))=true:=decide_eq_true c5
 go_enter Try.func35,Try.ntmps35
 go_wp2_with (first|((with_reducible refine gate_callee (f:=48) rfl ?_);refine goesL_ (some 6) rfl rfl Try.func48 (by kernel_rfl) rfl #[.slice A0 l0.length c0] rfl az ?_;(with_reducible refine(slices_Clone_ord.calls (fun k_=>(P0_ k_∨w.heap.size≤k_)) _ _ l0 t_ _ ?side1 A2.out).mono ?_);(case side1=>exact HO0.out);rintro e w9 ⟨v1_,rfl,ho0,hb⟩;refine⟨_,rfl,?_⟩;have n1_:=Sd.mk (Kd.N_lower (Kd.N_mono (ok':=fun k_=>(P0_ k_∨w.heap.size≤k_)) ho0 (fun k_ hk_=>Or.elim hk_ (fun hs_=>hs_) (fun hn_=>(.inr hn_)))) (Nat.le_refl _));have n2_:=Sd.mk (below_step HB.out hb);clear HB;have HO1:=n1_;have HB:=n2_;clear n1_ n2_;clear hb ho0;obtain⟨Ao,co,eo⟩:=Kd.N_slice HO1.out;subst eo;obtain⟨go,co6,eo6,gb6,gl6,cl6,HG6⟩:=Kd.N_form HO1.out (by omega);injection eo6 with ea_ en_ ec_;subst ea_;subst ec_;clear en_;have GB6:=Sd.mk gb6;have HLC:=Sd.mk (Kd.N_reads' HO1.out).2.1;clear gb6 gl6 HG6;obtain⟨ce6,hcl6,hM6,hcc6,hfr6⟩:=Kd.N_elem HO1.out z60 (j_:Int) c4 c5;obtain⟨ua6,uc6,rfl,ul6,ge6⟩:=k60_openF hM6;have hx6_0:w9.cell? ⟨go,(j_:Int).toNat*2,none⟩=some (.int .i64 ((rd_T60 t_ j_).f0)):=hcc6 0 _ rfl;have hf6_0:w9.frozen? ⟨go,(j_:Int).toNat*2,none⟩=false:=hfr6 0;have HP:=Sd.mk (Kd.N_seg HO1.out (j_:Int) c4 c5 (seg:=[.int .i64 (wrap64 ((rd_T60 t_ j_).f0-1))]) (j:=0) hcl6 hcc6 (show 1≤2 from by decide) (x':=(⟨wrap64 ((rd_T60 t_ j_).f0-1),(rd_T60 t_ j_).f1⟩:S60)) (k60_mkF _ _ (⟨wrap64 ((rd_T60 t_ j_).f0-1),(rd_T60 t_ j_).f1⟩:S60) ul6 ge6) (fun _ hk=>hk)).1;have qc_:(j_≤(co:Int))=True:=eq_true (by have:=HLC.out;omega);have qcd_:decide (j_≤(co:Int))=true:=decide_eq_true (by have:=HLC.out;omega);clear hcl6 hcc6 hfr6 hM6 ul6 ge6 HO1 HLC))
 all_goals go_ret
 ·rename_i h_
  have H:=H7.out
  rw[if_pos (beq_iff_eq.mp h_)] at H
  obtain rfl:=Option.some.inj H
  exact⟨_,rfl,Kd.N_take (m:=j_.toNat) HP.out (by(try simp only[List.length_set]);omega),below_set HB.out GB6.out⟩
 ·rename_i h_
  have H:=H7.out
  rw[if_neg (beq_eq_false_iff_ne.mp (by first|exact h_|simpa using h_))] at H
  obtain rfl:=Option.some.inj H
  exact⟨_,rfl,HP.out,below_set HB.out GB6.out⟩
end Go.Proofs.Ytfkecmnklpjelaa.P