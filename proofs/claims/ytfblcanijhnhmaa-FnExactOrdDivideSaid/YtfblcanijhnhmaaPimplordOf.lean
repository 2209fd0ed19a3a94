/- One Go function comes to what its Lean function tells. -/
import Derived.Test.YtfblcanijhnhmaaP0
import Derived.Test.YtfblcanijhnhmaaPimpltakeOrd
namespace Go.Proofs.Ytfblcanijhnhmaa.P
open Go.RowKit YtfblcanijhnhmaaW.PrintWords YtfblcanijhnhmaaW.PrintLast YtfblcanijhnhmaaW.PrintMore
set_option linter.unusedVariables false
set_option linter.unusedSimpArgs false
/-! ### impl_ordOf: function 59 -/
def impl_ordOf.f (k:Nat)(l0:List Int):Option ((List (S61)) × Bool):=if(l0.length:Int)<1 then(some (([]:List (S61)),false)) else(if(l0.length:Int)>60 then(some (([]:List (S61)),false)) else((impl_takeOrd.f k l0).bind fun bt569=>(if bt569.2.2=true then(some (bt569.1,((bt569.2.1.length:Int) == 0))) else(some (bt569.1,false)))))
theorem impl_ordOf.mono:∀ a0 k,LeO (impl_ordOf.f k a0) (impl_ordOf.f (k+1) a0):=by
 intro a0 k;unfold impl_ordOf.f
 repeat' first|(with_reducible first|exact impl_takeOrd.mono _ _|exact LeO.refl _|exact LeO.none _|refine LeO.ite ?_ ?_|refine LeO.bind ?_ (fun _=>?_))|exact impl_takeOrd.mono _ _|exact LeO.none _|refine LeO.ite ?_ ?_|refine LeO.bind ?_ (fun _=>?_)
set_option maxHeartbeats 8000000 in
set_option maxRecDepth 100000 in
theorem impl_ordOf.calls (k:Nat)(A0:Option Addr)(c0:Nat)(l0:List Int)(r1:List (S61))(r2:Bool)(w:World)(hr0:Kd.C (Kd.int .i64) w A0 l0.length l0)(hc0:l0.length≤c0)(h:impl_ordOf.f k l0=some (r1,r2)) :
  Calls Try.prog 59 #[.slice A0 l0.length c0] w fun e w'=>∃ v0_:Value,e=.returned (.tuple #[v0_,.bool r2])∧Kd.R k61 61 w' w.heap.size (fun _=>True) v0_ r1∧Below w.heap.size w w':=by
 have HR0:=Sd.mk hr0;have HC0:=Sd.mk hc0;clear hr0 hc0;have HB:=Sd.mk (Below.refl w.heap.size w);have H:(if(l0.length:Int)<1 then(some (([]:List (S61)),false)) else(if(l0.length:Int)>60 then(some (([]:List (S61)),false)) else((impl_takeOrd.f k l0).bind fun bt569=>(if bt569.2.2=true then(some (bt569.1,((bt569.2.1.length:Int) == 0))) else(some (bt569.1,false))))))=some (r1,r2):=h;clear h
 by_cases c2:(l0.length:Int)<1
 ·rw[if_pos c2] at H
  have c2b0:decide ((l0.length:Int)<1)=true:=decide_eq_true c2;have c2b1:decide (l0.length<1)=true:=decide_eq_true (by omega);clear c2;simp only[Option.some.injEq,Prod.mk.injEq] at H;obtain⟨rfl,rfl⟩:=H;go_enter Try.func59,Try.ntmps59;go_wp2;go_ret2;exact⟨_,by first|rfl|(simp[errW_none,errW_some]<;>rfl)|(simp[*,errW_none,errW_some]<;>rfl),by first|exact Kd.R_nil _ _ _ _ _|exact Kd.N_nil _ _ _ _ _|exact Kd.V_nil _ _ _ _ _|exact Kd.Q_nil _ _ _ _ _|exact Kd.S_nil _ _ _ _ _,bz⟩
 ·rw[if_neg c2] at H
  have c2b0:decide ((l0.length:Int)<1)=false:=decide_eq_false c2;have c2b1:decide (l0.length<1)=false:=decide_eq_false (by omega);clear c2
  by_cases c3:(l0.length:Int)>60
  ·rw[if_pos c3] at H
   have c3b0:decide (60<(l0.length:Int))=true:=decide_eq_true c3;have c3b1:decide (60<l0.length)=true:=decide_eq_true (by omega);clear c3;simp only[Option.some.injEq,Prod.mk.injEq] at H;obtain⟨rfl,rfl⟩:=H;go_enter Try.func59,Try.ntmps59;go_wp2;go_ret2;exact⟨_,by first|rfl|(simp[errW_none,errW_some]<;>rfl)|(simp[*,errW_none,errW_some]<;>rfl),by first|exact Kd.R_nil _ _ _ _ _|exact Kd.N_nil _ _ _ _ _|exact Kd.V_nil _ _ _ _ _|exact Kd.Q_nil _ _ _ _ _|exact Kd.S_nil _ _ _ _ _,bz⟩
  ·rw[if_neg c3] at H
   have c3b0:decide (60<(l0.length:Int))=false:=decide_eq_false c3;have c3b1:decide (60<l0.length)=false:=decide_eq_false (by omega);clear c3;replace H:=Option.bind_eq_some_iff.mp H;obtain⟨⟨t569,t572,t575⟩,A40,H⟩:=H;replace H:(if t575=true then(some (t569,((t572.length:Int) == 0))) else(some (t569,false)))=some (r1,r2):=H;have A4:=Sd.mk A40;clear A40
   by_cases c5:t575=true
   ·subst c5
    have H1:(some (t569,((t572.length:Int) == 0)))=some (r1,r2):=by rw[if_pos rfl] at H;exact H
    clear H;have H:=H1;clear H1;simp only[Option.some.injEq,Prod.mk.injEq] at H;obtain⟨rfl,rfl⟩:=H;go_enter Try.func59,Try.ntmps59;go_wp2_with (first|((with_reducible refine gate_callee (f:=74) rfl ?_);refine goesL_ (some 17) rfl rfl Try.func74 (by kernel_rfl) rfl #[.slice A0 l0.length c0] rfl az ?_;(with_reducible refine(impl_takeOrd.calls k (fun k_=>k_<w.heap.size) _ _ l0 t569 t572 true _ ?side1 A4.out).mono ?_);(case side1=>exact Kd.V_mk HC0.out (Kd.F_below (Kd.C_F (Kd.heap_int .i64) HR0.out) bz));rintro e w6 ⟨v570,v573,rfl,ho0,ho1,hb⟩;refine⟨_,rfl,?_⟩;have HO571:=Sd.mk (Kd.R_lower (Kd.R_mono (ok':=fun k_=>True) ho0 (fun _ hk_=>trivial)) (below_size bz));have HO574:=Sd.mk (Kd.V_lower (Kd.V_mono (ok':=fun k_=>some k_≠(v570:Value).ownBlock) ho1 (fun k_ hk_=>hk_.2)) (below_size bz));replace HB:=Sd.mk (below_step bz hb);(try clear hb);(try clear hb2);(try clear hk);(try clear hi);(try clear ho0);(try clear ho1);obtain⟨Ao7,co7,eo7⟩:=Kd.V_slice HO574.out;subst eo7));go_ret2;exact⟨_,by first|rfl|(simp[errW_none,errW_some]<;>rfl)|(simp[*,errW_none,errW_some]<;>rfl),by(with_reducible repeat (first|apply Kd.R_alloc|apply Kd.R_drewN|apply Kd.R_drew));exact HO571.out,bz⟩
   ·replace c5:=Bool.eq_false_iff.mpr c5
    subst c5
    have H1:(some (t569,false))=some (r1,r2):=by rw[if_neg (show ¬ (false=true) by decide)] at H;exact H
    clear H;have H:=H1;clear H1;simp only[Option.some.injEq,Prod.mk.injEq] at H;obtain⟨rfl,rfl⟩:=H;go_enter Try.func59,Try.ntmps59;go_wp2_with (first|((with_reducible refine gate_callee (f:=74) rfl ?_);refine goesL_ (some 17) rfl rfl Try.func74 (by kernel_rfl) rfl #[.slice A0 l0.length c0] rfl az ?_;(with_reducible refine(impl_takeOrd.calls k (fun k_=>k_<w.heap.size) _ _ l0 t569 t572 false _ ?side1 A4.out).mono ?_);(case side1=>exact Kd.V_mk HC0.out (Kd.F_below (Kd.C_F (Kd.heap_int .i64) HR0.out) bz));rintro e w8 ⟨v570,v573,rfl,ho0,ho1,hb⟩;refine⟨_,rfl,?_⟩;have HO571:=Sd.mk (Kd.R_lower (Kd.R_mono (ok':=fun k_=>True) ho0 (fun _ hk_=>trivial)) (below_size bz));have HO574:=Sd.mk (Kd.V_lower (Kd.V_mono (ok':=fun k_=>some k_≠(v570:Value).ownBlock) ho1 (fun k_ hk_=>hk_.2)) (below_size bz));replace HB:=Sd.mk (below_step bz hb);(try clear hb);(try clear hb2);(try clear hk);(try clear hi);(try clear ho0);(try clear ho1)));go_ret2;exact⟨_,by first|rfl|(simp[errW_none,errW_some]<;>rfl)|(simp[*,errW_none,errW_some]<;>rfl),by(with_reducible repeat (first|apply Kd.R_alloc|apply Kd.R_drewN|apply Kd.R_drew));exact HO571.out,bz⟩
end Go.Proofs.Ytfblcanijhnhmaa.P