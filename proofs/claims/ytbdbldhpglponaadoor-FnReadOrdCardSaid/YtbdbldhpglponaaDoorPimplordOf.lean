/- One Go function comes to what its Lean function tells. -/
import Derived.Test.YtbdbldhpglponaaDoorP0
import Derived.Test.YtbdbldhpglponaaDoorPimpltakeOrd
namespace Go.Proofs.YtbdbldhpglponaaDoor.P
open Go.RowKit YtbdbldhpglponaaDoorW.PrintWords YtbdbldhpglponaaDoorW.PrintLast YtbdbldhpglponaaDoorW.PrintMore
set_option linter.unusedVariables false
set_option linter.unusedSimpArgs false
/-! ### impl_ordOf: function 26 -/
def impl_ordOf.f (k:Nat)(l0:List Int):Option ((List (S57)) × Bool):=if(l0.length:Int)<1 then(some (([]:List (S57)),false)) else(if(l0.length:Int)>60 then(some (([]:List (S57)),false)) else((impl_takeOrd.f k l0).bind fun bt381=>(if bt381.2.2=true then(some (bt381.1,((bt381.2.1.length:Int) == 0))) else(some (bt381.1,false)))))
set_option maxHeartbeats 8000000 in
set_option maxRecDepth 100000 in
theorem impl_ordOf.calls (k:Nat)(M:Option Addr)(O:Nat)(l0:List Int)(U:List (S57))(X:Bool)(w:World)(Y:Kd.C (Kd.int .i64) w M l0.length l0)(Z:l0.length≤O)(h:impl_ordOf.f k l0=some (U,X)) :
  Calls Tryd.prog 26 #[.slice M l0.length O] w fun e w'=>∃ aa:Value,e=.returned (.tuple #[aa,.bool X])∧Kd.R k57 57 w' w.heap.size (fun _=>True) aa U∧Below w.heap.size w w':=by
 have ab:=Sd.mk Y;have ac:=Sd.mk Z;clear Y Z;have HB:=Sd.mk (Below.refl w.heap.size w);have H:(if(l0.length:Int)<1 then(some (([]:List (S57)),false)) else(if(l0.length:Int)>60 then(some (([]:List (S57)),false)) else((impl_takeOrd.f k l0).bind fun j=>(if j.2.2=true then(some (j.1,((j.2.1.length:Int) == 0))) else(some (j.1,false))))))=some (U,X):=h;clear h
 by_cases c2:(l0.length:Int)<1
 ·rw[if_pos c2] at H
  have ae:decide ((l0.length:Int)<1)=true:=decide_eq_true c2;have af:decide (l0.length<1)=true:=decide_eq_true (by omega);clear c2;simp only[Option.some.injEq,Prod.mk.injEq] at H;obtain⟨rfl,rfl⟩:=H;go_enter Tryd.func26,Tryd.ntmps26;go_wp2;go_ret2;exact⟨_,by first|rfl|(simp[errW_none,errW_some]<;>rfl)|(simp[*,errW_none,errW_some]<;>rfl),by first|exact Kd.R_nil _ _ _ _ _|exact Kd.N_nil _ _ _ _ _|exact Kd.V_nil _ _ _ _ _|exact Kd.Q_nil _ _ _ _ _|exact Kd.S_nil _ _ _ _ _,bz⟩
 ·rw[if_neg c2] at H
  have ae:decide ((l0.length:Int)<1)=false:=decide_eq_false c2;have af:decide (l0.length<1)=false:=decide_eq_false (by omega);clear c2
  by_cases c3:(l0.length:Int)>60
  ·rw[if_pos c3] at H
   have ag:decide (60<(l0.length:Int))=true:=decide_eq_true c3;have ah:decide (60<l0.length)=true:=decide_eq_true (by omega);clear c3;simp only[Option.some.injEq,Prod.mk.injEq] at H;obtain⟨rfl,rfl⟩:=H;go_enter Tryd.func26,Tryd.ntmps26;go_wp2;go_ret2;exact⟨_,by first|rfl|(simp[errW_none,errW_some]<;>rfl)|(simp[*,errW_none,errW_some]<;>rfl),by first|exact Kd.R_nil _ _ _ _ _|exact Kd.N_nil _ _ _ _ _|exact Kd.V_nil _ _ _ _ _|exact Kd.Q_nil _ _ _ _ _|exact Kd.S_nil _ _ _ _ _,bz⟩
  ·rw[if_neg c3] at H
   have ag:decide (60<(l0.length:Int))=false:=decide_eq_false c3;have ah:decide (60<l0.length)=false:=decide_eq_false (by omega);clear c3;replace H:=Option.bind_eq_some_iff.mp H;obtain⟨⟨m,D,I⟩,ad,H⟩:=H;replace H:(if I=true then(some (m,((D.length:Int) == 0))) else(some (m,false)))=some (U,X):=H;have A4:=Sd.mk ad;clear ad
   by_cases c5:I=true
   ·subst c5
    replace H:=ip rfl H;simp only[Option.some.injEq,Prod.mk.injEq] at H;obtain⟨rfl,rfl⟩:=H;go_enter Tryd.func26,Tryd.ntmps26;go_wp2_with (first|((with_reducible refine gate_callee (f:=39) rfl ?_);refine goesL_ (some 17) rfl rfl Tryd.func39 (by kernel_rfl) rfl #[.slice M l0.length O] rfl az ?_;(with_reducible refine(impl_takeOrd.calls k (fun k_=>k_<w.heap.size) _ _ l0 m D true _ ?side1 A4.out).mono ?_);(case side1=>exact Kd.V_mk ac.out (Kd.F_below (Kd.C_F (Kd.heap_int .i64) ab.out) bz));rintro e w6 ⟨E,ai,rfl,J,L,hb⟩;refine⟨_,rfl,?_⟩;have o:=Sd.mk (Kd.R_lower (Kd.R_mono (ok':=fun k_=>True) J (fun _ z=>trivial)) (below_size bz));have G:=Sd.mk (Kd.V_lower (Kd.V_mono (ok':=fun k_=>some k_≠(E:Value).ownBlock) L (fun k_ z=>z.2)) (below_size bz));replace HB:=Sd.mk (below_step bz hb);obtain⟨al,am,ak⟩:=Kd.V_slice G.out;subst ak));go_ret2;exact⟨_,by first|rfl|(simp[errW_none,errW_some]<;>rfl)|(simp[*,errW_none,errW_some]<;>rfl),by(with_reducible repeat (first|apply Kd.R_alloc|apply Kd.R_drewN|apply Kd.R_drew));exact o.out,bz⟩
   ·replace c5:=Bool.eq_false_iff.mpr c5
    subst c5;replace H:=ng ft H;simp only[Option.some.injEq,Prod.mk.injEq] at H;obtain⟨rfl,rfl⟩:=H;go_enter Tryd.func26,Tryd.ntmps26;go_wp2_with (first|((with_reducible refine gate_callee (f:=39) rfl ?_);refine goesL_ (some 17) rfl rfl Tryd.func39 (by kernel_rfl) rfl #[.slice M l0.length O] rfl az ?_;(with_reducible refine(impl_takeOrd.calls k (fun k_=>k_<w.heap.size) _ _ l0 m D false _ ?side1 A4.out).mono ?_);(case side1=>exact Kd.V_mk ac.out (Kd.F_below (Kd.C_F (Kd.heap_int .i64) ab.out) bz));rintro e w8 ⟨E,ai,rfl,J,L,hb⟩;refine⟨_,rfl,?_⟩;have o:=Sd.mk (Kd.R_lower (Kd.R_mono (ok':=fun k_=>True) J (fun _ z=>trivial)) (below_size bz));have G:=Sd.mk (Kd.V_lower (Kd.V_mono (ok':=fun k_=>some k_≠(E:Value).ownBlock) L (fun k_ z=>z.2)) (below_size bz));replace HB:=Sd.mk (below_step bz hb)));go_ret2;exact⟨_,by first|rfl|(simp[errW_none,errW_some]<;>rfl)|(simp[*,errW_none,errW_some]<;>rfl),by(with_reducible repeat (first|apply Kd.R_alloc|apply Kd.R_drewN|apply Kd.R_drew));exact o.out,bz⟩
end Go.Proofs.YtbdbldhpglponaaDoor.P