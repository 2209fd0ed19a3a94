/- One Go function comes to what its Lean function tells. -/
import Derived.Test.YtbdbldhpglponaaDoorP0
import Derived.Test.YtbdbldhpglponaaDoorPimplOrdValid
import Derived.Test.YtbdbldhpglponaaDoorPimplreadSum
import Derived.Test.YtbdbldhpglponaaDoorPimplrowOf
import Derived.Test.YtbdbldhpglponaaDoorPimpltextOf
import Derived.Test.YtbdbldhpglponaaDoorShelf
namespace Go.Proofs.YtbdbldhpglponaaDoor.P
open Go.RowKit YtbdbldhpglponaaDoorW.PrintWords YtbdbldhpglponaaDoorW.PrintLast YtbdbldhpglponaaDoorW.PrintMore
set_option linter.unusedVariables false
set_option linter.unusedSimpArgs false
/-! ### impl_ReadOrd: function 8 -/
def impl_ReadOrd.j0:Nat→List (S57)→Bool→Option (List Int × Bool)
 | 0,_,_=>none
 | k+1,x4,x28=>if x28=true then(some (([]:List Int),false)) else((impl_rowOf.f k x4).bind fun t489=>((impl_OrdValid.f k t489).bind fun t492=>(if t492=true then(some (t489,true)) else(some (([]:List Int),false)))))
def impl_ReadOrd.f (k:Nat)(a0:ByteArray):Option (List Int × Bool):=if(a0.size:Int)>1000 then(some (([]:List Int),false)) else((impl_readSum.f k a0).bind fun bt483=>(if bt483.2.2=true then(if bt483.2.1.toList=([]:List UInt8) then((impl_textOf.f k bt483.1).bind fun t488=>(impl_ReadOrd.j0 k bt483.1 (t488.toList != a0.toList))) else(impl_ReadOrd.j0 k bt483.1 true)) else(impl_ReadOrd.j0 k bt483.1 true)))
set_option maxHeartbeats 8000000 in
set_option maxRecDepth 100000 in
theorem impl_ReadOrd.calls (k:Nat)(G:ByteArray)(r1:List Int)(r2:Bool)(w:World)(h:impl_ReadOrd.f k G=some (r1,r2))(ad:TB w:=by first|exact HT0.out|exact TB.up HT0.out (by repeat (first|(with_reducible first|exact HB.out|apply below_alloc|apply pw_below_drewN|apply below_drew1)|exact HB.out|refine below_set ?_ (Sd.out (by assumption))))) :
  Calls Tryd.prog 8 #[.string G] w fun e w'=>∃ ae:Value,e=.returned (.tuple #[ae,.bool r2])∧Kd.R (Kd.int .i64) 3 w' w.heap.size (fun _=>True) ae r1∧Below w.heap.size w w':=by
 have HT0:Sd (TB w):=⟨ad⟩;clear ad;have HB:=Sd.mk (Below.refl w.heap.size w);have H:(if(G.size:Int)>1000 then(some (([]:List Int),false)) else((impl_readSum.f k G).bind fun D=>(if D.2.2=true then(if D.2.1.toList=([]:List UInt8) then((impl_textOf.f k D.1).bind fun I=>(impl_ReadOrd.j0 k D.1 (I.toList != G.toList))) else(impl_ReadOrd.j0 k D.1 true)) else(impl_ReadOrd.j0 k D.1 true))))=some (r1,r2):=h;clear h
 by_cases c2:(G.size:Int)>1000
 ·rw[if_pos c2] at H
  have ai:decide (1000<(G.size:Int))=true:=decide_eq_true c2;have aj:decide (1000<G.size)=true:=decide_eq_true (by omega);clear c2;simp only[Option.some.injEq,Prod.mk.injEq] at H;obtain⟨rfl,rfl⟩:=H;go_enter Tryd.func8,Tryd.ntmps8;go_wp2;go_ret2;exact⟨_,by first|rfl|(simp[errW_none,errW_some]<;>rfl)|(simp[*,errW_none,errW_some]<;>rfl),by first|exact Kd.R_nil _ _ _ _ _|exact Kd.N_nil _ _ _ _ _|exact Kd.V_nil _ _ _ _ _|exact Kd.Q_nil _ _ _ _ _|exact Kd.S_nil _ _ _ _ _,bz⟩
 ·rw[if_neg c2] at H
  have ai:decide (1000<(G.size:Int))=false:=decide_eq_false c2;have aj:decide (1000<G.size)=false:=decide_eq_false (by omega);clear c2;replace H:=Option.bind_eq_some_iff.mp H;obtain⟨⟨o,E,U⟩,af,H⟩:=H;replace H:(if U=true then(if E.toList=([]:List UInt8) then((impl_textOf.f k o).bind fun I=>(impl_ReadOrd.j0 k o (I.toList != G.toList))) else(impl_ReadOrd.j0 k o true)) else(impl_ReadOrd.j0 k o true))=some (r1,r2):=H;have A3:=Sd.mk af;clear af;have ac:=Sd.mk H;clear H;go_enter Tryd.func8,Tryd.ntmps8
  go_upto_region 4 with (first|((with_reducible refine gate_callee (f:=21) rfl ?_);refine goesL_ (some 13) rfl rfl Tryd.func21 (by kernel_rfl) rfl #[.string G] rfl az ?_;(with_reducible refine(impl_readSum.calls k G o E U _ A3.out).mono ?_);rintro e w5 ⟨ak,rfl,M,hb⟩;refine⟨_,rfl,?_⟩;have z:=Sd.mk (Kd.N_lower (Kd.N_mono (ok':=fun k_=>True) M (fun k_ a9=>trivial)) (below_size bz));replace HB:=Sd.mk (below_step bz hb)))
  (try simp only[Act.put,List.setIfInBounds_toArray,List.set_cons_zero,List.set_cons_succ])
  go_cut [28] (fun a5 wc=>∃ (kq:Nat) (L:Bool),a5=.bool L∧Sd (impl_ReadOrd.j0 kq o L=some (r1,r2))∧Sd (kq≤k)∧Sd (Kd.N k57 57 wc w.heap.size (fun _=>True) ak o)∧Sd (Below w.heap.size w wc))
  case first =>
   have H:=ac.out;clear ac
   by_cases c6:U=true
   ·subst c6
    replace H:=ip rfl H
    by_cases c7:E.toList=([]:List UInt8)
    ·rw[if_pos c7] at H
     have O:(E.toList == ([]:List UInt8))=true:=beq_iff_eq.mpr c7;have al:(E.toList != ([]:List UInt8))=false:=bne_eq_false_iff_eq.mpr c7;clear c7
     (first|rw[O]|(simp only[i64_w,i32_w];rw[O])|skip)
     obtain⟨I,A8,H⟩:=bs H;have H':=Sd.mk H;clear H;obtain⟨ba,bb,a6⟩:=Kd.N_slice z.out;subst a6;go_wp2_with (first|(go_at_call 22;(with_reducible refine(impl_textOf.calls k _ _ o I _ ?side1 ?side2 A8.out).mono ?_);(case side1=>exact Kd.Cz (Kd.N_reads' z.out).2.2);(case side2=>exact(Kd.N_reads' z.out).2.1);rintro e bc ⟨rfl,hb⟩;replace z:=Sd.mk (Kd.N_below (Kd.Nz z.out) hb);replace HB:=Sd.mk (below_step bz hb)));go_meet
     case rel=>exact⟨_,((I.toList != G.toList)),(by first|rfl|(simp;done)|(simp[*];done)),H',⟨by first|omega|exact Nat.le_refl _⟩,⟨Kd.Nz z.out⟩,⟨bz⟩⟩
    ·rw[if_neg c7] at H
     have O:(E.toList == ([]:List UInt8))=false:=beq_eq_false_iff_ne.mpr c7;have al:(E.toList != ([]:List UInt8))=true:=bne_iff_ne.mpr c7
     (first|rw[O]|(simp only[i64_w,i32_w];rw[O])|skip)
     have H':=Sd.mk H;clear H;go_wp2;go_meet
     case rel=>exact⟨_,(true),(by first|rfl|(simp;done)|(simp[*];done)),H',⟨by first|omega|exact Nat.le_refl _⟩,⟨Kd.Nz z.out⟩,⟨bz⟩⟩
   ·replace c6:=Bool.eq_false_iff.mpr c6
    subst c6;replace H:=ng ft H;have H':=Sd.mk H;clear H;go_wp2;go_meet
    case rel=>exact⟨_,(true),(by first|rfl|(simp;done)|(simp[*];done)),H',⟨by first|omega|exact Nat.le_refl _⟩,⟨Kd.Nz z.out⟩,⟨bz⟩⟩
  case rest =>
   clear ac;obtain⟨kq,L,rfl,HA,bd,m,HB⟩:=hcut
   cases kq with
   | zero=>exact absurd HA.out (by simp[impl_ReadOrd.j0])
   | succ X =>
    have H:=HA.out;clear HA;simp only[impl_ReadOrd.j0] at H
    by_cases Y:L=true
    ·subst Y
     replace H:=ip rfl H;simp only[Option.some.injEq,Prod.mk.injEq] at H;obtain⟨rfl,rfl⟩:=H;go_wp2;go_ret2;exact⟨_,by first|rfl|(simp[errW_none,errW_some]<;>rfl)|(simp[*,errW_none,errW_some]<;>rfl),by first|exact Kd.R_nil _ _ _ _ _|exact Kd.N_nil _ _ _ _ _|exact Kd.V_nil _ _ _ _ _|exact Kd.Q_nil _ _ _ _ _|exact Kd.S_nil _ _ _ _ _,bz⟩
    ·replace Y:=Bool.eq_false_iff.mpr Y
     subst Y;replace H:=ng ft H;obtain⟨J,ag,H⟩:=bs H;obtain⟨an,ah,H⟩:=bs H
     by_cases Z:an=true
     ·subst Z
      replace H:=ip rfl H;simp only[Option.some.injEq,Prod.mk.injEq] at H;obtain⟨rfl,rfl⟩:=H;obtain⟨ao,ap,aq⟩:=Kd.N_slice m.out;subst aq;go_wp2_with (first|((with_reducible refine gate_callee (f:=23) rfl ?_);refine goesL_ (some 30) rfl rfl Tryd.func23 (by kernel_rfl) rfl #[.slice ao o.length ap] rfl az ?_;(with_reducible refine(impl_rowOf.calls X _ _ o J _ ?side1 ?side2 ag.out).mono ?_);(case side1=>exact Kd.Cz (Kd.N_reads' m.out).2.2);(case side2=>exact(Kd.N_reads' m.out).2.1);rintro e be ⟨ar,rfl,M,hb⟩;refine⟨_,rfl,?_⟩;replace m:=Sd.mk (Kd.N_elder' (Kd.Nz m.out) (Kd.R_base M) hb);have j:=Sd.mk (Kd.R_lower M (below_size bz));replace HB:=Sd.mk (below_step bz hb);obtain⟨au,av,aw⟩:=Kd.R_slice j.out;subst aw)|((with_reducible refine gate_callee (f:=15) rfl ?_);refine goesL_ (some 32) rfl rfl Tryd.func15 (by kernel_rfl) rfl #[.slice au J.length av] rfl az ?_;(with_reducible refine(impl_OrdValid.calls X _ _ J true _ ?side1 ?side2 ah.out).mono ?_);(case side1=>exact Kd.Cz (Kd.R_reads' j.out).2.2);(case side2=>exact(Kd.R_reads' j.out).2.1);rintro e bf ⟨rfl,hb⟩;refine⟨_,rfl,?_⟩;replace m:=Sd.mk (Kd.N_below (Kd.Nz m.out) hb);replace j:=Sd.mk (Kd.R_below (Kd.Rz j.out) hb);replace HB:=Sd.mk (below_step bz hb)));go_ret2;exact⟨_,by first|rfl|(simp[errW_none,errW_some]<;>rfl)|(simp[*,errW_none,errW_some]<;>rfl),by(with_reducible repeat (first|apply Kd.R_alloc|apply Kd.R_drewN|apply Kd.R_drew));exact j.out,bz⟩
     ·replace Z:=Bool.eq_false_iff.mpr Z
      subst Z;replace H:=ng ft H;simp only[Option.some.injEq,Prod.mk.injEq] at H;obtain⟨rfl,rfl⟩:=H;obtain⟨ax,ay,a1⟩:=Kd.N_slice m.out;subst a1;go_wp2_with (first|((with_reducible refine gate_callee (f:=23) rfl ?_);refine goesL_ (some 30) rfl rfl Tryd.func23 (by kernel_rfl) rfl #[.slice ax o.length ay] rfl az ?_;(with_reducible refine(impl_rowOf.calls X _ _ o J _ ?side1 ?side2 ag.out).mono ?_);(case side1=>exact Kd.Cz (Kd.N_reads' m.out).2.2);(case side2=>exact(Kd.N_reads' m.out).2.1);rintro e bg ⟨ar,rfl,M,hb⟩;refine⟨_,rfl,?_⟩;replace m:=Sd.mk (Kd.N_elder' (Kd.Nz m.out) (Kd.R_base M) hb);have j:=Sd.mk (Kd.R_lower M (below_size bz));replace HB:=Sd.mk (below_step bz hb);obtain⟨a2,a3,a4⟩:=Kd.R_slice j.out;subst a4)|((with_reducible refine gate_callee (f:=15) rfl ?_);refine goesL_ (some 32) rfl rfl Tryd.func15 (by kernel_rfl) rfl #[.slice a2 J.length a3] rfl az ?_;(with_reducible refine(impl_OrdValid.calls X _ _ J false _ ?side1 ?side2 ah.out).mono ?_);(case side1=>exact Kd.Cz (Kd.R_reads' j.out).2.2);(case side2=>exact(Kd.R_reads' j.out).2.1);rintro e bh ⟨rfl,hb⟩;refine⟨_,rfl,?_⟩;replace m:=Sd.mk (Kd.N_below (Kd.Nz m.out) hb);replace j:=Sd.mk (Kd.R_below (Kd.Rz j.out) hb);replace HB:=Sd.mk (below_step bz hb)));go_ret2;exact⟨_,by first|rfl|(simp[errW_none,errW_some]<;>rfl)|(simp[*,errW_none,errW_some]<;>rfl),by first|exact Kd.R_nil _ _ _ _ _|exact Kd.N_nil _ _ _ _ _|exact Kd.V_nil _ _ _ _ _|exact Kd.Q_nil _ _ _ _ _|exact Kd.S_nil _ _ _ _ _,bz⟩
end Go.Proofs.YtbdbldhpglponaaDoor.P