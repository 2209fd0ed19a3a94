/- One Go function comes to what its Lean function tells. -/
import Derived.Test.YtbdbldhpglponaaDoorP0
import Derived.Test.YtbdbldhpglponaaDoorPimplReadOrd
import Derived.Test.YtbdbldhpglponaaDoorPlawseqIntS
import Derived.Test.YtbdbldhpglponaaDoorPlawsheldIntS
import Derived.Test.YtbdbldhpglponaaDoorPlawsmarkIntS
import Derived.Test.YtbdbldhpglponaaDoorPspecReadOrd
import Derived.Test.YtbdbldhpglponaaDoorShelf
namespace Go.Proofs.YtbdbldhpglponaaDoor.P
open Go.RowKit YtbdbldhpglponaaDoorW.PrintWords YtbdbldhpglponaaDoorW.PrintLast YtbdbldhpglponaaDoorW.PrintMore
set_option linter.unusedVariables false
set_option linter.unusedSimpArgs false
/-! ### laws_FnExactReadOrd: function 3 -/
mutual
def laws_FnExactReadOrd.j0:Nat→ByteArray→List Int→Bool→List Int→Bool→Option (Bool)
 | 0,_,_,_,_,_=>none
 | k+1,x0,x3,x4,x5,x32=>if x32=true then(some false) else((laws_markIntS.f k x5 1).bind fun bt506=>((laws_heldIntS.f k bt506.2 1).bind fun t508=>(if t508<0 then(some false) else(if t508=bt506.1 then((impl_ReadOrd.f k x0).bind fun bt509=>((laws_eqIntS.f k bt509.1 x3).bind fun t513=>(if t513=true then(laws_FnExactReadOrd.j1 k bt506.2 bt506.1 (bt509.2 != x4)) else(laws_FnExactReadOrd.j1 k bt506.2 bt506.1 true)))) else(some false)))))
def laws_FnExactReadOrd.j1:Nat→List Int→Int→Bool→Option (Bool)
 | 0,_,_,_=>none
 | k+1,x5,x7,x57=>if x57=true then(some false) else((laws_heldIntS.f k x5 1).bind fun t514=>(if t514<0 then(some false) else(if t514=x7 then(some true) else(some false))))
end
def laws_FnExactReadOrd.f (k:Nat)(a0:ByteArray):Option (Bool):=if(a0.size:Int)>1048576 then(some true) else((spec_ReadOrd.f k a0).bind fun bt497=>((impl_ReadOrd.f k a0).bind fun bt501=>((laws_eqIntS.f k bt501.1 bt497.1).bind fun t505=>(if t505=true then(laws_FnExactReadOrd.j0 k a0 bt497.1 bt497.2 bt501.1 (bt501.2 != bt497.2)) else(laws_FnExactReadOrd.j0 k a0 bt497.1 bt497.2 bt501.1 true)))))
set_option maxHeartbeats 8000000 in
set_option maxRecDepth 100000 in
theorem laws_FnExactReadOrd.calls (k:Nat)(L:ByteArray)(r:Bool)(w:World)(h:laws_FnExactReadOrd.f k L=some r)(bm:TB w:=by first|exact HT0.out|exact TB.up HT0.out (by repeat (first|(with_reducible first|exact HB.out|apply below_alloc|apply pw_below_drewN|apply below_drew1)|exact HB.out|refine below_set ?_ (Sd.out (by assumption))))) :
  Calls Tryd.prog 3 #[.string L] w fun e w'=>e=.returned (.bool r)∧Below w.heap.size w w':=by
 have HT0:Sd (TB w):=⟨bm⟩;clear bm;have HB:=Sd.mk (Below.refl w.heap.size w);have H:(if(L.size:Int)>1048576 then(some true) else((spec_ReadOrd.f k L).bind fun ab=>((impl_ReadOrd.f k L).bind fun O=>((laws_eqIntS.f k O.1 ab.1).bind fun ad=>(if ad=true then(laws_FnExactReadOrd.j0 k L ab.1 ab.2 O.1 (O.2 != ab.2)) else(laws_FnExactReadOrd.j0 k L ab.1 ab.2 O.1 true))))))=some r:=h;clear h
 by_cases c2:(L.size:Int)>1048576
 ·rw[if_pos c2] at H
  have br:decide (1048576<(L.size:Int))=true:=decide_eq_true c2;have bu:decide (1048576<L.size)=true:=decide_eq_true (by omega);clear c2;obtain rfl:=Option.some.inj H;go_enter Tryd.func3,Tryd.ntmps3;go_wp2;go_ret;exact⟨by first|rfl|(simp[errW_none,errW_some]<;>rfl)|(simp[*,errW_none,errW_some]<;>rfl),bz⟩
 ·rw[if_neg c2] at H
  have br:decide (1048576<(L.size:Int))=false:=decide_eq_false c2;have bu:decide (1048576<L.size)=false:=decide_eq_false (by omega);clear c2;replace H:=Option.bind_eq_some_iff.mp H;obtain⟨⟨z,M⟩,bn,H⟩:=H;replace H:((impl_ReadOrd.f k L).bind fun O=>((laws_eqIntS.f k O.1 z).bind fun ad=>(if ad=true then(laws_FnExactReadOrd.j0 k L z M O.1 (O.2 != M)) else(laws_FnExactReadOrd.j0 k L z M O.1 true))))=some r:=H;have A3:=Sd.mk bn;clear bn;replace H:=Option.bind_eq_some_iff.mp H;obtain⟨⟨m,aw⟩,bo,H⟩:=H;replace H:((laws_eqIntS.f k m z).bind fun ad=>(if ad=true then(laws_FnExactReadOrd.j0 k L z M m (aw != M)) else(laws_FnExactReadOrd.j0 k L z M m true)))=some r:=H;have A4:=Sd.mk bo;clear bo;have a7:=Sd.mk H;clear H;go_enter Tryd.func3,Tryd.ntmps3
  go_upto_region 5 with (first|((with_reducible refine gate_callee (f:=7) rfl ?_);refine goesL_ (some 16) rfl rfl Tryd.func7 (by kernel_rfl) rfl #[.string L] rfl az ?_;(with_reducible refine(spec_ReadOrd.calls k L z M _ A3.out).mono ?_);rintro e w6 ⟨a8,rfl,ag,hb⟩;refine⟨_,rfl,?_⟩;have G:=Sd.mk (Kd.R_lower ag (below_size bz));replace HB:=Sd.mk (below_step bz hb))|((with_reducible refine gate_callee (f:=8) rfl ?_);refine goesL_ (some 21) rfl rfl Tryd.func8 (by kernel_rfl) rfl #[.string L] rfl az ?_;(with_reducible refine(impl_ReadOrd.calls k L m aw _ A4.out).mono ?_);rintro e w7 ⟨a9,rfl,ag,hb⟩;refine⟨_,rfl,?_⟩;have X:=Sd.mk (Kd.R_lower (Kd.R_new' ag (Kd.R_lt (Kd.Rz G.out))) (below_size bz));replace G:=Sd.mk (Kd.R_elder' (Kd.Rz G.out) (Kd.R_base ag) hb);replace HB:=Sd.mk (below_step bz hb)))
  (try simp only[Act.put,List.setIfInBounds_toArray,List.set_cons_zero,List.set_cons_succ])
  go_cut [32] (fun cp wc=>∃ (kq:Nat) (ah:Bool),cp=.bool ah∧Sd (laws_FnExactReadOrd.j0 kq L z M m ah=some r)∧Sd (kq≤k)∧Sd (Kd.R (Kd.int .i64) 3 wc w.heap.size (fun k_=>some k_≠(a9:Value).ownBlock) a8 z)∧Sd (Kd.R (Kd.int .i64) 3 wc w.heap.size (fun k_=>some k_≠(a8:Value).ownBlock) a9 m)∧Sd (Below w.heap.size w wc))
  case first =>
   have H:=a7.out;clear a7;obtain⟨ad,A8,H⟩:=bs H
   by_cases c9:ad=true
   ·subst c9
    replace H:=ip rfl H;have H':=Sd.mk H;clear H;obtain⟨bv,bw,bx⟩:=Kd.R_slice X.out;subst bx;obtain⟨b0,b1,b2⟩:=Kd.R_slice G.out;subst b2;go_wp2_with (first|((with_reducible refine gate_callee (f:=9) rfl ?_);refine goesL_ (some 26) rfl rfl Tryd.func9 (by kernel_rfl) rfl #[.slice bv m.length bw,.slice b0 z.length b1] rfl az ?_;(with_reducible refine(laws_eqIntS.calls k _ _ m _ _ z true _ ?side1 ?side2 ?side3 ?side4 A8.out).mono ?_);(case side1=>exact Kd.Cz (Kd.R_reads' X.out).2.2);(case side2=>exact(Kd.R_reads' X.out).2.1);(case side3=>exact Kd.Cz (Kd.R_reads' G.out).2.2);(case side4=>exact(Kd.R_reads' G.out).2.1);rintro e w' ⟨rfl,⟨nd,rfl⟩⟩;refine⟨_,rfl,?_⟩));go_meet
    case rel=>exact⟨_,((aw != M)),(by first|rfl|(simp;done)|(simp[*];done)),H',⟨by first|omega|exact Nat.le_refl _⟩,⟨Kd.Rz <| Kd.R_mono G.out (fun _ hk=>hk.2)⟩,⟨Kd.Rz <| Kd.R_mono X.out (fun _ hk=>hk.2)⟩,⟨bz⟩⟩
   ·replace c9:=Bool.eq_false_iff.mpr c9
    subst c9;replace H:=ng ft H;have H':=Sd.mk H;clear H;obtain⟨b3,b4,b5⟩:=Kd.R_slice X.out;subst b5;obtain⟨b6,b7,b8⟩:=Kd.R_slice G.out;subst b8;go_wp2_with (first|((with_reducible refine gate_callee (f:=9) rfl ?_);refine goesL_ (some 26) rfl rfl Tryd.func9 (by kernel_rfl) rfl #[.slice b3 m.length b4,.slice b6 z.length b7] rfl az ?_;(with_reducible refine(laws_eqIntS.calls k _ _ m _ _ z false _ ?side1 ?side2 ?side3 ?side4 A8.out).mono ?_);(case side1=>exact Kd.Cz (Kd.R_reads' X.out).2.2);(case side2=>exact(Kd.R_reads' X.out).2.1);(case side3=>exact Kd.Cz (Kd.R_reads' G.out).2.2);(case side4=>exact(Kd.R_reads' G.out).2.1);rintro e w' ⟨rfl,⟨nd,rfl⟩⟩;refine⟨_,rfl,?_⟩));go_meet
    case rel=>exact⟨_,(true),(by first|rfl|(simp;done)|(simp[*];done)),H',⟨by first|omega|exact Nat.le_refl _⟩,⟨Kd.Rz <| Kd.R_mono G.out (fun _ hk=>hk.2)⟩,⟨Kd.Rz <| Kd.R_mono X.out (fun _ hk=>hk.2)⟩,⟨bz⟩⟩
  case rest =>
   clear a7;obtain⟨kq,ah,rfl,HA,bp,E,j,HB⟩:=hcut
   cases kq with
   | zero=>exact absurd HA.out (by simp[laws_FnExactReadOrd.j0])
   | succ J =>
    have H:=HA.out;clear HA;simp only[laws_FnExactReadOrd.j0] at H
    by_cases a3:ah=true
    ·subst a3
     replace H:=ip rfl H;obtain rfl:=Option.some.inj H;go_wp2;go_ret;exact⟨by first|rfl|(simp[errW_none,errW_some]<;>rfl)|(simp[*,errW_none,errW_some]<;>rfl),bz⟩
    ·replace a3:=Bool.eq_false_iff.mpr a3
     subst a3;replace H:=ng ft H;replace H:=Option.bind_eq_some_iff.mp H;obtain⟨⟨D,o⟩,ba,H⟩:=H;replace H:((laws_heldIntS.f J o 1).bind fun I=>(if I<0 then(some false) else(if I=D then((impl_ReadOrd.f J L).bind fun a4=>((laws_eqIntS.f J a4.1 z).bind fun ai=>(if ai=true then(laws_FnExactReadOrd.j1 J o D (a4.2 != M)) else(laws_FnExactReadOrd.j1 J o D true)))) else(some false))))=some r:=H;have bb:=Sd.mk ba;clear ba;obtain⟨I,bc,H⟩:=bs H
     by_cases ap:I<0
     ·rw[if_pos ap] at H
      have bf:decide (I<0)=true:=decide_eq_true ap;clear ap;obtain rfl:=Option.some.inj H;obtain⟨aj,ak,b9⟩:=Kd.R_slice j.out;subst b9;go_wp2_with (first|((with_reducible refine gate_callee (f:=10) rfl ?_);refine goesL_ (some 35) rfl rfl Tryd.func10 (by kernel_rfl) rfl #[.slice aj m.length ak,.int .i64 1] rfl az ?_;(with_reducible refine(laws_markIntS.calls J (fun k_=>some k_=(.slice aj m.length ak:Value).ownBlock) (.slice aj m.length ak) m 1 D o w _ ?side1 ?side2 bb.out).mono ?_);(case side1=>repeat (first|(with_reducible first|exact HB.out|apply below_alloc|apply pw_below_drewN|apply below_drew1)|exact HB.out));(case side2=>exact Kd.R_tight rfl j.out);rintro e cx ⟨rfl,ar,hb,hkp⟩;refine⟨_,rfl,?_⟩;replace E:=Sd.mk (Kd.R_mono (ok':=fun k_=>some k_≠(.slice aj m.length ak:Value).ownBlock) (Kd.R_keptB (E.out) hkp (fun k_ aa au=>(aa) au)) (fun k_ aa=>aa.1));replace j:=Sd.mk (Kd.R_reok rfl ar (fun k_ e_=>j.out.1 k_ e_));replace HB:=Sd.mk (hb))|((with_reducible refine gate_callee (f:=11) rfl ?_);refine goesL_ (some 38) rfl rfl Tryd.func11 (by kernel_rfl) rfl #[.slice aj o.length ak,.int .i64 1] rfl (by(try simp only[List.map_toArray,List.map_cons,List.map_nil]);first|done|(rw[show o.length=m.length from(Kd.R_reads' j.out).1.symm]<;>rfl)|rfl|(simp only[List.length_drop,List.length_take];rfl)) ?_;(with_reducible refine(laws_heldIntS.calls J _ _ o 1 I _ ?side1 ?side2 bc.out).mono ?_);(case side1=>exact Kd.Cz (Kd.R_reads' j.out).2.2);(case side2=>rw[show o.length=m.length from(Kd.R_reads' j.out).1.symm];exact(Kd.R_reads' j.out).2.1);rintro e w' ⟨rfl,⟨nd,rfl⟩⟩;refine⟨_,rfl,?_⟩));go_ret;exact⟨by first|rfl|(simp[errW_none,errW_some]<;>rfl)|(simp[*,errW_none,errW_some]<;>rfl),bz⟩
     ·rw[if_neg ap] at H
      have bf:decide (I<0)=false:=decide_eq_false ap;clear ap
      by_cases al:I=D
      ·rw[if_pos al] at H
       have bg:(I == D)=true:=beq_iff_eq.mpr al;have bh:(I != D)=false:=bne_eq_false_iff_eq.mpr al;clear al;replace H:=Option.bind_eq_some_iff.mp H;obtain⟨⟨af,ay⟩,bd,H⟩:=H;replace H:((laws_eqIntS.f J af z).bind fun ai=>(if ai=true then(laws_FnExactReadOrd.j1 J o D (ay != M)) else(laws_FnExactReadOrd.j1 J o D true)))=some r:=H;have cr:=Sd.mk bd;clear bd;have a1:=Sd.mk H;clear H;obtain⟨Y,Z,ca⟩:=Kd.R_slice j.out;subst ca
       go_upto_region 16 with (first|((with_reducible refine gate_callee (f:=10) rfl ?_);refine goesL_ (some 35) rfl rfl Tryd.func10 (by kernel_rfl) rfl #[.slice Y m.length Z,.int .i64 1] rfl az ?_;(with_reducible refine(laws_markIntS.calls J (fun k_=>some k_=(.slice Y m.length Z:Value).ownBlock) (.slice Y m.length Z) m 1 D o w _ ?side1 ?side2 bb.out).mono ?_);(case side1=>repeat (first|(with_reducible first|exact HB.out|apply below_alloc|apply pw_below_drewN|apply below_drew1)|exact HB.out));(case side2=>exact Kd.R_tight rfl j.out);rintro e cy ⟨rfl,ar,hb,hkp⟩;refine⟨_,rfl,?_⟩;replace E:=Sd.mk (Kd.R_mono (ok':=fun k_=>some k_≠(.slice Y m.length Z:Value).ownBlock) (Kd.R_keptB (E.out) hkp (fun k_ aa au=>(aa) au)) (fun k_ aa=>aa.1));replace j:=Sd.mk (Kd.R_reok rfl ar (fun k_ e_=>j.out.1 k_ e_));replace HB:=Sd.mk (hb))|((with_reducible refine gate_callee (f:=11) rfl ?_);refine goesL_ (some 38) rfl rfl Tryd.func11 (by kernel_rfl) rfl #[.slice Y o.length Z,.int .i64 1] rfl (by(try simp only[List.map_toArray,List.map_cons,List.map_nil]);first|done|(rw[show o.length=m.length from(Kd.R_reads' j.out).1.symm]<;>rfl)|rfl|(simp only[List.length_drop,List.length_take];rfl)) ?_;(with_reducible refine(laws_heldIntS.calls J _ _ o 1 I _ ?side1 ?side2 bc.out).mono ?_);(case side1=>exact Kd.Cz (Kd.R_reads' j.out).2.2);(case side2=>rw[show o.length=m.length from(Kd.R_reads' j.out).1.symm];exact(Kd.R_reads' j.out).2.1);rintro e w' ⟨rfl,⟨nd,rfl⟩⟩;refine⟨_,rfl,?_⟩)|((with_reducible refine gate_callee (f:=8) rfl ?_);refine goesL_ (some 46) rfl rfl Tryd.func8 (by kernel_rfl) rfl #[.string L] rfl az ?_;(with_reducible refine(impl_ReadOrd.calls J L af ay _ cr.out).mono ?_);rintro e cz ⟨cv,rfl,ag,hb⟩;refine⟨_,rfl,?_⟩;have ac:=Sd.mk (Kd.R_lower (Kd.R_new' (Kd.R_new' ag (Kd.R_lt (Kd.Rz E.out))) (Kd.R_lt (Kd.Rz j.out))) (below_size bz));replace E:=Sd.mk (Kd.R_elder' (Kd.Rz E.out) (Kd.R_base ag) hb);replace j:=Sd.mk (Kd.R_elder' (Kd.Rz j.out) (Kd.R_base ag) hb);replace HB:=Sd.mk (below_step bz hb)))
       (try simp only[Act.put,List.setIfInBounds_toArray,List.set_cons_zero,List.set_cons_succ])
       go_cut [57] (fun cs wc=>∃ (kq:Nat) (ae:Bool),cs=.bool ae∧Sd (laws_FnExactReadOrd.j1 kq o D ae=some r)∧Sd (kq≤J)∧Sd (Kd.R (Kd.int .i64) 3 wc w.heap.size (fun _=>True) (.slice Y m.length Z) o)∧Sd (Below w.heap.size w wc))
       case first =>
        have H:=a1.out;clear a1;obtain⟨ai,bq,H⟩:=bs H
        by_cases a5:ai=true
        ·subst a5
         replace H:=ip rfl H;have H':=Sd.mk H;clear H;obtain⟨cb,cc,cd⟩:=Kd.R_slice ac.out;subst cd;obtain⟨ce,cf,ch⟩:=Kd.R_slice E.out;subst ch;go_wp2_with (first|((with_reducible refine gate_callee (f:=9) rfl ?_);refine goesL_ (some 51) rfl rfl Tryd.func9 (by kernel_rfl) rfl #[.slice cb af.length cc,.slice ce z.length cf] rfl az ?_;(with_reducible refine(laws_eqIntS.calls J _ _ af _ _ z true _ ?side1 ?side2 ?side3 ?side4 bq.out).mono ?_);(case side1=>exact Kd.Cz (Kd.R_reads' ac.out).2.2);(case side2=>exact(Kd.R_reads' ac.out).2.1);(case side3=>exact Kd.Cz (Kd.R_reads' E.out).2.2);(case side4=>exact(Kd.R_reads' E.out).2.1);rintro e w' ⟨rfl,⟨nd,rfl⟩⟩;refine⟨_,rfl,?_⟩));go_meet
         case rel=>exact⟨_,((ay != M)),(by first|rfl|(simp;done)|(simp[*];done)),H',⟨by have:=bp.out;first|omega|exact Nat.le_refl _⟩,⟨Kd.Rz <| Kd.R_mono j.out (fun _ hk=>trivial)⟩,⟨bz⟩⟩
        ·replace a5:=Bool.eq_false_iff.mpr a5
         subst a5;replace H:=ng ft H;have H':=Sd.mk H;clear H;obtain⟨ci,cj,ck⟩:=Kd.R_slice ac.out;subst ck;obtain⟨cl,cm,cn⟩:=Kd.R_slice E.out;subst cn;go_wp2_with (first|((with_reducible refine gate_callee (f:=9) rfl ?_);refine goesL_ (some 51) rfl rfl Tryd.func9 (by kernel_rfl) rfl #[.slice ci af.length cj,.slice cl z.length cm] rfl az ?_;(with_reducible refine(laws_eqIntS.calls J _ _ af _ _ z false _ ?side1 ?side2 ?side3 ?side4 bq.out).mono ?_);(case side1=>exact Kd.Cz (Kd.R_reads' ac.out).2.2);(case side2=>exact(Kd.R_reads' ac.out).2.1);(case side3=>exact Kd.Cz (Kd.R_reads' E.out).2.2);(case side4=>exact(Kd.R_reads' E.out).2.1);rintro e w' ⟨rfl,⟨nd,rfl⟩⟩;refine⟨_,rfl,?_⟩));go_meet
         case rel=>exact⟨_,(true),(by first|rfl|(simp;done)|(simp[*];done)),H',⟨by have:=bp.out;first|omega|exact Nat.le_refl _⟩,⟨Kd.Rz <| Kd.R_mono j.out (fun _ hk=>trivial)⟩,⟨bz⟩⟩
       case rest =>
        clear a1;obtain⟨kq,ae,rfl,HA,cw,j,HB⟩:=hcut;have av:=(Kd.R_reads' j.out).1;rw[av] at j
        (try simp only[av])
        cases kq with
        | zero=>exact absurd HA.out (by simp[laws_FnExactReadOrd.j1])
        | succ a2 =>
         have H:=HA.out;clear HA;simp only[laws_FnExactReadOrd.j1] at H
         by_cases a6:ae=true
         ·subst a6
          replace H:=ip rfl H;obtain rfl:=Option.some.inj H;go_wp2;go_ret;exact⟨by first|rfl|(simp[errW_none,errW_some]<;>rfl)|(simp[*,errW_none,errW_some]<;>rfl),bz⟩
         ·replace a6:=Bool.eq_false_iff.mpr a6
          subst a6;replace H:=ng ft H;obtain⟨U,be,H⟩:=bs H
          by_cases aq:U<0
          ·rw[if_pos aq] at H
           have bj:decide (U<0)=true:=decide_eq_true aq;clear aq;obtain rfl:=Option.some.inj H;go_wp2_with (first|((with_reducible refine gate_callee (f:=11) rfl ?_);refine goesL_ (some 60) rfl rfl Tryd.func11 (by kernel_rfl) rfl #[.slice Y o.length Z,.int .i64 1] rfl az ?_;(with_reducible refine(laws_heldIntS.calls a2 _ _ o 1 U _ ?side1 ?side2 be.out).mono ?_);(case side1=>exact Kd.Cz (Kd.R_reads' j.out).2.2);(case side2=>exact(Kd.R_reads' j.out).2.1);rintro e w' ⟨rfl,⟨nd,rfl⟩⟩;refine⟨_,rfl,?_⟩));go_ret;exact⟨by first|rfl|(simp[errW_none,errW_some]<;>rfl)|(simp[*,errW_none,errW_some]<;>rfl),bz⟩
          ·rw[if_neg aq] at H
           have bj:decide (U<0)=false:=decide_eq_false aq;clear aq
           by_cases am:U=D
           ·rw[if_pos am] at H
            have bk:(U == D)=true:=beq_iff_eq.mpr am;have bl:(U != D)=false:=bne_eq_false_iff_eq.mpr am;clear am;obtain rfl:=Option.some.inj H;go_wp2_with (first|((with_reducible refine gate_callee (f:=11) rfl ?_);refine goesL_ (some 60) rfl rfl Tryd.func11 (by kernel_rfl) rfl #[.slice Y o.length Z,.int .i64 1] rfl az ?_;(with_reducible refine(laws_heldIntS.calls a2 _ _ o 1 U _ ?side1 ?side2 be.out).mono ?_);(case side1=>exact Kd.Cz (Kd.R_reads' j.out).2.2);(case side2=>exact(Kd.R_reads' j.out).2.1);rintro e w' ⟨rfl,⟨nd,rfl⟩⟩;refine⟨_,rfl,?_⟩));go_ret;exact⟨by first|rfl|(simp[errW_none,errW_some]<;>rfl)|(simp[*,errW_none,errW_some]<;>rfl),bz⟩
           ·rw[if_neg am] at H
            have bk:(U == D)=false:=beq_eq_false_iff_ne.mpr am;have bl:(U != D)=true:=bne_iff_ne.mpr am;obtain rfl:=Option.some.inj H;go_wp2_with (first|((with_reducible refine gate_callee (f:=11) rfl ?_);refine goesL_ (some 60) rfl rfl Tryd.func11 (by kernel_rfl) rfl #[.slice Y o.length Z,.int .i64 1] rfl az ?_;(with_reducible refine(laws_heldIntS.calls a2 _ _ o 1 U _ ?side1 ?side2 be.out).mono ?_);(case side1=>exact Kd.Cz (Kd.R_reads' j.out).2.2);(case side2=>exact(Kd.R_reads' j.out).2.1);rintro e w' ⟨rfl,⟨nd,rfl⟩⟩;refine⟨_,rfl,?_⟩));go_ret;exact⟨by first|rfl|(simp[errW_none,errW_some]<;>rfl)|(simp[*,errW_none,errW_some]<;>rfl),bz⟩
      ·rw[if_neg al] at H
       have bg:(I == D)=false:=beq_eq_false_iff_ne.mpr al;have bh:(I != D)=true:=bne_iff_ne.mpr al;obtain rfl:=Option.some.inj H;obtain⟨an,ao,co⟩:=Kd.R_slice j.out;subst co;go_wp2_with (first|((with_reducible refine gate_callee (f:=10) rfl ?_);refine goesL_ (some 35) rfl rfl Tryd.func10 (by kernel_rfl) rfl #[.slice an m.length ao,.int .i64 1] rfl az ?_;(with_reducible refine(laws_markIntS.calls J (fun k_=>some k_=(.slice an m.length ao:Value).ownBlock) (.slice an m.length ao) m 1 D o w _ ?side1 ?side2 bb.out).mono ?_);(case side1=>repeat (first|(with_reducible first|exact HB.out|apply below_alloc|apply pw_below_drewN|apply below_drew1)|exact HB.out));(case side2=>exact Kd.R_tight rfl j.out);rintro e c0 ⟨rfl,ar,hb,hkp⟩;refine⟨_,rfl,?_⟩;replace E:=Sd.mk (Kd.R_mono (ok':=fun k_=>some k_≠(.slice an m.length ao:Value).ownBlock) (Kd.R_keptB (E.out) hkp (fun k_ aa au=>(aa) au)) (fun k_ aa=>aa.1));replace j:=Sd.mk (Kd.R_reok rfl ar (fun k_ e_=>j.out.1 k_ e_));replace HB:=Sd.mk (hb))|((with_reducible refine gate_callee (f:=11) rfl ?_);refine goesL_ (some 38) rfl rfl Tryd.func11 (by kernel_rfl) rfl #[.slice an o.length ao,.int .i64 1] rfl (by(try simp only[List.map_toArray,List.map_cons,List.map_nil]);first|done|(rw[show o.length=m.length from(Kd.R_reads' j.out).1.symm]<;>rfl)|rfl|(simp only[List.length_drop,List.length_take];rfl)) ?_;(with_reducible refine(laws_heldIntS.calls J _ _ o 1 I _ ?side1 ?side2 bc.out).mono ?_);(case side1=>exact Kd.Cz (Kd.R_reads' j.out).2.2);(case side2=>rw[show o.length=m.length from(Kd.R_reads' j.out).1.symm];exact(Kd.R_reads' j.out).2.1);rintro e w' ⟨rfl,⟨nd,rfl⟩⟩;refine⟨_,rfl,?_⟩));go_ret;exact⟨by first|rfl|(simp[errW_none,errW_some]<;>rfl)|(simp[*,errW_none,errW_some]<;>rfl),bz⟩
/-- THE ONE PURE STATEMENT of laws_FnExactReadOrd: yours. -/
def laws_FnExactReadOrd.Pure:Prop:=∀ (a0:ByteArray),a0.size≤140737488351232→∃ k,laws_FnExactReadOrd.f k a0=some true
theorem laws_FnExactReadOrd.walk (P:laws_FnExactReadOrd.Pure)(j:ByteArray)(w:World)(o:j.size≤140737488351232)(m:TB w) :
  Calls Tryd.prog 3 #[.string j] w fun e w'=>e=.returned (.bool true)∧Below w.heap.size w w':=by
 obtain⟨k,h⟩:=P j o;refine(laws_FnExactReadOrd.calls k j true w h m).mono ?_;rintro e w' ⟨rfl,hd⟩;exact⟨rfl,hd⟩
end Go.Proofs.YtbdbldhpglponaaDoor.P