/- One Go function comes to what its Lean function tells. -/
import Derived.Test.YtfblcanijhnhmaaP0
import Derived.Test.YtfblcanijhnhmaaPimplOrdAdd
import Derived.Test.YtfblcanijhnhmaaPimplOrdCompare
import Derived.Test.YtfblcanijhnhmaaPimplOrdNatural
import Derived.Test.YtfblcanijhnhmaaPlawsalive
import Derived.Test.YtfblcanijhnhmaaPlawssameInts
import Derived.Test.YtfblcanijhnhmaaPspecDrawOrdNatural
import Derived.Test.YtfblcanijhnhmaaPspecOrdNatural
namespace Go.Proofs.Ytfblcanijhnhmaa.P
open Go.RowKit YtfblcanijhnhmaaW.PrintWords YtfblcanijhnhmaaW.PrintLast YtfblcanijhnhmaaW.PrintMore
set_option linter.unusedVariables false
set_option linter.unusedSimpArgs false
/-! ### laws_FnOrdNatural: function 13 -/
mutual
def laws_FnOrdNatural.j0:Nat→List Int→List Int→Bool→Option (Bool)
 | 0,_,_,_=>none
 | k+1,x0,x1,x32=>if x32=true then(some true) else((spec_DrawOrdNatural.f k x0).bind fun bt1619=>((impl_OrdNatural.f k bt1619.1 bt1619.2).bind fun bt1625=>((spec_OrdNatural.f k bt1619.1 bt1619.2).bind fun bt1629=>((laws_sameInts.f k bt1625.1 bt1629.1).bind fun t1633=>(if t1633=true then(laws_FnOrdNatural.j1 k x1 bt1619.1 bt1619.2 bt1625.1 bt1625.2 (bt1625.2 != bt1629.2)) else(laws_FnOrdNatural.j1 k x1 bt1619.1 bt1619.2 bt1625.1 bt1625.2 true))))))
def laws_FnOrdNatural.j1:Nat→List Int→List Int→List Int→List Int→Bool→Bool→Option (Bool)
 | 0,_,_,_,_,_,_=>none
 | k+1,x1,x5,x6,x7,x8,x58=>if x58=true then(some false) else(if x8=true then((impl_OrdNatural.f k x6 x5).bind fun bt1635=>((impl_OrdAdd.f k x5 x6).bind fun bt1639=>((spec_DrawOrdNatural.f k x1).bind fun bt1643=>((impl_OrdNatural.f k x7 bt1643.1).bind fun bt1649=>((impl_OrdNatural.f k x6 bt1643.1).bind fun bt1653=>((impl_OrdNatural.f k x5 bt1653.1).bind fun bt1657=>(if bt1649.2=true then(if bt1653.2=true then(if bt1657.2=true then((laws_sameInts.f k bt1649.1 bt1657.1).bind fun t1661=>(laws_FnOrdNatural.j2 k x5 x6 x7 bt1635.1 bt1639.1 bt1639.2 bt1643.1 (!t1661))) else(laws_FnOrdNatural.j2 k x5 x6 x7 bt1635.1 bt1639.1 bt1639.2 bt1643.1 false)) else(laws_FnOrdNatural.j2 k x5 x6 x7 bt1635.1 bt1639.1 bt1639.2 bt1643.1 false)) else(laws_FnOrdNatural.j2 k x5 x6 x7 bt1635.1 bt1639.1 bt1639.2 bt1643.1 false)))))))) else(if(x7.length:Int)=0 then((laws_alive.f k).bind fun t1634=>(some t1634)) else(some false)))
def laws_FnOrdNatural.j2:Nat→List Int→List Int→List Int→List Int→List Int→Bool→List Int→Bool→Option (Bool)
 | 0,_,_,_,_,_,_,_,_=>none
 | k+1,x5,x6,x7,x11,x13,x14,x15,x114=>if x114=true then(some false) else((impl_OrdNatural.f k x5 x15).bind fun bt1662=>((laws_sameInts.f k x11 x7).bind fun t1666=>(if t1666=true then(if x14=true then((impl_OrdCompare.f k x13 x7).bind fun t1667=>(if t1667≤0 then(if bt1662.2=true then((impl_OrdCompare.f k bt1662.1 x7).bind fun t1668=>((impl_OrdCompare.f k x15 x6).bind fun t1669=>(some (t1668 == t1669)))) else(some true)) else(some false))) else(if bt1662.2=true then((impl_OrdCompare.f k bt1662.1 x7).bind fun t1670=>((impl_OrdCompare.f k x15 x6).bind fun t1671=>(some (t1670 == t1671)))) else(some true))) else(some false))))
end
def laws_FnOrdNatural.f (k:Nat)(l0:List Int)(l1:List Int):Option (Bool):=if(l0.length:Int)>1048576 then(laws_FnOrdNatural.j0 k l0 l1 true) else(laws_FnOrdNatural.j0 k l0 l1 (decide ((l1.length:Int)>1048576)))
theorem laws_FnOrdNatural.mono_l:∀ k,(∀ y0 y1 y2,LeO (laws_FnOrdNatural.j0 k y0 y1 y2) (laws_FnOrdNatural.j0 (k+1) y0 y1 y2))∧(∀ y0 y1 y2 y3 y4 y5,LeO (laws_FnOrdNatural.j1 k y0 y1 y2 y3 y4 y5) (laws_FnOrdNatural.j1 (k+1) y0 y1 y2 y3 y4 y5))∧(∀ y0 y1 y2 y3 y4 y5 y6 y7,LeO (laws_FnOrdNatural.j2 k y0 y1 y2 y3 y4 y5 y6 y7) (laws_FnOrdNatural.j2 (k+1) y0 y1 y2 y3 y4 y5 y6 y7))
 | 0=>⟨fun _ _ _ r h=>by simp[laws_FnOrdNatural.j0] at h,fun _ _ _ _ _ _ r h=>by simp[laws_FnOrdNatural.j1] at h,fun _ _ _ _ _ _ _ _ r h=>by simp[laws_FnOrdNatural.j2] at h⟩
 | k+1=>by
  obtain⟨ih0,ih1,ih2⟩:=laws_FnOrdNatural.mono_l k
  refine⟨?_,?_,?_⟩
  ·intro y0 y1 y2
   unfold laws_FnOrdNatural.j0
   repeat' first|(with_reducible first|exact ih0 _ _ _|exact ih1 _ _ _ _ _ _|exact impl_OrdNatural.mono _ _ _|exact laws_sameInts.mono _ _ _|exact spec_DrawOrdNatural.mono _ _|exact spec_OrdNatural.mono _ _ _|exact LeO.refl _|exact LeO.none _|refine LeO.ite ?_ ?_|refine LeO.bind ?_ (fun _=>?_))|exact ih0 _ _ _|exact ih1 _ _ _ _ _ _|exact impl_OrdNatural.mono _ _ _|exact laws_sameInts.mono _ _ _|exact spec_DrawOrdNatural.mono _ _|exact spec_OrdNatural.mono _ _ _|exact LeO.none _|refine LeO.ite ?_ ?_|refine LeO.bind ?_ (fun _=>?_)
  ·intro y0 y1 y2 y3 y4 y5
   unfold laws_FnOrdNatural.j1
   repeat' first|(with_reducible first|exact ih1 _ _ _ _ _ _|exact ih2 _ _ _ _ _ _ _ _|exact impl_OrdAdd.mono _ _ _|exact impl_OrdNatural.mono _ _ _|exact laws_alive.mono _|exact laws_sameInts.mono _ _ _|exact spec_DrawOrdNatural.mono _ _|exact LeO.refl _|exact LeO.none _|refine LeO.ite ?_ ?_|refine LeO.bind ?_ (fun _=>?_))|exact ih1 _ _ _ _ _ _|exact ih2 _ _ _ _ _ _ _ _|exact impl_OrdAdd.mono _ _ _|exact impl_OrdNatural.mono _ _ _|exact laws_alive.mono _|exact laws_sameInts.mono _ _ _|exact spec_DrawOrdNatural.mono _ _|exact LeO.none _|refine LeO.ite ?_ ?_|refine LeO.bind ?_ (fun _=>?_)
  ·intro y0 y1 y2 y3 y4 y5 y6 y7
   unfold laws_FnOrdNatural.j2
   repeat' first|(with_reducible first|exact ih2 _ _ _ _ _ _ _ _|exact impl_OrdCompare.mono _ _ _|exact impl_OrdNatural.mono _ _ _|exact laws_sameInts.mono _ _ _|exact LeO.refl _|exact LeO.none _|refine LeO.ite ?_ ?_|refine LeO.bind ?_ (fun _=>?_))|exact ih2 _ _ _ _ _ _ _ _|exact impl_OrdCompare.mono _ _ _|exact impl_OrdNatural.mono _ _ _|exact laws_sameInts.mono _ _ _|exact LeO.none _|refine LeO.ite ?_ ?_|refine LeO.bind ?_ (fun _=>?_)
theorem laws_FnOrdNatural.mono:∀ a0 a1 k,LeO (laws_FnOrdNatural.f k a0 a1) (laws_FnOrdNatural.f (k+1) a0 a1):=by
 intro a0 a1 k
 obtain⟨ih0,ih1,ih2⟩:=laws_FnOrdNatural.mono_l k
 unfold laws_FnOrdNatural.f
 repeat' first|(with_reducible first|exact ih0 _ _ _|exact ih1 _ _ _ _ _ _|exact ih2 _ _ _ _ _ _ _ _|exact LeO.refl _|exact LeO.none _|refine LeO.ite ?_ ?_|refine LeO.bind ?_ (fun _=>?_))|exact ih0 _ _ _|exact ih1 _ _ _ _ _ _|exact ih2 _ _ _ _ _ _ _ _|exact LeO.none _|refine LeO.ite ?_ ?_|refine LeO.bind ?_ (fun _=>?_)
set_option maxHeartbeats 8000000 in
set_option maxRecDepth 100000 in
theorem laws_FnOrdNatural.calls (k:Nat)(A0:Option Addr)(c0:Nat)(l0:List Int)(A1:Option Addr)(c1:Nat)(l1:List Int)(r:Bool)(w:World)(hr0:Kd.C (Kd.int .u8) w A0 l0.length l0)(hc0:l0.length≤c0)(hr1:Kd.C (Kd.int .u8) w A1 l1.length l1)(hc1:l1.length≤c1)(h:laws_FnOrdNatural.f k l0 l1=some r) :
  Calls Try.prog 13 #[.slice A0 l0.length c0,.slice A1 l1.length c1] w fun e w'=>e=.returned (.bool r)∧Below w.heap.size w w':=by
 have HR0:=Aside0.mk hr0
 have HC0:=Aside0.mk hc0
 clear hr0 hc0
 have HR1:=Aside0.mk hr1
 have HC1:=Aside0.mk hc1
 clear hr1 hc1
 have HB:=Aside0.mk (Below.refl w.heap.size w)
 have H:(if(l0.length:Int)>1048576 then(laws_FnOrdNatural.j0 k l0 l1 true) else(laws_FnOrdNatural.j0 k l0 l1 (decide ((l1.length:Int)>1048576))))=some r:=h
 clear h
 have HC3:=Aside0.mk H
 clear H
 go_enter Try.func13,Try.ntmps13
 go_upto_region 1 with (fail)
 go_cut [32] (fun v32 wc=>∃ (kq:Nat) (x32_2:Bool),v32=.bool x32_2∧Aside0 (laws_FnOrdNatural.j0 kq l0 l1 x32_2=some r)∧Aside0 (kq≤k)∧Aside0 (Below w.heap.size w wc))
 case first =>
  have H:=HC3.out
  clear HC3
  by_cases c4:(l0.length:Int)>1048576
  ·rw[if_pos c4] at H
   have c4b0:decide (1048576<(l0.length:Int))=true:=decide_eq_true c4
   have c4b1:decide (1048576<l0.length)=true:=decide_eq_true (by omega)
   clear c4
   (first|rw[c4b0]|(simp only[i64_w,i32_w];rw[c4b0])|skip)
   have H':=Aside0.mk H
   clear H
   go_wp2
   go_meet
   case rel=>exact⟨_,(true),(by first|rfl|(simp;done)|(simp[*];done)),H',⟨by first|omega|exact Nat.le_refl _⟩,⟨bz⟩⟩
  ·rw[if_neg c4] at H
   have c4b0:decide (1048576<(l0.length:Int))=false:=decide_eq_false c4
   have c4b1:decide (1048576<l0.length)=false:=decide_eq_false (by omega)
   clear c4
   (first|rw[c4b0]|(simp only[i64_w,i32_w];rw[c4b0])|skip)
   have H':=Aside0.mk H
   clear H
   go_wp2
   go_meet
   case rel=>exact⟨_,(decide ((l1.length:Int)>1048576)),(by first|rfl|(simp;done)|(simp[*];done)),H',⟨by first|omega|exact Nat.le_refl _⟩,⟨bz⟩⟩
 case rest =>
  clear HC3
  try clear c1
  try clear p2
  try clear c4
  try clear c4b0
  try clear c4b1
  obtain⟨kq,x32_2,rfl,HA,HJ2,HB⟩:=hcut
  cases kq with
  | zero=>exact absurd HA.out (by simp[laws_FnOrdNatural.j0])
  | succ kj2 =>
   have H:=HA.out
   clear HA
   simp only[laws_FnOrdNatural.j0] at H
   by_cases c5:x32_2=true
   ·subst c5
    have H1:(some true)=some r:=by rw[if_pos rfl] at H;exact H
    clear H
    have H:=H1
    clear H1
    obtain rfl:=Option.some.inj H
    go_wp2
    go_ret
    exact⟨by first|rfl|(simp[errW_none,errW_some]<;>rfl)|(simp[*,errW_none,errW_some]<;>rfl),bz⟩
   ·replace c5:=Bool.eq_false_iff.mpr c5
    subst c5
    have H1:((spec_DrawOrdNatural.f kj2 l0).bind fun bt1619=>((impl_OrdNatural.f kj2 bt1619.1 bt1619.2).bind fun bt1625=>((spec_OrdNatural.f kj2 bt1619.1 bt1619.2).bind fun bt1629=>((laws_sameInts.f kj2 bt1625.1 bt1629.1).bind fun t1633=>(if t1633=true then(laws_FnOrdNatural.j1 kj2 l1 bt1619.1 bt1619.2 bt1625.1 bt1625.2 (bt1625.2 != bt1629.2)) else(laws_FnOrdNatural.j1 kj2 l1 bt1619.1 bt1619.2 bt1625.1 bt1625.2 true))))))=some r:=by rw[if_neg (show ¬ (false=true) by decide)] at H;exact H
    clear H
    have H:=H1
    clear H1
    replace H:=Option.bind_eq_some_iff.mp H
    obtain⟨⟨t1619,t1620⟩,A60,H⟩:=H
    replace H:((impl_OrdNatural.f kj2 t1619 t1620).bind fun bt1625=>((spec_OrdNatural.f kj2 t1619 t1620).bind fun bt1629=>((laws_sameInts.f kj2 bt1625.1 bt1629.1).bind fun t1633=>(if t1633=true then(laws_FnOrdNatural.j1 kj2 l1 t1619 t1620 bt1625.1 bt1625.2 (bt1625.2 != bt1629.2)) else(laws_FnOrdNatural.j1 kj2 l1 t1619 t1620 bt1625.1 bt1625.2 true)))))=some r:=H
    have A6:=Aside0.mk A60
    clear A60
    replace H:=Option.bind_eq_some_iff.mp H
    obtain⟨⟨t1625,t1626⟩,A70,H⟩:=H
    replace H:((spec_OrdNatural.f kj2 t1619 t1620).bind fun bt1629=>((laws_sameInts.f kj2 t1625 bt1629.1).bind fun t1633=>(if t1633=true then(laws_FnOrdNatural.j1 kj2 l1 t1619 t1620 t1625 t1626 (t1626 != bt1629.2)) else(laws_FnOrdNatural.j1 kj2 l1 t1619 t1620 t1625 t1626 true))))=some r:=H
    have A7:=Aside0.mk A70
    clear A70
    replace H:=Option.bind_eq_some_iff.mp H
    obtain⟨⟨t1629,t1630⟩,A80,H⟩:=H
    replace H:((laws_sameInts.f kj2 t1625 t1629).bind fun t1633=>(if t1633=true then(laws_FnOrdNatural.j1 kj2 l1 t1619 t1620 t1625 t1626 (t1626 != t1630)) else(laws_FnOrdNatural.j1 kj2 l1 t1619 t1620 t1625 t1626 true)))=some r:=H
    have A8:=Aside0.mk A80
    clear A80
    have HC9:=Aside0.mk H
    clear H
    go_upto_region 6 with (first|((with_reducible refine gate_callee (f:=41) rfl ?_);refine goesL_ (some 35) rfl rfl Try.func41 (by kernel_rfl) rfl #[.slice A0 l0.length c0] rfl az ?_;(with_reducible refine(spec_DrawOrdNatural.calls kj2 _ _ l0 t1619 t1620 _ ?side1 ?side2 A6.out).mono ?_);(case side1=>exact Kd.Cz (Kd.C_below HR0.out HB.out));(case side2=>exact HC0.out);rintro e w10 ⟨v1621,v1623,rfl,ho0,ho1,hb⟩;refine⟨_,rfl,?_⟩;have HO1622:=Aside0.mk (Kd.R_lower ho0 (below_size bz));have HO1624:=Aside0.mk (Kd.R_lower ho1 (below_size bz));replace HB:=Aside0.mk (below_step bz hb);(try clear hb);(try clear hb2);(try clear hk);(try clear hi);(try clear ho0);(try clear ho1);obtain⟨Ao11,co11,eo11⟩:=Kd.R_slice HO1622.out;subst eo11;obtain⟨Ao12,co12,eo12⟩:=Kd.R_slice HO1624.out;subst eo12)|((with_reducible refine gate_callee (f:=24) rfl ?_);refine goesL_ (some 41) rfl rfl Try.func24 (by kernel_rfl) rfl #[.slice Ao11 t1619.length co11,.slice Ao12 t1620.length co12] rfl az ?_;(with_reducible refine(impl_OrdNatural.calls kj2 _ _ t1619 _ _ t1620 t1625 t1626 _ ?side1 ?side2 ?side3 ?side4 A7.out).mono ?_);(case side1=>exact Kd.Cz (Kd.R_reads' HO1622.out).2.2);(case side2=>exact(Kd.R_reads' HO1622.out).2.1);(case side3=>exact Kd.Cz (Kd.R_reads' HO1624.out).2.2);(case side4=>exact(Kd.R_reads' HO1624.out).2.1);rintro e w13 ⟨v1627,rfl,ho0,hb⟩;refine⟨_,rfl,?_⟩;have HO1628:=Aside0.mk (Kd.R_lower (Kd.R_new' (Kd.R_new' ho0 (Kd.R_lt (Kd.Rz HO1622.out))) (Kd.R_lt (Kd.Rz HO1624.out))) (below_size bz));replace HO1622:=Aside0.mk (Kd.R_elder' (Kd.Rz HO1622.out) (Kd.R_base ho0) hb);replace HO1624:=Aside0.mk (Kd.R_elder' (Kd.Rz HO1624.out) (Kd.R_base ho0) hb);replace HB:=Aside0.mk (below_step bz hb);(try clear hb);(try clear hb2);(try clear hk);(try clear hi);(try clear ho0))|((with_reducible refine gate_callee (f:=23) rfl ?_);refine goesL_ (some 47) rfl rfl Try.func23 (by kernel_rfl) rfl #[.slice Ao11 t1619.length co11,.slice Ao12 t1620.length co12] rfl az ?_;(with_reducible refine(spec_OrdNatural.calls kj2 _ _ t1619 _ _ t1620 t1629 t1630 _ ?side1 ?side2 ?side3 ?side4 A8.out).mono ?_);(case side1=>exact Kd.Cz (Kd.R_reads' HO1622.out).2.2);(case side2=>exact(Kd.R_reads' HO1622.out).2.1);(case side3=>exact Kd.Cz (Kd.R_reads' HO1624.out).2.2);(case side4=>exact(Kd.R_reads' HO1624.out).2.1);rintro e w14 ⟨v1631,rfl,ho0,hb⟩;refine⟨_,rfl,?_⟩;have HO1632:=Aside0.mk (Kd.R_lower (Kd.R_new' (Kd.R_new' (Kd.R_new' ho0 (Kd.R_lt (Kd.Rz HO1622.out))) (Kd.R_lt (Kd.Rz HO1624.out))) (Kd.R_lt (Kd.Rz HO1628.out))) (below_size bz));replace HO1622:=Aside0.mk (Kd.R_elder' (Kd.Rz HO1622.out) (Kd.R_base ho0) hb);replace HO1624:=Aside0.mk (Kd.R_elder' (Kd.Rz HO1624.out) (Kd.R_base ho0) hb);replace HO1628:=Aside0.mk (Kd.R_elder' (Kd.Rz HO1628.out) (Kd.R_base ho0) hb);replace HB:=Aside0.mk (below_step bz hb);(try clear hb);(try clear hb2);(try clear hk);(try clear hi);(try clear ho0)))
    (try simp only[Act.put,List.setIfInBounds_toArray,List.set_cons_zero,List.set_cons_succ])
    go_cut [58] (fun v58 wc=>∃ (kq:Nat) (x58_8:Bool),v58=.bool x58_8∧Aside0 (laws_FnOrdNatural.j1 kq l1 t1619 t1620 t1625 t1626 x58_8=some r)∧Aside0 (kq≤kj2)∧Aside0 (Kd.R (Kd.int .i64) 3 wc w.heap.size (fun k_=>some k_≠((.slice Ao12 t1620.length co12):Value).ownBlock∧some k_≠(v1627:Value).ownBlock) (.slice Ao11 t1619.length co11) t1619)∧Aside0 (Kd.R (Kd.int .i64) 3 wc w.heap.size (fun k_=>some k_≠((.slice Ao11 t1619.length co11):Value).ownBlock∧some k_≠(v1627:Value).ownBlock) (.slice Ao12 t1620.length co12) t1620)∧Aside0 (Kd.R (Kd.int .i64) 3 wc w.heap.size (fun k_=>some k_≠((.slice Ao11 t1619.length co11):Value).ownBlock∧some k_≠((.slice Ao12 t1620.length co12):Value).ownBlock) v1627 t1625)∧Aside0 (Below w.heap.size w wc))
    case first =>
     have H:=HC9.out
     clear HC9
     replace H:=Option.bind_eq_some_iff.mp H
     obtain⟨t1633,A150,H⟩:=H
     replace H:(if t1633=true then(laws_FnOrdNatural.j1 kj2 l1 t1619 t1620 t1625 t1626 (t1626 != t1630)) else(laws_FnOrdNatural.j1 kj2 l1 t1619 t1620 t1625 t1626 true))=some r:=H
     have A15:=Aside0.mk A150
     clear A150
     by_cases c16:t1633=true
     ·subst c16
      have H1:(laws_FnOrdNatural.j1 kj2 l1 t1619 t1620 t1625 t1626 (t1626 != t1630))=some r:=by rw[if_pos rfl] at H;exact H
      clear H
      have H:=H1
      clear H1
      have H':=Aside0.mk H
      clear H
      obtain⟨Ao17,co17,eo17⟩:=Kd.R_slice HO1628.out
      subst eo17
      obtain⟨Ao18,co18,eo18⟩:=Kd.R_slice HO1632.out
      subst eo18
      go_wp2_with (first|((with_reducible refine gate_callee (f:=32) rfl ?_);refine goesL_ (some 52) rfl rfl Try.func32 (by kernel_rfl) rfl #[.slice Ao17 t1625.length co17,.slice Ao18 t1629.length co18] rfl az ?_;(with_reducible refine(laws_sameInts.calls kj2 _ _ t1625 _ _ t1629 true _ ?side1 ?side2 ?side3 ?side4 A15.out).mono ?_);(case side1=>exact Kd.Cz (Kd.R_reads' HO1628.out).2.2);(case side2=>exact(Kd.R_reads' HO1628.out).2.1);(case side3=>exact Kd.Cz (Kd.R_reads' HO1632.out).2.2);(case side4=>exact(Kd.R_reads' HO1632.out).2.1);rintro e w' ⟨rfl,⟨nd,rfl⟩⟩;refine⟨_,rfl,?_⟩))
      go_meet
      case rel=>exact⟨_,((t1626 != t1630)),(by first|rfl|(simp;done)|(simp[*];done)),H',⟨by have:=HJ2.out;first|omega|exact Nat.le_refl _⟩,⟨Kd.Rz <| Kd.R_mono HO1622.out (fun _ hk=>⟨hk.1.1,hk.1.2⟩)⟩,⟨Kd.Rz <| Kd.R_mono HO1624.out (fun _ hk=>⟨hk.1.1,hk.1.2⟩)⟩,⟨Kd.Rz <| Kd.R_mono HO1628.out (fun _ hk=>⟨hk.1.1.2,hk.1.2⟩)⟩,⟨bz⟩⟩
     ·replace c16:=Bool.eq_false_iff.mpr c16
      subst c16
      have H1:(laws_FnOrdNatural.j1 kj2 l1 t1619 t1620 t1625 t1626 true)=some r:=by rw[if_neg (show ¬ (false=true) by decide)] at H;exact H
      clear H
      have H:=H1
      clear H1
      have H':=Aside0.mk H
      clear H
      obtain⟨Ao19,co19,eo19⟩:=Kd.R_slice HO1628.out
      subst eo19
      obtain⟨Ao20,co20,eo20⟩:=Kd.R_slice HO1632.out
      subst eo20
      go_wp2_with (first|((with_reducible refine gate_callee (f:=32) rfl ?_);refine goesL_ (some 52) rfl rfl Try.func32 (by kernel_rfl) rfl #[.slice Ao19 t1625.length co19,.slice Ao20 t1629.length co20] rfl az ?_;(with_reducible refine(laws_sameInts.calls kj2 _ _ t1625 _ _ t1629 false _ ?side1 ?side2 ?side3 ?side4 A15.out).mono ?_);(case side1=>exact Kd.Cz (Kd.R_reads' HO1628.out).2.2);(case side2=>exact(Kd.R_reads' HO1628.out).2.1);(case side3=>exact Kd.Cz (Kd.R_reads' HO1632.out).2.2);(case side4=>exact(Kd.R_reads' HO1632.out).2.1);rintro e w' ⟨rfl,⟨nd,rfl⟩⟩;refine⟨_,rfl,?_⟩))
      go_meet
      case rel=>exact⟨_,(true),(by first|rfl|(simp;done)|(simp[*];done)),H',⟨by have:=HJ2.out;first|omega|exact Nat.le_refl _⟩,⟨Kd.Rz <| Kd.R_mono HO1622.out (fun _ hk=>⟨hk.1.1,hk.1.2⟩)⟩,⟨Kd.Rz <| Kd.R_mono HO1624.out (fun _ hk=>⟨hk.1.1,hk.1.2⟩)⟩,⟨Kd.Rz <| Kd.R_mono HO1628.out (fun _ hk=>⟨hk.1.1.2,hk.1.2⟩)⟩,⟨bz⟩⟩
    case rest =>
     clear HC9
     try clear c1
     try clear c2
     try clear p2
     try clear c3
     try clear c4
     try clear c4b0
     try clear c4b1
     try clear c5
     try clear c13
     try clear c16
     try clear p2
     obtain⟨kq,x58_8,rfl,HA,HJ8,HO_5,HO_6,HO_7,HB⟩:=hcut
     cases kq with
     | zero=>exact absurd HA.out (by simp[laws_FnOrdNatural.j1])
     | succ kj8 =>
      have H:=HA.out
      clear HA
      simp only[laws_FnOrdNatural.j1] at H
      by_cases c21:x58_8=true
      ·subst c21
       have H1:(some false)=some r:=by rw[if_pos rfl] at H;exact H
       clear H
       have H:=H1
       clear H1
       obtain rfl:=Option.some.inj H
       go_wp2
       go_ret
       exact⟨by first|rfl|(simp[errW_none,errW_some]<;>rfl)|(simp[*,errW_none,errW_some]<;>rfl),bz⟩
      ·replace c21:=Bool.eq_false_iff.mpr c21
       subst c21
       have H1:(if t1626=true then((impl_OrdNatural.f kj8 t1620 t1619).bind fun bt1635=>((impl_OrdAdd.f kj8 t1619 t1620).bind fun bt1639=>((spec_DrawOrdNatural.f kj8 l1).bind fun bt1643=>((impl_OrdNatural.f kj8 t1625 bt1643.1).bind fun bt1649=>((impl_OrdNatural.f kj8 t1620 bt1643.1).bind fun bt1653=>((impl_OrdNatural.f kj8 t1619 bt1653.1).bind fun bt1657=>(if bt1649.2=true then(if bt1653.2=true then(if bt1657.2=true then((laws_sameInts.f kj8 bt1649.1 bt1657.1).bind fun t1661=>(laws_FnOrdNatural.j2 kj8 t1619 t1620 t1625 bt1635.1 bt1639.1 bt1639.2 bt1643.1 (!t1661))) else(laws_FnOrdNatural.j2 kj8 t1619 t1620 t1625 bt1635.1 bt1639.1 bt1639.2 bt1643.1 false)) else(laws_FnOrdNatural.j2 kj8 t1619 t1620 t1625 bt1635.1 bt1639.1 bt1639.2 bt1643.1 false)) else(laws_FnOrdNatural.j2 kj8 t1619 t1620 t1625 bt1635.1 bt1639.1 bt1639.2 bt1643.1 false)))))))) else(if(t1625.length:Int)=0 then((laws_alive.f kj8).bind fun t1634=>(some t1634)) else(some false)))=some r:=by rw[if_neg (show ¬ (false=true) by decide)] at H;exact H
       clear H
       have H:=H1
       clear H1
       by_cases c22:t1626=true
       ·subst c22
        have H1:((impl_OrdNatural.f kj8 t1620 t1619).bind fun bt1635=>((impl_OrdAdd.f kj8 t1619 t1620).bind fun bt1639=>((spec_DrawOrdNatural.f kj8 l1).bind fun bt1643=>((impl_OrdNatural.f kj8 t1625 bt1643.1).bind fun bt1649=>((impl_OrdNatural.f kj8 t1620 bt1643.1).bind fun bt1653=>((impl_OrdNatural.f kj8 t1619 bt1653.1).bind fun bt1657=>(if bt1649.2=true then(if bt1653.2=true then(if bt1657.2=true then((laws_sameInts.f kj8 bt1649.1 bt1657.1).bind fun t1661=>(laws_FnOrdNatural.j2 kj8 t1619 t1620 t1625 bt1635.1 bt1639.1 bt1639.2 bt1643.1 (!t1661))) else(laws_FnOrdNatural.j2 kj8 t1619 t1620 t1625 bt1635.1 bt1639.1 bt1639.2 bt1643.1 false)) else(laws_FnOrdNatural.j2 kj8 t1619 t1620 t1625 bt1635.1 bt1639.1 bt1639.2 bt1643.1 false)) else(laws_FnOrdNatural.j2 kj8 t1619 t1620 t1625 bt1635.1 bt1639.1 bt1639.2 bt1643.1 false))))))))=some r:=by rw[if_pos rfl] at H;exact H
        clear H
        have H:=H1
        clear H1
        replace H:=Option.bind_eq_some_iff.mp H
        obtain⟨⟨t1635,t1636⟩,A230,H⟩:=H
        replace H:((impl_OrdAdd.f kj8 t1619 t1620).bind fun bt1639=>((spec_DrawOrdNatural.f kj8 l1).bind fun bt1643=>((impl_OrdNatural.f kj8 t1625 bt1643.1).bind fun bt1649=>((impl_OrdNatural.f kj8 t1620 bt1643.1).bind fun bt1653=>((impl_OrdNatural.f kj8 t1619 bt1653.1).bind fun bt1657=>(if bt1649.2=true then(if bt1653.2=true then(if bt1657.2=true then((laws_sameInts.f kj8 bt1649.1 bt1657.1).bind fun t1661=>(laws_FnOrdNatural.j2 kj8 t1619 t1620 t1625 t1635 bt1639.1 bt1639.2 bt1643.1 (!t1661))) else(laws_FnOrdNatural.j2 kj8 t1619 t1620 t1625 t1635 bt1639.1 bt1639.2 bt1643.1 false)) else(laws_FnOrdNatural.j2 kj8 t1619 t1620 t1625 t1635 bt1639.1 bt1639.2 bt1643.1 false)) else(laws_FnOrdNatural.j2 kj8 t1619 t1620 t1625 t1635 bt1639.1 bt1639.2 bt1643.1 false)))))))=some r:=H
        have A23:=Aside0.mk A230
        clear A230
        replace H:=Option.bind_eq_some_iff.mp H
        obtain⟨⟨t1639,t1640⟩,A240,H⟩:=H
        replace H:((spec_DrawOrdNatural.f kj8 l1).bind fun bt1643=>((impl_OrdNatural.f kj8 t1625 bt1643.1).bind fun bt1649=>((impl_OrdNatural.f kj8 t1620 bt1643.1).bind fun bt1653=>((impl_OrdNatural.f kj8 t1619 bt1653.1).bind fun bt1657=>(if bt1649.2=true then(if bt1653.2=true then(if bt1657.2=true then((laws_sameInts.f kj8 bt1649.1 bt1657.1).bind fun t1661=>(laws_FnOrdNatural.j2 kj8 t1619 t1620 t1625 t1635 t1639 t1640 bt1643.1 (!t1661))) else(laws_FnOrdNatural.j2 kj8 t1619 t1620 t1625 t1635 t1639 t1640 bt1643.1 false)) else(laws_FnOrdNatural.j2 kj8 t1619 t1620 t1625 t1635 t1639 t1640 bt1643.1 false)) else(laws_FnOrdNatural.j2 kj8 t1619 t1620 t1625 t1635 t1639 t1640 bt1643.1 false))))))=some r:=H
        have A24:=Aside0.mk A240
        clear A240
        replace H:=Option.bind_eq_some_iff.mp H
        obtain⟨⟨t1643,t1644⟩,A250,H⟩:=H
        replace H:((impl_OrdNatural.f kj8 t1625 t1643).bind fun bt1649=>((impl_OrdNatural.f kj8 t1620 t1643).bind fun bt1653=>((impl_OrdNatural.f kj8 t1619 bt1653.1).bind fun bt1657=>(if bt1649.2=true then(if bt1653.2=true then(if bt1657.2=true then((laws_sameInts.f kj8 bt1649.1 bt1657.1).bind fun t1661=>(laws_FnOrdNatural.j2 kj8 t1619 t1620 t1625 t1635 t1639 t1640 t1643 (!t1661))) else(laws_FnOrdNatural.j2 kj8 t1619 t1620 t1625 t1635 t1639 t1640 t1643 false)) else(laws_FnOrdNatural.j2 kj8 t1619 t1620 t1625 t1635 t1639 t1640 t1643 false)) else(laws_FnOrdNatural.j2 kj8 t1619 t1620 t1625 t1635 t1639 t1640 t1643 false)))))=some r:=H
        have A25:=Aside0.mk A250
        clear A250
        replace H:=Option.bind_eq_some_iff.mp H
        obtain⟨⟨t1649,t1650⟩,A260,H⟩:=H
        replace H:((impl_OrdNatural.f kj8 t1620 t1643).bind fun bt1653=>((impl_OrdNatural.f kj8 t1619 bt1653.1).bind fun bt1657=>(if t1650=true then(if bt1653.2=true then(if bt1657.2=true then((laws_sameInts.f kj8 t1649 bt1657.1).bind fun t1661=>(laws_FnOrdNatural.j2 kj8 t1619 t1620 t1625 t1635 t1639 t1640 t1643 (!t1661))) else(laws_FnOrdNatural.j2 kj8 t1619 t1620 t1625 t1635 t1639 t1640 t1643 false)) else(laws_FnOrdNatural.j2 kj8 t1619 t1620 t1625 t1635 t1639 t1640 t1643 false)) else(laws_FnOrdNatural.j2 kj8 t1619 t1620 t1625 t1635 t1639 t1640 t1643 false))))=some r:=H
        have A26:=Aside0.mk A260
        clear A260
        replace H:=Option.bind_eq_some_iff.mp H
        obtain⟨⟨t1653,t1654⟩,A270,H⟩:=H
        replace H:((impl_OrdNatural.f kj8 t1619 t1653).bind fun bt1657=>(if t1650=true then(if t1654=true then(if bt1657.2=true then((laws_sameInts.f kj8 t1649 bt1657.1).bind fun t1661=>(laws_FnOrdNatural.j2 kj8 t1619 t1620 t1625 t1635 t1639 t1640 t1643 (!t1661))) else(laws_FnOrdNatural.j2 kj8 t1619 t1620 t1625 t1635 t1639 t1640 t1643 false)) else(laws_FnOrdNatural.j2 kj8 t1619 t1620 t1625 t1635 t1639 t1640 t1643 false)) else(laws_FnOrdNatural.j2 kj8 t1619 t1620 t1625 t1635 t1639 t1640 t1643 false)))=some r:=H
        have A27:=Aside0.mk A270
        clear A270
        replace H:=Option.bind_eq_some_iff.mp H
        obtain⟨⟨t1657,t1658⟩,A280,H⟩:=H
        replace H:(if t1650=true then(if t1654=true then(if t1658=true then((laws_sameInts.f kj8 t1649 t1657).bind fun t1661=>(laws_FnOrdNatural.j2 kj8 t1619 t1620 t1625 t1635 t1639 t1640 t1643 (!t1661))) else(laws_FnOrdNatural.j2 kj8 t1619 t1620 t1625 t1635 t1639 t1640 t1643 false)) else(laws_FnOrdNatural.j2 kj8 t1619 t1620 t1625 t1635 t1639 t1640 t1643 false)) else(laws_FnOrdNatural.j2 kj8 t1619 t1620 t1625 t1635 t1639 t1640 t1643 false))=some r:=H
        have A28:=Aside0.mk A280
        clear A280
        have HC29:=Aside0.mk H
        clear H
        go_upto_region 16 with (first|((with_reducible refine gate_callee (f:=24) rfl ?_);refine goesL_ (some 70) rfl rfl Try.func24 (by kernel_rfl) rfl #[.slice Ao12 t1620.length co12,.slice Ao11 t1619.length co11] rfl az ?_;(with_reducible refine(impl_OrdNatural.calls kj8 _ _ t1620 _ _ t1619 t1635 t1636 _ ?side1 ?side2 ?side3 ?side4 A23.out).mono ?_);(case side1=>exact Kd.Cz (Kd.R_reads' HO_6.out).2.2);(case side2=>exact(Kd.R_reads' HO_6.out).2.1);(case side3=>exact Kd.Cz (Kd.R_reads' HO_5.out).2.2);(case side4=>exact(Kd.R_reads' HO_5.out).2.1);rintro e w30 ⟨v1637,rfl,ho0,hb⟩;refine⟨_,rfl,?_⟩;have HO1638:=Aside0.mk (Kd.R_lower (Kd.R_new' (Kd.R_new' (Kd.R_new' ho0 (Kd.R_lt (Kd.Rz HO_5.out))) (Kd.R_lt (Kd.Rz HO_6.out))) (Kd.R_lt (Kd.Rz HO_7.out))) (below_size bz));replace HO_5:=Aside0.mk (Kd.R_elder' (Kd.Rz HO_5.out) (Kd.R_base ho0) hb);replace HO_6:=Aside0.mk (Kd.R_elder' (Kd.Rz HO_6.out) (Kd.R_base ho0) hb);replace HO_7:=Aside0.mk (Kd.R_elder' (Kd.Rz HO_7.out) (Kd.R_base ho0) hb);replace HB:=Aside0.mk (below_step bz hb);(try clear hb);(try clear hb2);(try clear hk);(try clear hi);(try clear ho0))|((with_reducible refine gate_callee (f:=17) rfl ?_);refine goesL_ (some 76) rfl rfl Try.func17 (by kernel_rfl) rfl #[.slice Ao11 t1619.length co11,.slice Ao12 t1620.length co12] rfl az ?_;(with_reducible refine(impl_OrdAdd.calls kj8 _ _ t1619 _ _ t1620 t1639 t1640 _ ?side1 ?side2 ?side3 ?side4 A24.out).mono ?_);(case side1=>exact Kd.Cz (Kd.R_reads' HO_5.out).2.2);(case side2=>exact(Kd.R_reads' HO_5.out).2.1);(case side3=>exact Kd.Cz (Kd.R_reads' HO_6.out).2.2);(case side4=>exact(Kd.R_reads' HO_6.out).2.1);rintro e w31 ⟨v1641,rfl,ho0,hb⟩;refine⟨_,rfl,?_⟩;have HO1642:=Aside0.mk (Kd.R_lower (Kd.R_new' (Kd.R_new' (Kd.R_new' (Kd.R_new' ho0 (Kd.R_lt (Kd.Rz HO_5.out))) (Kd.R_lt (Kd.Rz HO_6.out))) (Kd.R_lt (Kd.Rz HO_7.out))) (Kd.R_lt (Kd.Rz HO1638.out))) (below_size bz));replace HO_5:=Aside0.mk (Kd.R_elder' (Kd.Rz HO_5.out) (Kd.R_base ho0) hb);replace HO_6:=Aside0.mk (Kd.R_elder' (Kd.Rz HO_6.out) (Kd.R_base ho0) hb);replace HO_7:=Aside0.mk (Kd.R_elder' (Kd.Rz HO_7.out) (Kd.R_base ho0) hb);replace HO1638:=Aside0.mk (Kd.R_elder' (Kd.Rz HO1638.out) (Kd.R_base ho0) hb);replace HB:=Aside0.mk (below_step bz hb);(try clear hb);(try clear hb2);(try clear hk);(try clear hi);(try clear ho0))|((with_reducible refine gate_callee (f:=41) rfl ?_);refine goesL_ (some 81) rfl rfl Try.func41 (by kernel_rfl) rfl #[.slice A1 l1.length c1] rfl az ?_;(with_reducible refine(spec_DrawOrdNatural.calls kj8 _ _ l1 t1643 t1644 _ ?side1 ?side2 A25.out).mono ?_);(case side1=>exact Kd.Cz (Kd.C_below HR1.out HB.out));(case side2=>exact HC1.out);rintro e w32 ⟨v1645,v1647,rfl,ho0,ho1,hb⟩;refine⟨_,rfl,?_⟩;have HO1646:=Aside0.mk (Kd.R_lower (Kd.R_new' (Kd.R_new' (Kd.R_new' (Kd.R_new' (Kd.R_new' ho0 (Kd.R_lt (Kd.Rz HO_5.out))) (Kd.R_lt (Kd.Rz HO_6.out))) (Kd.R_lt (Kd.Rz HO_7.out))) (Kd.R_lt (Kd.Rz HO1638.out))) (Kd.R_lt (Kd.Rz HO1642.out))) (below_size bz));have HO1648:=Aside0.mk (Kd.R_lower (Kd.R_new' (Kd.R_new' (Kd.R_new' (Kd.R_new' (Kd.R_new' ho1 (Kd.R_lt (Kd.Rz HO_5.out))) (Kd.R_lt (Kd.Rz HO_6.out))) (Kd.R_lt (Kd.Rz HO_7.out))) (Kd.R_lt (Kd.Rz HO1638.out))) (Kd.R_lt (Kd.Rz HO1642.out))) (below_size bz));replace HO_5:=Aside0.mk (Kd.R_mono (Kd.R_told (Kd.R_told (Kd.R_old (Kd.Rz HO_5.out) hb) (Kd.R_base ho0)) (Kd.R_base ho1)) (fun _ h_=>h_.1));replace HO_6:=Aside0.mk (Kd.R_mono (Kd.R_told (Kd.R_told (Kd.R_old (Kd.Rz HO_6.out) hb) (Kd.R_base ho0)) (Kd.R_base ho1)) (fun _ h_=>h_.1));replace HO_7:=Aside0.mk (Kd.R_mono (Kd.R_told (Kd.R_told (Kd.R_old (Kd.Rz HO_7.out) hb) (Kd.R_base ho0)) (Kd.R_base ho1)) (fun _ h_=>h_.1));replace HO1638:=Aside0.mk (Kd.R_mono (Kd.R_told (Kd.R_told (Kd.R_old (Kd.Rz HO1638.out) hb) (Kd.R_base ho0)) (Kd.R_base ho1)) (fun _ h_=>h_.1));replace HO1642:=Aside0.mk (Kd.R_mono (Kd.R_told (Kd.R_told (Kd.R_old (Kd.Rz HO1642.out) hb) (Kd.R_base ho0)) (Kd.R_base ho1)) (fun _ h_=>h_.1));replace HB:=Aside0.mk (below_step bz hb);(try clear hb);(try clear hb2);(try clear hk);(try clear hi);(try clear ho0);(try clear ho1);obtain⟨Ao33,co33,eo33⟩:=Kd.R_slice HO_7.out;subst eo33;obtain⟨Ao34,co34,eo34⟩:=Kd.R_slice HO1646.out;subst eo34)|((with_reducible refine gate_callee (f:=24) rfl ?_);refine goesL_ (some 87) rfl rfl Try.func24 (by kernel_rfl) rfl #[.slice Ao33 t1625.length co33,.slice Ao34 t1643.length co34] rfl az ?_;(with_reducible refine(impl_OrdNatural.calls kj8 _ _ t1625 _ _ t1643 t1649 t1650 _ ?side1 ?side2 ?side3 ?side4 A26.out).mono ?_);(case side1=>exact Kd.Cz (Kd.R_reads' HO_7.out).2.2);(case side2=>exact(Kd.R_reads' HO_7.out).2.1);(case side3=>exact Kd.Cz (Kd.R_reads' HO1646.out).2.2);(case side4=>exact(Kd.R_reads' HO1646.out).2.1);rintro e w35 ⟨v1651,rfl,ho0,hb⟩;refine⟨_,rfl,?_⟩;have HO1652:=Aside0.mk (Kd.R_lower (Kd.R_new' (Kd.R_new' (Kd.R_new' (Kd.R_new' (Kd.R_new' (Kd.R_new' (Kd.R_new' ho0 (Kd.R_lt (Kd.Rz HO_5.out))) (Kd.R_lt (Kd.Rz HO_6.out))) (Kd.R_lt (Kd.Rz HO_7.out))) (Kd.R_lt (Kd.Rz HO1638.out))) (Kd.R_lt (Kd.Rz HO1642.out))) (Kd.R_lt (Kd.Rz HO1646.out))) (Kd.R_lt (Kd.Rz HO1648.out))) (below_size bz));replace HO_5:=Aside0.mk (Kd.R_elder' (Kd.Rz HO_5.out) (Kd.R_base ho0) hb);replace HO_6:=Aside0.mk (Kd.R_elder' (Kd.Rz HO_6.out) (Kd.R_base ho0) hb);replace HO_7:=Aside0.mk (Kd.R_elder' (Kd.Rz HO_7.out) (Kd.R_base ho0) hb);replace HO1638:=Aside0.mk (Kd.R_elder' (Kd.Rz HO1638.out) (Kd.R_base ho0) hb);replace HO1642:=Aside0.mk (Kd.R_elder' (Kd.Rz HO1642.out) (Kd.R_base ho0) hb);replace HO1646:=Aside0.mk (Kd.R_elder' (Kd.Rz HO1646.out) (Kd.R_base ho0) hb);replace HO1648:=Aside0.mk (Kd.R_elder' (Kd.Rz HO1648.out) (Kd.R_base ho0) hb);replace HB:=Aside0.mk (below_step bz hb);(try clear hb);(try clear hb2);(try clear hk);(try clear hi);(try clear ho0))|((with_reducible refine gate_callee (f:=24) rfl ?_);refine goesL_ (some 93) rfl rfl Try.func24 (by kernel_rfl) rfl #[.slice Ao12 t1620.length co12,.slice Ao34 t1643.length co34] rfl az ?_;(with_reducible refine(impl_OrdNatural.calls kj8 _ _ t1620 _ _ t1643 t1653 t1654 _ ?side1 ?side2 ?side3 ?side4 A27.out).mono ?_);(case side1=>exact Kd.Cz (Kd.R_reads' HO_6.out).2.2);(case side2=>exact(Kd.R_reads' HO_6.out).2.1);(case side3=>exact Kd.Cz (Kd.R_reads' HO1646.out).2.2);(case side4=>exact(Kd.R_reads' HO1646.out).2.1);rintro e w36 ⟨v1655,rfl,ho0,hb⟩;refine⟨_,rfl,?_⟩;have HO1656:=Aside0.mk (Kd.R_lower (Kd.R_new' (Kd.R_new' (Kd.R_new' (Kd.R_new' (Kd.R_new' (Kd.R_new' (Kd.R_new' (Kd.R_new' ho0 (Kd.R_lt (Kd.Rz HO_5.out))) (Kd.R_lt (Kd.Rz HO_6.out))) (Kd.R_lt (Kd.Rz HO_7.out))) (Kd.R_lt (Kd.Rz HO1638.out))) (Kd.R_lt (Kd.Rz HO1642.out))) (Kd.R_lt (Kd.Rz HO1646.out))) (Kd.R_lt (Kd.Rz HO1648.out))) (Kd.R_lt (Kd.Rz HO1652.out))) (below_size bz));replace HO_5:=Aside0.mk (Kd.R_elder' (Kd.Rz HO_5.out) (Kd.R_base ho0) hb);replace HO_6:=Aside0.mk (Kd.R_elder' (Kd.Rz HO_6.out) (Kd.R_base ho0) hb);replace HO_7:=Aside0.mk (Kd.R_elder' (Kd.Rz HO_7.out) (Kd.R_base ho0) hb);replace HO1638:=Aside0.mk (Kd.R_elder' (Kd.Rz HO1638.out) (Kd.R_base ho0) hb);replace HO1642:=Aside0.mk (Kd.R_elder' (Kd.Rz HO1642.out) (Kd.R_base ho0) hb);replace HO1646:=Aside0.mk (Kd.R_elder' (Kd.Rz HO1646.out) (Kd.R_base ho0) hb);replace HO1648:=Aside0.mk (Kd.R_elder' (Kd.Rz HO1648.out) (Kd.R_base ho0) hb);replace HO1652:=Aside0.mk (Kd.R_elder' (Kd.Rz HO1652.out) (Kd.R_base ho0) hb);replace HB:=Aside0.mk (below_step bz hb);(try clear hb);(try clear hb2);(try clear hk);(try clear hi);(try clear ho0);obtain⟨Ao37,co37,eo37⟩:=Kd.R_slice HO1656.out;subst eo37)|((with_reducible refine gate_callee (f:=24) rfl ?_);refine goesL_ (some 99) rfl rfl Try.func24 (by kernel_rfl) rfl #[.slice Ao11 t1619.length co11,.slice Ao37 t1653.length co37] rfl az ?_;(with_reducible refine(impl_OrdNatural.calls kj8 _ _ t1619 _ _ t1653 t1657 t1658 _ ?side1 ?side2 ?side3 ?side4 A28.out).mono ?_);(case side1=>exact Kd.Cz (Kd.R_reads' HO_5.out).2.2);(case side2=>exact(Kd.R_reads' HO_5.out).2.1);(case side3=>exact Kd.Cz (Kd.R_reads' HO1656.out).2.2);(case side4=>exact(Kd.R_reads' HO1656.out).2.1);rintro e w38 ⟨v1659,rfl,ho0,hb⟩;refine⟨_,rfl,?_⟩;have HO1660:=Aside0.mk (Kd.R_lower (Kd.R_new' (Kd.R_new' (Kd.R_new' (Kd.R_new' (Kd.R_new' (Kd.R_new' (Kd.R_new' (Kd.R_new' (Kd.R_new' ho0 (Kd.R_lt (Kd.Rz HO_5.out))) (Kd.R_lt (Kd.Rz HO_6.out))) (Kd.R_lt (Kd.Rz HO_7.out))) (Kd.R_lt (Kd.Rz HO1638.out))) (Kd.R_lt (Kd.Rz HO1642.out))) (Kd.R_lt (Kd.Rz HO1646.out))) (Kd.R_lt (Kd.Rz HO1648.out))) (Kd.R_lt (Kd.Rz HO1652.out))) (Kd.R_lt (Kd.Rz HO1656.out))) (below_size bz));replace HO_5:=Aside0.mk (Kd.R_elder' (Kd.Rz HO_5.out) (Kd.R_base ho0) hb);replace HO_6:=Aside0.mk (Kd.R_elder' (Kd.Rz HO_6.out) (Kd.R_base ho0) hb);replace HO_7:=Aside0.mk (Kd.R_elder' (Kd.Rz HO_7.out) (Kd.R_base ho0) hb);replace HO1638:=Aside0.mk (Kd.R_elder' (Kd.Rz HO1638.out) (Kd.R_base ho0) hb);replace HO1642:=Aside0.mk (Kd.R_elder' (Kd.Rz HO1642.out) (Kd.R_base ho0) hb);replace HO1646:=Aside0.mk (Kd.R_elder' (Kd.Rz HO1646.out) (Kd.R_base ho0) hb);replace HO1648:=Aside0.mk (Kd.R_elder' (Kd.Rz HO1648.out) (Kd.R_base ho0) hb);replace HO1652:=Aside0.mk (Kd.R_elder' (Kd.Rz HO1652.out) (Kd.R_base ho0) hb);replace HO1656:=Aside0.mk (Kd.R_elder' (Kd.Rz HO1656.out) (Kd.R_base ho0) hb);replace HB:=Aside0.mk (below_step bz hb);(try clear hb);(try clear hb2);(try clear hk);(try clear hi);(try clear ho0)))
        (try simp only[Act.put,List.setIfInBounds_toArray,List.set_cons_zero,List.set_cons_succ])
        go_cut [114] (fun v114 wc=>∃ (kq:Nat) (x114_28:Bool),v114=.bool x114_28∧Aside0 (laws_FnOrdNatural.j2 kq t1619 t1620 t1625 t1635 t1639 t1640 t1643 x114_28=some r)∧Aside0 (kq≤kj8)∧Aside0 (Kd.R (Kd.int .i64) 3 wc w.heap.size (fun k_=>some k_≠((.slice Ao12 t1620.length co12):Value).ownBlock∧some k_≠((.slice Ao33 t1625.length co33):Value).ownBlock∧some k_≠(v1637:Value).ownBlock∧some k_≠(v1641:Value).ownBlock∧some k_≠((.slice Ao34 t1643.length co34):Value).ownBlock) (.slice Ao11 t1619.length co11) t1619)∧Aside0 (Kd.R (Kd.int .i64) 3 wc w.heap.size (fun k_=>some k_≠((.slice Ao11 t1619.length co11):Value).ownBlock∧some k_≠((.slice Ao33 t1625.length co33):Value).ownBlock∧some k_≠(v1637:Value).ownBlock∧some k_≠(v1641:Value).ownBlock∧some k_≠((.slice Ao34 t1643.length co34):Value).ownBlock) (.slice Ao12 t1620.length co12) t1620)∧Aside0 (Kd.R (Kd.int .i64) 3 wc w.heap.size (fun k_=>some k_≠((.slice Ao11 t1619.length co11):Value).ownBlock∧some k_≠((.slice Ao12 t1620.length co12):Value).ownBlock∧some k_≠(v1637:Value).ownBlock∧some k_≠(v1641:Value).ownBlock∧some k_≠((.slice Ao34 t1643.length co34):Value).ownBlock) (.slice Ao33 t1625.length co33) t1625)∧Aside0 (Kd.R (Kd.int .i64) 3 wc w.heap.size (fun k_=>some k_≠((.slice Ao11 t1619.length co11):Value).ownBlock∧some k_≠((.slice Ao12 t1620.length co12):Value).ownBlock∧some k_≠((.slice Ao33 t1625.length co33):Value).ownBlock∧some k_≠(v1641:Value).ownBlock∧some k_≠((.slice Ao34 t1643.length co34):Value).ownBlock) v1637 t1635)∧Aside0 (Kd.R (Kd.int .i64) 3 wc w.heap.size (fun k_=>some k_≠((.slice Ao11 t1619.length co11):Value).ownBlock∧some k_≠((.slice Ao12 t1620.length co12):Value).ownBlock∧some k_≠((.slice Ao33 t1625.length co33):Value).ownBlock∧some k_≠(v1637:Value).ownBlock∧some k_≠((.slice Ao34 t1643.length co34):Value).ownBlock) v1641 t1639)∧Aside0 (Kd.R (Kd.int .i64) 3 wc w.heap.size (fun k_=>some k_≠((.slice Ao11 t1619.length co11):Value).ownBlock∧some k_≠((.slice Ao12 t1620.length co12):Value).ownBlock∧some k_≠((.slice Ao33 t1625.length co33):Value).ownBlock∧some k_≠(v1637:Value).ownBlock∧some k_≠(v1641:Value).ownBlock) (.slice Ao34 t1643.length co34) t1643)∧Aside0 (Below w.heap.size w wc))
        case first =>
         have H:=HC29.out
         clear HC29
         by_cases c39:t1650=true
         ·subst c39
          have H1:(if t1654=true then(if t1658=true then((laws_sameInts.f kj8 t1649 t1657).bind fun t1661=>(laws_FnOrdNatural.j2 kj8 t1619 t1620 t1625 t1635 t1639 t1640 t1643 (!t1661))) else(laws_FnOrdNatural.j2 kj8 t1619 t1620 t1625 t1635 t1639 t1640 t1643 false)) else(laws_FnOrdNatural.j2 kj8 t1619 t1620 t1625 t1635 t1639 t1640 t1643 false))=some r:=by rw[if_pos rfl] at H;exact H
          clear H
          have H:=H1
          clear H1
          by_cases c40:t1654=true
          ·subst c40
           have H1:(if t1658=true then((laws_sameInts.f kj8 t1649 t1657).bind fun t1661=>(laws_FnOrdNatural.j2 kj8 t1619 t1620 t1625 t1635 t1639 t1640 t1643 (!t1661))) else(laws_FnOrdNatural.j2 kj8 t1619 t1620 t1625 t1635 t1639 t1640 t1643 false))=some r:=by rw[if_pos rfl] at H;exact H
           clear H
           have H:=H1
           clear H1
           by_cases c41:t1658=true
           ·subst c41
            have H1:((laws_sameInts.f kj8 t1649 t1657).bind fun t1661=>(laws_FnOrdNatural.j2 kj8 t1619 t1620 t1625 t1635 t1639 t1640 t1643 (!t1661)))=some r:=by rw[if_pos rfl] at H;exact H
            clear H
            have H:=H1
            clear H1
            replace H:=Option.bind_eq_some_iff.mp H
            obtain⟨t1661,A420,H⟩:=H
            replace H:(laws_FnOrdNatural.j2 kj8 t1619 t1620 t1625 t1635 t1639 t1640 t1643 (!t1661))=some r:=H
            have A42:=Aside0.mk A420
            clear A420
            have H':=Aside0.mk H
            clear H
            obtain⟨Ao43,co43,eo43⟩:=Kd.R_slice HO1652.out
            subst eo43
            obtain⟨Ao44,co44,eo44⟩:=Kd.R_slice HO1660.out
            subst eo44
            go_wp2_with (first|(go_at_call 32;(with_reducible refine(laws_sameInts.calls kj8 _ _ t1649 _ _ t1657 t1661 _ ?side1 ?side2 ?side3 ?side4 A42.out).mono ?_);(case side1=>exact Kd.Cz (Kd.R_reads' HO1652.out).2.2);(case side2=>exact(Kd.R_reads' HO1652.out).2.1);(case side3=>exact Kd.Cz (Kd.R_reads' HO1660.out).2.2);(case side4=>exact(Kd.R_reads' HO1660.out).2.1);rintro e w' ⟨rfl,⟨nd,rfl⟩⟩))
            go_meet
            case rel=>exact⟨_,(!t1661),(by first|rfl|(simp;done)|(simp[*];done)),H',⟨by have:=HJ2.out;have:=HJ8.out;first|omega|exact Nat.le_refl _⟩,⟨Kd.Rz <| Kd.R_mono HO_5.out (fun _ hk=>⟨hk.1.1.1.1.1.1.1.1,⟨hk.1.1.1.1.1.1.1.2,⟨hk.1.1.1.1.1.1.2,⟨hk.1.1.1.1.1.2,hk.1.1.1.1.2⟩⟩⟩⟩)⟩,⟨Kd.Rz <| Kd.R_mono HO_6.out (fun _ hk=>⟨hk.1.1.1.1.1.1.1.1,⟨hk.1.1.1.1.1.1.1.2,⟨hk.1.1.1.1.1.1.2,⟨hk.1.1.1.1.1.2,hk.1.1.1.1.2⟩⟩⟩⟩)⟩,⟨Kd.Rz <| Kd.R_mono HO_7.out (fun _ hk=>⟨hk.1.1.1.1.1.1.1.1,⟨hk.1.1.1.1.1.1.1.2,⟨hk.1.1.1.1.1.1.2,⟨hk.1.1.1.1.1.2,hk.1.1.1.1.2⟩⟩⟩⟩)⟩,⟨Kd.Rz <| Kd.R_mono HO1638.out (fun _ hk=>⟨hk.1.1.1.1.1.1.1.1.2,⟨hk.1.1.1.1.1.1.1.2,⟨hk.1.1.1.1.1.1.2,⟨hk.1.1.1.1.1.2,hk.1.1.1.1.2⟩⟩⟩⟩)⟩,⟨Kd.Rz <| Kd.R_mono HO1642.out (fun _ hk=>⟨hk.1.1.1.1.1.1.1.1.2,⟨hk.1.1.1.1.1.1.1.2,⟨hk.1.1.1.1.1.1.2,⟨hk.1.1.1.1.1.2,hk.1.1.1.1.2⟩⟩⟩⟩)⟩,⟨Kd.Rz <| Kd.R_mono HO1646.out (fun _ hk=>⟨hk.1.1.1.1.1.1.1.2,⟨hk.1.1.1.1.1.1.2,⟨hk.1.1.1.1.1.2,⟨hk.1.1.1.1.2,hk.1.1.1.2⟩⟩⟩⟩)⟩,⟨bz⟩⟩
           ·replace c41:=Bool.eq_false_iff.mpr c41
            subst c41
            have H1:(laws_FnOrdNatural.j2 kj8 t1619 t1620 t1625 t1635 t1639 t1640 t1643 false)=some r:=by rw[if_neg (show ¬ (false=true) by decide)] at H;exact H
            clear H
            have H:=H1
            clear H1
            have H':=Aside0.mk H
            clear H
            go_wp2
            go_meet
            case rel=>exact⟨_,(false),(by first|rfl|(simp;done)|(simp[*];done)),H',⟨by have:=HJ2.out;have:=HJ8.out;first|omega|exact Nat.le_refl _⟩,⟨Kd.Rz <| Kd.R_mono HO_5.out (fun _ hk=>⟨hk.1.1.1.1.1.1.1.1,⟨hk.1.1.1.1.1.1.1.2,⟨hk.1.1.1.1.1.1.2,⟨hk.1.1.1.1.1.2,hk.1.1.1.1.2⟩⟩⟩⟩)⟩,⟨Kd.Rz <| Kd.R_mono HO_6.out (fun _ hk=>⟨hk.1.1.1.1.1.1.1.1,⟨hk.1.1.1.1.1.1.1.2,⟨hk.1.1.1.1.1.1.2,⟨hk.1.1.1.1.1.2,hk.1.1.1.1.2⟩⟩⟩⟩)⟩,⟨Kd.Rz <| Kd.R_mono HO_7.out (fun _ hk=>⟨hk.1.1.1.1.1.1.1.1,⟨hk.1.1.1.1.1.1.1.2,⟨hk.1.1.1.1.1.1.2,⟨hk.1.1.1.1.1.2,hk.1.1.1.1.2⟩⟩⟩⟩)⟩,⟨Kd.Rz <| Kd.R_mono HO1638.out (fun _ hk=>⟨hk.1.1.1.1.1.1.1.1.2,⟨hk.1.1.1.1.1.1.1.2,⟨hk.1.1.1.1.1.1.2,⟨hk.1.1.1.1.1.2,hk.1.1.1.1.2⟩⟩⟩⟩)⟩,⟨Kd.Rz <| Kd.R_mono HO1642.out (fun _ hk=>⟨hk.1.1.1.1.1.1.1.1.2,⟨hk.1.1.1.1.1.1.1.2,⟨hk.1.1.1.1.1.1.2,⟨hk.1.1.1.1.1.2,hk.1.1.1.1.2⟩⟩⟩⟩)⟩,⟨Kd.Rz <| Kd.R_mono HO1646.out (fun _ hk=>⟨hk.1.1.1.1.1.1.1.2,⟨hk.1.1.1.1.1.1.2,⟨hk.1.1.1.1.1.2,⟨hk.1.1.1.1.2,hk.1.1.1.2⟩⟩⟩⟩)⟩,⟨bz⟩⟩
          ·replace c40:=Bool.eq_false_iff.mpr c40
           subst c40
           have H1:(laws_FnOrdNatural.j2 kj8 t1619 t1620 t1625 t1635 t1639 t1640 t1643 false)=some r:=by rw[if_neg (show ¬ (false=true) by decide)] at H;exact H
           clear H
           have H:=H1
           clear H1
           have H':=Aside0.mk H
           clear H
           go_wp2
           go_meet
           case rel=>exact⟨_,(false),(by first|rfl|(simp;done)|(simp[*];done)),H',⟨by have:=HJ2.out;have:=HJ8.out;first|omega|exact Nat.le_refl _⟩,⟨Kd.Rz <| Kd.R_mono HO_5.out (fun _ hk=>⟨hk.1.1.1.1.1.1.1.1,⟨hk.1.1.1.1.1.1.1.2,⟨hk.1.1.1.1.1.1.2,⟨hk.1.1.1.1.1.2,hk.1.1.1.1.2⟩⟩⟩⟩)⟩,⟨Kd.Rz <| Kd.R_mono HO_6.out (fun _ hk=>⟨hk.1.1.1.1.1.1.1.1,⟨hk.1.1.1.1.1.1.1.2,⟨hk.1.1.1.1.1.1.2,⟨hk.1.1.1.1.1.2,hk.1.1.1.1.2⟩⟩⟩⟩)⟩,⟨Kd.Rz <| Kd.R_mono HO_7.out (fun _ hk=>⟨hk.1.1.1.1.1.1.1.1,⟨hk.1.1.1.1.1.1.1.2,⟨hk.1.1.1.1.1.1.2,⟨hk.1.1.1.1.1.2,hk.1.1.1.1.2⟩⟩⟩⟩)⟩,⟨Kd.Rz <| Kd.R_mono HO1638.out (fun _ hk=>⟨hk.1.1.1.1.1.1.1.1.2,⟨hk.1.1.1.1.1.1.1.2,⟨hk.1.1.1.1.1.1.2,⟨hk.1.1.1.1.1.2,hk.1.1.1.1.2⟩⟩⟩⟩)⟩,⟨Kd.Rz <| Kd.R_mono HO1642.out (fun _ hk=>⟨hk.1.1.1.1.1.1.1.1.2,⟨hk.1.1.1.1.1.1.1.2,⟨hk.1.1.1.1.1.1.2,⟨hk.1.1.1.1.1.2,hk.1.1.1.1.2⟩⟩⟩⟩)⟩,⟨Kd.Rz <| Kd.R_mono HO1646.out (fun _ hk=>⟨hk.1.1.1.1.1.1.1.2,⟨hk.1.1.1.1.1.1.2,⟨hk.1.1.1.1.1.2,⟨hk.1.1.1.1.2,hk.1.1.1.2⟩⟩⟩⟩)⟩,⟨bz⟩⟩
         ·replace c39:=Bool.eq_false_iff.mpr c39
          subst c39
          have H1:(laws_FnOrdNatural.j2 kj8 t1619 t1620 t1625 t1635 t1639 t1640 t1643 false)=some r:=by rw[if_neg (show ¬ (false=true) by decide)] at H;exact H
          clear H
          have H:=H1
          clear H1
          have H':=Aside0.mk H
          clear H
          go_wp2
          go_meet
          case rel=>exact⟨_,(false),(by first|rfl|(simp;done)|(simp[*];done)),H',⟨by have:=HJ2.out;have:=HJ8.out;first|omega|exact Nat.le_refl _⟩,⟨Kd.Rz <| Kd.R_mono HO_5.out (fun _ hk=>⟨hk.1.1.1.1.1.1.1.1,⟨hk.1.1.1.1.1.1.1.2,⟨hk.1.1.1.1.1.1.2,⟨hk.1.1.1.1.1.2,hk.1.1.1.1.2⟩⟩⟩⟩)⟩,⟨Kd.Rz <| Kd.R_mono HO_6.out (fun _ hk=>⟨hk.1.1.1.1.1.1.1.1,⟨hk.1.1.1.1.1.1.1.2,⟨hk.1.1.1.1.1.1.2,⟨hk.1.1.1.1.1.2,hk.1.1.1.1.2⟩⟩⟩⟩)⟩,⟨Kd.Rz <| Kd.R_mono HO_7.out (fun _ hk=>⟨hk.1.1.1.1.1.1.1.1,⟨hk.1.1.1.1.1.1.1.2,⟨hk.1.1.1.1.1.1.2,⟨hk.1.1.1.1.1.2,hk.1.1.1.1.2⟩⟩⟩⟩)⟩,⟨Kd.Rz <| Kd.R_mono HO1638.out (fun _ hk=>⟨hk.1.1.1.1.1.1.1.1.2,⟨hk.1.1.1.1.1.1.1.2,⟨hk.1.1.1.1.1.1.2,⟨hk.1.1.1.1.1.2,hk.1.1.1.1.2⟩⟩⟩⟩)⟩,⟨Kd.Rz <| Kd.R_mono HO1642.out (fun _ hk=>⟨hk.1.1.1.1.1.1.1.1.2,⟨hk.1.1.1.1.1.1.1.2,⟨hk.1.1.1.1.1.1.2,⟨hk.1.1.1.1.1.2,hk.1.1.1.1.2⟩⟩⟩⟩)⟩,⟨Kd.Rz <| Kd.R_mono HO1646.out (fun _ hk=>⟨hk.1.1.1.1.1.1.1.2,⟨hk.1.1.1.1.1.1.2,⟨hk.1.1.1.1.1.2,⟨hk.1.1.1.1.2,hk.1.1.1.2⟩⟩⟩⟩)⟩,⟨bz⟩⟩
        case rest =>
         clear HC29
         try clear c1
         try clear c2
         try clear p2
         try clear c3
         try clear c4
         try clear c4b0
         try clear c4b1
         try clear c5
         try clear c13
         try clear c16
         try clear c17
         try clear c21
         try clear c22
         try clear c23
         try clear c24
         try clear c32
         try clear c39
         try clear c40
         try clear c41
         try clear p2
         obtain⟨kq,x114_28,rfl,HA,HJ28,HO_5,HO_6,HO_7,HO_11,HO_13,HO_15,HB⟩:=hcut
         cases kq with
         | zero=>exact absurd HA.out (by simp[laws_FnOrdNatural.j2])
         | succ kj28 =>
          have H:=HA.out
          clear HA
          simp only[laws_FnOrdNatural.j2] at H
          by_cases c45:x114_28=true
          ·subst c45
           have H1:(some false)=some r:=by rw[if_pos rfl] at H;exact H
           clear H
           have H:=H1
           clear H1
           obtain rfl:=Option.some.inj H
           go_wp2
           go_ret
           exact⟨by first|rfl|(simp[errW_none,errW_some]<;>rfl)|(simp[*,errW_none,errW_some]<;>rfl),bz⟩
          ·replace c45:=Bool.eq_false_iff.mpr c45
           subst c45
           have H1:((impl_OrdNatural.f kj28 t1619 t1643).bind fun bt1662=>((laws_sameInts.f kj28 t1635 t1625).bind fun t1666=>(if t1666=true then(if t1640=true then((impl_OrdCompare.f kj28 t1639 t1625).bind fun t1667=>(if t1667≤0 then(if bt1662.2=true then((impl_OrdCompare.f kj28 bt1662.1 t1625).bind fun t1668=>((impl_OrdCompare.f kj28 t1643 t1620).bind fun t1669=>(some (t1668 == t1669)))) else(some true)) else(some false))) else(if bt1662.2=true then((impl_OrdCompare.f kj28 bt1662.1 t1625).bind fun t1670=>((impl_OrdCompare.f kj28 t1643 t1620).bind fun t1671=>(some (t1670 == t1671)))) else(some true))) else(some false))))=some r:=by rw[if_neg (show ¬ (false=true) by decide)] at H;exact H
           clear H
           have H:=H1
           clear H1
           replace H:=Option.bind_eq_some_iff.mp H
           obtain⟨⟨t1662,t1663⟩,A460,H⟩:=H
           replace H:((laws_sameInts.f kj28 t1635 t1625).bind fun t1666=>(if t1666=true then(if t1640=true then((impl_OrdCompare.f kj28 t1639 t1625).bind fun t1667=>(if t1667≤0 then(if t1663=true then((impl_OrdCompare.f kj28 t1662 t1625).bind fun t1668=>((impl_OrdCompare.f kj28 t1643 t1620).bind fun t1669=>(some (t1668 == t1669)))) else(some true)) else(some false))) else(if t1663=true then((impl_OrdCompare.f kj28 t1662 t1625).bind fun t1670=>((impl_OrdCompare.f kj28 t1643 t1620).bind fun t1671=>(some (t1670 == t1671)))) else(some true))) else(some false)))=some r:=H
           have A46:=Aside0.mk A460
           clear A460
           replace H:=Option.bind_eq_some_iff.mp H
           obtain⟨t1666,A470,H⟩:=H
           replace H:(if t1666=true then(if t1640=true then((impl_OrdCompare.f kj28 t1639 t1625).bind fun t1667=>(if t1667≤0 then(if t1663=true then((impl_OrdCompare.f kj28 t1662 t1625).bind fun t1668=>((impl_OrdCompare.f kj28 t1643 t1620).bind fun t1669=>(some (t1668 == t1669)))) else(some true)) else(some false))) else(if t1663=true then((impl_OrdCompare.f kj28 t1662 t1625).bind fun t1670=>((impl_OrdCompare.f kj28 t1643 t1620).bind fun t1671=>(some (t1670 == t1671)))) else(some true))) else(some false))=some r:=H
           have A47:=Aside0.mk A470
           clear A470
           by_cases c48:t1666=true
           ·subst c48
            have H1:(if t1640=true then((impl_OrdCompare.f kj28 t1639 t1625).bind fun t1667=>(if t1667≤0 then(if t1663=true then((impl_OrdCompare.f kj28 t1662 t1625).bind fun t1668=>((impl_OrdCompare.f kj28 t1643 t1620).bind fun t1669=>(some (t1668 == t1669)))) else(some true)) else(some false))) else(if t1663=true then((impl_OrdCompare.f kj28 t1662 t1625).bind fun t1670=>((impl_OrdCompare.f kj28 t1643 t1620).bind fun t1671=>(some (t1670 == t1671)))) else(some true)))=some r:=by rw[if_pos rfl] at H;exact H
            clear H
            have H:=H1
            clear H1
            by_cases c49:t1640=true
            ·subst c49
             have H1:((impl_OrdCompare.f kj28 t1639 t1625).bind fun t1667=>(if t1667≤0 then(if t1663=true then((impl_OrdCompare.f kj28 t1662 t1625).bind fun t1668=>((impl_OrdCompare.f kj28 t1643 t1620).bind fun t1669=>(some (t1668 == t1669)))) else(some true)) else(some false)))=some r:=by rw[if_pos rfl] at H;exact H
             clear H
             have H:=H1
             clear H1
             replace H:=Option.bind_eq_some_iff.mp H
             obtain⟨t1667,A500,H⟩:=H
             replace H:(if t1667≤0 then(if t1663=true then((impl_OrdCompare.f kj28 t1662 t1625).bind fun t1668=>((impl_OrdCompare.f kj28 t1643 t1620).bind fun t1669=>(some (t1668 == t1669)))) else(some true)) else(some false))=some r:=H
             have A50:=Aside0.mk A500
             clear A500
             by_cases c51:t1667≤0
             ·rw[if_pos c51] at H
              have c51b0:decide (t1667≤0)=true:=decide_eq_true c51
              clear c51
              by_cases c52:t1663=true
              ·subst c52
               have H1:((impl_OrdCompare.f kj28 t1662 t1625).bind fun t1668=>((impl_OrdCompare.f kj28 t1643 t1620).bind fun t1669=>(some (t1668 == t1669))))=some r:=by rw[if_pos rfl] at H;exact H
               clear H
               have H:=H1
               clear H1
               replace H:=Option.bind_eq_some_iff.mp H
               obtain⟨t1668,A530,H⟩:=H
               replace H:((impl_OrdCompare.f kj28 t1643 t1620).bind fun t1669=>(some (t1668 == t1669)))=some r:=H
               have A53:=Aside0.mk A530
               clear A530
               replace H:=Option.bind_eq_some_iff.mp H
               obtain⟨t1669,A540,H⟩:=H
               replace H:(some (t1668 == t1669))=some r:=H
               have A54:=Aside0.mk A540
               clear A540
               obtain rfl:=Option.some.inj H
               go_wp2_with (first|((with_reducible refine gate_callee (f:=24) rfl ?_);refine goesL_ (some 118) rfl rfl Try.func24 (by kernel_rfl) rfl #[.slice Ao11 t1619.length co11,.slice Ao34 t1643.length co34] rfl az ?_;(with_reducible refine(impl_OrdNatural.calls kj28 _ _ t1619 _ _ t1643 t1662 true _ ?side1 ?side2 ?side3 ?side4 A46.out).mono ?_);(case side1=>exact Kd.Cz (Kd.R_reads' HO_5.out).2.2);(case side2=>exact(Kd.R_reads' HO_5.out).2.1);(case side3=>exact Kd.Cz (Kd.R_reads' HO_15.out).2.2);(case side4=>exact(Kd.R_reads' HO_15.out).2.1);rintro e w55 ⟨v1664,rfl,ho0,hb⟩;refine⟨_,rfl,?_⟩;have HO1665:=Aside0.mk (Kd.R_lower (Kd.R_new' (Kd.R_new' (Kd.R_new' (Kd.R_new' (Kd.R_new' (Kd.R_new' ho0 (Kd.R_lt (Kd.Rz HO_5.out))) (Kd.R_lt (Kd.Rz HO_6.out))) (Kd.R_lt (Kd.Rz HO_7.out))) (Kd.R_lt (Kd.Rz HO_11.out))) (Kd.R_lt (Kd.Rz HO_13.out))) (Kd.R_lt (Kd.Rz HO_15.out))) (below_size bz));replace HO_5:=Aside0.mk (Kd.R_elder' (Kd.Rz HO_5.out) (Kd.R_base ho0) hb);replace HO_6:=Aside0.mk (Kd.R_elder' (Kd.Rz HO_6.out) (Kd.R_base ho0) hb);replace HO_7:=Aside0.mk (Kd.R_elder' (Kd.Rz HO_7.out) (Kd.R_base ho0) hb);replace HO_11:=Aside0.mk (Kd.R_elder' (Kd.Rz HO_11.out) (Kd.R_base ho0) hb);replace HO_13:=Aside0.mk (Kd.R_elder' (Kd.Rz HO_13.out) (Kd.R_base ho0) hb);replace HO_15:=Aside0.mk (Kd.R_elder' (Kd.Rz HO_15.out) (Kd.R_base ho0) hb);replace HB:=Aside0.mk (below_step bz hb);(try clear hb);(try clear hb2);(try clear hk);(try clear hi);(try clear ho0);obtain⟨Ao56,co56,eo56⟩:=Kd.R_slice HO_11.out;subst eo56)|((with_reducible refine gate_callee (f:=32) rfl ?_);refine goesL_ (some 123) rfl rfl Try.func32 (by kernel_rfl) rfl #[.slice Ao56 t1635.length co56,.slice Ao33 t1625.length co33] rfl az ?_;(with_reducible refine(laws_sameInts.calls kj28 _ _ t1635 _ _ t1625 true _ ?side1 ?side2 ?side3 ?side4 A47.out).mono ?_);(case side1=>exact Kd.Cz (Kd.R_reads' HO_11.out).2.2);(case side2=>exact(Kd.R_reads' HO_11.out).2.1);(case side3=>exact Kd.Cz (Kd.R_reads' HO_7.out).2.2);(case side4=>exact(Kd.R_reads' HO_7.out).2.1);rintro e w' ⟨rfl,⟨nd,rfl⟩⟩;refine⟨_,rfl,?_⟩;obtain⟨Ao57,co57,eo57⟩:=Kd.R_slice HO_13.out;subst eo57)|(go_at_call 35;(with_reducible refine(impl_OrdCompare.calls kj28 _ _ t1639 _ _ t1625 t1667 _ ?side1 ?side2 ?side3 ?side4 A50.out).mono ?_);(case side1=>exact Kd.Cz (Kd.R_reads' HO_13.out).2.2);(case side2=>exact(Kd.R_reads' HO_13.out).2.1);(case side3=>exact Kd.Cz (Kd.R_reads' HO_7.out).2.2);(case side4=>exact(Kd.R_reads' HO_7.out).2.1);rintro e w58 ⟨rfl,hb⟩;replace HO_5:=Aside0.mk (Kd.R_below (Kd.Rz HO_5.out) hb);replace HO_6:=Aside0.mk (Kd.R_below (Kd.Rz HO_6.out) hb);replace HO_7:=Aside0.mk (Kd.R_below (Kd.Rz HO_7.out) hb);replace HO_11:=Aside0.mk (Kd.R_below (Kd.Rz HO_11.out) hb);replace HO_13:=Aside0.mk (Kd.R_below (Kd.Rz HO_13.out) hb);replace HO_15:=Aside0.mk (Kd.R_below (Kd.Rz HO_15.out) hb);replace HO1665:=Aside0.mk (Kd.R_below (Kd.Rz HO1665.out) hb);replace HB:=Aside0.mk (below_step bz hb);(try clear hb);(try clear hb2);(try clear hk);(try clear hi);obtain⟨Ao59,co59,eo59⟩:=Kd.R_slice HO1665.out;subst eo59)|(go_at_call 35;(with_reducible refine(impl_OrdCompare.calls kj28 _ _ t1662 _ _ t1625 t1668 _ ?side1 ?side2 ?side3 ?side4 A53.out).mono ?_);(case side1=>exact Kd.Cz (Kd.R_reads' HO1665.out).2.2);(case side2=>exact(Kd.R_reads' HO1665.out).2.1);(case side3=>exact Kd.Cz (Kd.R_reads' HO_7.out).2.2);(case side4=>exact(Kd.R_reads' HO_7.out).2.1);rintro e w60 ⟨rfl,hb⟩;replace HO_5:=Aside0.mk (Kd.R_below (Kd.Rz HO_5.out) hb);replace HO_6:=Aside0.mk (Kd.R_below (Kd.Rz HO_6.out) hb);replace HO_7:=Aside0.mk (Kd.R_below (Kd.Rz HO_7.out) hb);replace HO_11:=Aside0.mk (Kd.R_below (Kd.Rz HO_11.out) hb);replace HO_13:=Aside0.mk (Kd.R_below (Kd.Rz HO_13.out) hb);replace HO_15:=Aside0.mk (Kd.R_below (Kd.Rz HO_15.out) hb);replace HO1665:=Aside0.mk (Kd.R_below (Kd.Rz HO1665.out) hb);replace HB:=Aside0.mk (below_step bz hb);(try clear hb);(try clear hb2);(try clear hk);(try clear hi))|(go_at_call 35;(with_reducible refine(impl_OrdCompare.calls kj28 _ _ t1643 _ _ t1620 t1669 _ ?side1 ?side2 ?side3 ?side4 A54.out).mono ?_);(case side1=>exact Kd.Cz (Kd.R_reads' HO_15.out).2.2);(case side2=>exact(Kd.R_reads' HO_15.out).2.1);(case side3=>exact Kd.Cz (Kd.R_reads' HO_6.out).2.2);(case side4=>exact(Kd.R_reads' HO_6.out).2.1);rintro e w61 ⟨rfl,hb⟩;replace HO_5:=Aside0.mk (Kd.R_below (Kd.Rz HO_5.out) hb);replace HO_6:=Aside0.mk (Kd.R_below (Kd.Rz HO_6.out) hb);replace HO_7:=Aside0.mk (Kd.R_below (Kd.Rz HO_7.out) hb);replace HO_11:=Aside0.mk (Kd.R_below (Kd.Rz HO_11.out) hb);replace HO_13:=Aside0.mk (Kd.R_below (Kd.Rz HO_13.out) hb);replace HO_15:=Aside0.mk (Kd.R_below (Kd.Rz HO_15.out) hb);replace HO1665:=Aside0.mk (Kd.R_below (Kd.Rz HO1665.out) hb);replace HB:=Aside0.mk (below_step bz hb);(try clear hb);(try clear hb2);(try clear hk);(try clear hi)))
               go_ret
               exact⟨by first|rfl|(simp[errW_none,errW_some]<;>rfl)|(simp[*,errW_none,errW_some]<;>rfl),bz⟩
              ·replace c52:=Bool.eq_false_iff.mpr c52
               subst c52
               have H1:(some true)=some r:=by rw[if_neg (show ¬ (false=true) by decide)] at H;exact H
               clear H
               have H:=H1
               clear H1
               obtain rfl:=Option.some.inj H
               go_wp2_with (first|((with_reducible refine gate_callee (f:=24) rfl ?_);refine goesL_ (some 118) rfl rfl Try.func24 (by kernel_rfl) rfl #[.slice Ao11 t1619.length co11,.slice Ao34 t1643.length co34] rfl az ?_;(with_reducible refine(impl_OrdNatural.calls kj28 _ _ t1619 _ _ t1643 t1662 false _ ?side1 ?side2 ?side3 ?side4 A46.out).mono ?_);(case side1=>exact Kd.Cz (Kd.R_reads' HO_5.out).2.2);(case side2=>exact(Kd.R_reads' HO_5.out).2.1);(case side3=>exact Kd.Cz (Kd.R_reads' HO_15.out).2.2);(case side4=>exact(Kd.R_reads' HO_15.out).2.1);rintro e w62 ⟨v1664,rfl,ho0,hb⟩;refine⟨_,rfl,?_⟩;have HO1665:=Aside0.mk (Kd.R_lower (Kd.R_new' (Kd.R_new' (Kd.R_new' (Kd.R_new' (Kd.R_new' (Kd.R_new' ho0 (Kd.R_lt (Kd.Rz HO_5.out))) (Kd.R_lt (Kd.Rz HO_6.out))) (Kd.R_lt (Kd.Rz HO_7.out))) (Kd.R_lt (Kd.Rz HO_11.out))) (Kd.R_lt (Kd.Rz HO_13.out))) (Kd.R_lt (Kd.Rz HO_15.out))) (below_size bz));replace HO_5:=Aside0.mk (Kd.R_elder' (Kd.Rz HO_5.out) (Kd.R_base ho0) hb);replace HO_6:=Aside0.mk (Kd.R_elder' (Kd.Rz HO_6.out) (Kd.R_base ho0) hb);replace HO_7:=Aside0.mk (Kd.R_elder' (Kd.Rz HO_7.out) (Kd.R_base ho0) hb);replace HO_11:=Aside0.mk (Kd.R_elder' (Kd.Rz HO_11.out) (Kd.R_base ho0) hb);replace HO_13:=Aside0.mk (Kd.R_elder' (Kd.Rz HO_13.out) (Kd.R_base ho0) hb);replace HO_15:=Aside0.mk (Kd.R_elder' (Kd.Rz HO_15.out) (Kd.R_base ho0) hb);replace HB:=Aside0.mk (below_step bz hb);(try clear hb);(try clear hb2);(try clear hk);(try clear hi);(try clear ho0);obtain⟨Ao63,co63,eo63⟩:=Kd.R_slice HO_11.out;subst eo63)|((with_reducible refine gate_callee (f:=32) rfl ?_);refine goesL_ (some 123) rfl rfl Try.func32 (by kernel_rfl) rfl #[.slice Ao63 t1635.length co63,.slice Ao33 t1625.length co33] rfl az ?_;(with_reducible refine(laws_sameInts.calls kj28 _ _ t1635 _ _ t1625 true _ ?side1 ?side2 ?side3 ?side4 A47.out).mono ?_);(case side1=>exact Kd.Cz (Kd.R_reads' HO_11.out).2.2);(case side2=>exact(Kd.R_reads' HO_11.out).2.1);(case side3=>exact Kd.Cz (Kd.R_reads' HO_7.out).2.2);(case side4=>exact(Kd.R_reads' HO_7.out).2.1);rintro e w' ⟨rfl,⟨nd,rfl⟩⟩;refine⟨_,rfl,?_⟩;obtain⟨Ao64,co64,eo64⟩:=Kd.R_slice HO_13.out;subst eo64)|(go_at_call 35;(with_reducible refine(impl_OrdCompare.calls kj28 _ _ t1639 _ _ t1625 t1667 _ ?side1 ?side2 ?side3 ?side4 A50.out).mono ?_);(case side1=>exact Kd.Cz (Kd.R_reads' HO_13.out).2.2);(case side2=>exact(Kd.R_reads' HO_13.out).2.1);(case side3=>exact Kd.Cz (Kd.R_reads' HO_7.out).2.2);(case side4=>exact(Kd.R_reads' HO_7.out).2.1);rintro e w65 ⟨rfl,hb⟩;replace HO_5:=Aside0.mk (Kd.R_below (Kd.Rz HO_5.out) hb);replace HO_6:=Aside0.mk (Kd.R_below (Kd.Rz HO_6.out) hb);replace HO_7:=Aside0.mk (Kd.R_below (Kd.Rz HO_7.out) hb);replace HO_11:=Aside0.mk (Kd.R_below (Kd.Rz HO_11.out) hb);replace HO_13:=Aside0.mk (Kd.R_below (Kd.Rz HO_13.out) hb);replace HO_15:=Aside0.mk (Kd.R_below (Kd.Rz HO_15.out) hb);replace HO1665:=Aside0.mk (Kd.R_below (Kd.Rz HO1665.out) hb);replace HB:=Aside0.mk (below_step bz hb);(try clear hb);(try clear hb2);(try clear hk);(try clear hi)))
               go_ret
               exact⟨by first|rfl|(simp[errW_none,errW_some]<;>rfl)|(simp[*,errW_none,errW_some]<;>rfl),bz⟩
             ·rw[if_neg c51] at H
              have c51b0:decide (t1667≤0)=false:=decide_eq_false c51
              clear c51
              obtain rfl:=Option.some.inj H
              go_wp2_with (first|((with_reducible refine gate_callee (f:=24) rfl ?_);refine goesL_ (some 118) rfl rfl Try.func24 (by kernel_rfl) rfl #[.slice Ao11 t1619.length co11,.slice Ao34 t1643.length co34] rfl az ?_;(with_reducible refine(impl_OrdNatural.calls kj28 _ _ t1619 _ _ t1643 t1662 t1663 _ ?side1 ?side2 ?side3 ?side4 A46.out).mono ?_);(case side1=>exact Kd.Cz (Kd.R_reads' HO_5.out).2.2);(case side2=>exact(Kd.R_reads' HO_5.out).2.1);(case side3=>exact Kd.Cz (Kd.R_reads' HO_15.out).2.2);(case side4=>exact(Kd.R_reads' HO_15.out).2.1);rintro e w66 ⟨v1664,rfl,ho0,hb⟩;refine⟨_,rfl,?_⟩;have HO1665:=Aside0.mk (Kd.R_lower (Kd.R_new' (Kd.R_new' (Kd.R_new' (Kd.R_new' (Kd.R_new' (Kd.R_new' ho0 (Kd.R_lt (Kd.Rz HO_5.out))) (Kd.R_lt (Kd.Rz HO_6.out))) (Kd.R_lt (Kd.Rz HO_7.out))) (Kd.R_lt (Kd.Rz HO_11.out))) (Kd.R_lt (Kd.Rz HO_13.out))) (Kd.R_lt (Kd.Rz HO_15.out))) (below_size bz));replace HO_5:=Aside0.mk (Kd.R_elder' (Kd.Rz HO_5.out) (Kd.R_base ho0) hb);replace HO_6:=Aside0.mk (Kd.R_elder' (Kd.Rz HO_6.out) (Kd.R_base ho0) hb);replace HO_7:=Aside0.mk (Kd.R_elder' (Kd.Rz HO_7.out) (Kd.R_base ho0) hb);replace HO_11:=Aside0.mk (Kd.R_elder' (Kd.Rz HO_11.out) (Kd.R_base ho0) hb);replace HO_13:=Aside0.mk (Kd.R_elder' (Kd.Rz HO_13.out) (Kd.R_base ho0) hb);replace HO_15:=Aside0.mk (Kd.R_elder' (Kd.Rz HO_15.out) (Kd.R_base ho0) hb);replace HB:=Aside0.mk (below_step bz hb);(try clear hb);(try clear hb2);(try clear hk);(try clear hi);(try clear ho0);obtain⟨Ao67,co67,eo67⟩:=Kd.R_slice HO_11.out;subst eo67)|((with_reducible refine gate_callee (f:=32) rfl ?_);refine goesL_ (some 123) rfl rfl Try.func32 (by kernel_rfl) rfl #[.slice Ao67 t1635.length co67,.slice Ao33 t1625.length co33] rfl az ?_;(with_reducible refine(laws_sameInts.calls kj28 _ _ t1635 _ _ t1625 true _ ?side1 ?side2 ?side3 ?side4 A47.out).mono ?_);(case side1=>exact Kd.Cz (Kd.R_reads' HO_11.out).2.2);(case side2=>exact(Kd.R_reads' HO_11.out).2.1);(case side3=>exact Kd.Cz (Kd.R_reads' HO_7.out).2.2);(case side4=>exact(Kd.R_reads' HO_7.out).2.1);rintro e w' ⟨rfl,⟨nd,rfl⟩⟩;refine⟨_,rfl,?_⟩;obtain⟨Ao68,co68,eo68⟩:=Kd.R_slice HO_13.out;subst eo68)|(go_at_call 35;(with_reducible refine(impl_OrdCompare.calls kj28 _ _ t1639 _ _ t1625 t1667 _ ?side1 ?side2 ?side3 ?side4 A50.out).mono ?_);(case side1=>exact Kd.Cz (Kd.R_reads' HO_13.out).2.2);(case side2=>exact(Kd.R_reads' HO_13.out).2.1);(case side3=>exact Kd.Cz (Kd.R_reads' HO_7.out).2.2);(case side4=>exact(Kd.R_reads' HO_7.out).2.1);rintro e w69 ⟨rfl,hb⟩;replace HO_5:=Aside0.mk (Kd.R_below (Kd.Rz HO_5.out) hb);replace HO_6:=Aside0.mk (Kd.R_below (Kd.Rz HO_6.out) hb);replace HO_7:=Aside0.mk (Kd.R_below (Kd.Rz HO_7.out) hb);replace HO_11:=Aside0.mk (Kd.R_below (Kd.Rz HO_11.out) hb);replace HO_13:=Aside0.mk (Kd.R_below (Kd.Rz HO_13.out) hb);replace HO_15:=Aside0.mk (Kd.R_below (Kd.Rz HO_15.out) hb);replace HO1665:=Aside0.mk (Kd.R_below (Kd.Rz HO1665.out) hb);replace HB:=Aside0.mk (below_step bz hb);(try clear hb);(try clear hb2);(try clear hk);(try clear hi)))
              go_ret
              exact⟨by first|rfl|(simp[errW_none,errW_some]<;>rfl)|(simp[*,errW_none,errW_some]<;>rfl),bz⟩
            ·replace c49:=Bool.eq_false_iff.mpr c49
             subst c49
             have H1:(if t1663=true then((impl_OrdCompare.f kj28 t1662 t1625).bind fun t1670=>((impl_OrdCompare.f kj28 t1643 t1620).bind fun t1671=>(some (t1670 == t1671)))) else(some true))=some r:=by rw[if_neg (show ¬ (false=true) by decide)] at H;exact H
             clear H
             have H:=H1
             clear H1
             by_cases c70:t1663=true
             ·subst c70
              have H1:((impl_OrdCompare.f kj28 t1662 t1625).bind fun t1670=>((impl_OrdCompare.f kj28 t1643 t1620).bind fun t1671=>(some (t1670 == t1671))))=some r:=by rw[if_pos rfl] at H;exact H
              clear H
              have H:=H1
              clear H1
              replace H:=Option.bind_eq_some_iff.mp H
              obtain⟨t1670,A710,H⟩:=H
              replace H:((impl_OrdCompare.f kj28 t1643 t1620).bind fun t1671=>(some (t1670 == t1671)))=some r:=H
              have A71:=Aside0.mk A710
              clear A710
              replace H:=Option.bind_eq_some_iff.mp H
              obtain⟨t1671,A720,H⟩:=H
              replace H:(some (t1670 == t1671))=some r:=H
              have A72:=Aside0.mk A720
              clear A720
              obtain rfl:=Option.some.inj H
              go_wp2_with (first|((with_reducible refine gate_callee (f:=24) rfl ?_);refine goesL_ (some 118) rfl rfl Try.func24 (by kernel_rfl) rfl #[.slice Ao11 t1619.length co11,.slice Ao34 t1643.length co34] rfl az ?_;(with_reducible refine(impl_OrdNatural.calls kj28 _ _ t1619 _ _ t1643 t1662 true _ ?side1 ?side2 ?side3 ?side4 A46.out).mono ?_);(case side1=>exact Kd.Cz (Kd.R_reads' HO_5.out).2.2);(case side2=>exact(Kd.R_reads' HO_5.out).2.1);(case side3=>exact Kd.Cz (Kd.R_reads' HO_15.out).2.2);(case side4=>exact(Kd.R_reads' HO_15.out).2.1);rintro e w73 ⟨v1664,rfl,ho0,hb⟩;refine⟨_,rfl,?_⟩;have HO1665:=Aside0.mk (Kd.R_lower (Kd.R_new' (Kd.R_new' (Kd.R_new' (Kd.R_new' (Kd.R_new' (Kd.R_new' ho0 (Kd.R_lt (Kd.Rz HO_5.out))) (Kd.R_lt (Kd.Rz HO_6.out))) (Kd.R_lt (Kd.Rz HO_7.out))) (Kd.R_lt (Kd.Rz HO_11.out))) (Kd.R_lt (Kd.Rz HO_13.out))) (Kd.R_lt (Kd.Rz HO_15.out))) (below_size bz));replace HO_5:=Aside0.mk (Kd.R_elder' (Kd.Rz HO_5.out) (Kd.R_base ho0) hb);replace HO_6:=Aside0.mk (Kd.R_elder' (Kd.Rz HO_6.out) (Kd.R_base ho0) hb);replace HO_7:=Aside0.mk (Kd.R_elder' (Kd.Rz HO_7.out) (Kd.R_base ho0) hb);replace HO_11:=Aside0.mk (Kd.R_elder' (Kd.Rz HO_11.out) (Kd.R_base ho0) hb);replace HO_13:=Aside0.mk (Kd.R_elder' (Kd.Rz HO_13.out) (Kd.R_base ho0) hb);replace HO_15:=Aside0.mk (Kd.R_elder' (Kd.Rz HO_15.out) (Kd.R_base ho0) hb);replace HB:=Aside0.mk (below_step bz hb);(try clear hb);(try clear hb2);(try clear hk);(try clear hi);(try clear ho0);obtain⟨Ao74,co74,eo74⟩:=Kd.R_slice HO_11.out;subst eo74)|((with_reducible refine gate_callee (f:=32) rfl ?_);refine goesL_ (some 123) rfl rfl Try.func32 (by kernel_rfl) rfl #[.slice Ao74 t1635.length co74,.slice Ao33 t1625.length co33] rfl az ?_;(with_reducible refine(laws_sameInts.calls kj28 _ _ t1635 _ _ t1625 true _ ?side1 ?side2 ?side3 ?side4 A47.out).mono ?_);(case side1=>exact Kd.Cz (Kd.R_reads' HO_11.out).2.2);(case side2=>exact(Kd.R_reads' HO_11.out).2.1);(case side3=>exact Kd.Cz (Kd.R_reads' HO_7.out).2.2);(case side4=>exact(Kd.R_reads' HO_7.out).2.1);rintro e w' ⟨rfl,⟨nd,rfl⟩⟩;refine⟨_,rfl,?_⟩;obtain⟨Ao75,co75,eo75⟩:=Kd.R_slice HO1665.out;subst eo75)|(go_at_call 35;(with_reducible refine(impl_OrdCompare.calls kj28 _ _ t1662 _ _ t1625 t1670 _ ?side1 ?side2 ?side3 ?side4 A71.out).mono ?_);(case side1=>exact Kd.Cz (Kd.R_reads' HO1665.out).2.2);(case side2=>exact(Kd.R_reads' HO1665.out).2.1);(case side3=>exact Kd.Cz (Kd.R_reads' HO_7.out).2.2);(case side4=>exact(Kd.R_reads' HO_7.out).2.1);rintro e w76 ⟨rfl,hb⟩;replace HO_5:=Aside0.mk (Kd.R_below (Kd.Rz HO_5.out) hb);replace HO_6:=Aside0.mk (Kd.R_below (Kd.Rz HO_6.out) hb);replace HO_7:=Aside0.mk (Kd.R_below (Kd.Rz HO_7.out) hb);replace HO_11:=Aside0.mk (Kd.R_below (Kd.Rz HO_11.out) hb);replace HO_13:=Aside0.mk (Kd.R_below (Kd.Rz HO_13.out) hb);replace HO_15:=Aside0.mk (Kd.R_below (Kd.Rz HO_15.out) hb);replace HO1665:=Aside0.mk (Kd.R_below (Kd.Rz HO1665.out) hb);replace HB:=Aside0.mk (below_step bz hb);(try clear hb);(try clear hb2);(try clear hk);(try clear hi))|(go_at_call 35;(with_reducible refine(impl_OrdCompare.calls kj28 _ _ t1643 _ _ t1620 t1671 _ ?side1 ?side2 ?side3 ?side4 A72.out).mono ?_);(case side1=>exact Kd.Cz (Kd.R_reads' HO_15.out).2.2);(case side2=>exact(Kd.R_reads' HO_15.out).2.1);(case side3=>exact Kd.Cz (Kd.R_reads' HO_6.out).2.2);(case side4=>exact(Kd.R_reads' HO_6.out).2.1);rintro e w77 ⟨rfl,hb⟩;replace HO_5:=Aside0.mk (Kd.R_below (Kd.Rz HO_5.out) hb);replace HO_6:=Aside0.mk (Kd.R_below (Kd.Rz HO_6.out) hb);replace HO_7:=Aside0.mk (Kd.R_below (Kd.Rz HO_7.out) hb);replace HO_11:=Aside0.mk (Kd.R_below (Kd.Rz HO_11.out) hb);replace HO_13:=Aside0.mk (Kd.R_below (Kd.Rz HO_13.out) hb);replace HO_15:=Aside0.mk (Kd.R_below (Kd.Rz HO_15.out) hb);replace HO1665:=Aside0.mk (Kd.R_below (Kd.Rz HO1665.out) hb);replace HB:=Aside0.mk (below_step bz hb);(try clear hb);(try clear hb2);(try clear hk);(try clear hi)))
              go_ret
              exact⟨by first|rfl|(simp[errW_none,errW_some]<;>rfl)|(simp[*,errW_none,errW_some]<;>rfl),bz⟩
             ·replace c70:=Bool.eq_false_iff.mpr c70
              subst c70
              have H1:(some true)=some r:=by rw[if_neg (show ¬ (false=true) by decide)] at H;exact H
              clear H
              have H:=H1
              clear H1
              obtain rfl:=Option.some.inj H
              go_wp2_with (first|((with_reducible refine gate_callee (f:=24) rfl ?_);refine goesL_ (some 118) rfl rfl Try.func24 (by kernel_rfl) rfl #[.slice Ao11 t1619.length co11,.slice Ao34 t1643.length co34] rfl az ?_;(with_reducible refine(impl_OrdNatural.calls kj28 _ _ t1619 _ _ t1643 t1662 false _ ?side1 ?side2 ?side3 ?side4 A46.out).mono ?_);(case side1=>exact Kd.Cz (Kd.R_reads' HO_5.out).2.2);(case side2=>exact(Kd.R_reads' HO_5.out).2.1);(case side3=>exact Kd.Cz (Kd.R_reads' HO_15.out).2.2);(case side4=>exact(Kd.R_reads' HO_15.out).2.1);rintro e w78 ⟨v1664,rfl,ho0,hb⟩;refine⟨_,rfl,?_⟩;have HO1665:=Aside0.mk (Kd.R_lower (Kd.R_new' (Kd.R_new' (Kd.R_new' (Kd.R_new' (Kd.R_new' (Kd.R_new' ho0 (Kd.R_lt (Kd.Rz HO_5.out))) (Kd.R_lt (Kd.Rz HO_6.out))) (Kd.R_lt (Kd.Rz HO_7.out))) (Kd.R_lt (Kd.Rz HO_11.out))) (Kd.R_lt (Kd.Rz HO_13.out))) (Kd.R_lt (Kd.Rz HO_15.out))) (below_size bz));replace HO_5:=Aside0.mk (Kd.R_elder' (Kd.Rz HO_5.out) (Kd.R_base ho0) hb);replace HO_6:=Aside0.mk (Kd.R_elder' (Kd.Rz HO_6.out) (Kd.R_base ho0) hb);replace HO_7:=Aside0.mk (Kd.R_elder' (Kd.Rz HO_7.out) (Kd.R_base ho0) hb);replace HO_11:=Aside0.mk (Kd.R_elder' (Kd.Rz HO_11.out) (Kd.R_base ho0) hb);replace HO_13:=Aside0.mk (Kd.R_elder' (Kd.Rz HO_13.out) (Kd.R_base ho0) hb);replace HO_15:=Aside0.mk (Kd.R_elder' (Kd.Rz HO_15.out) (Kd.R_base ho0) hb);replace HB:=Aside0.mk (below_step bz hb);(try clear hb);(try clear hb2);(try clear hk);(try clear hi);(try clear ho0);obtain⟨Ao79,co79,eo79⟩:=Kd.R_slice HO_11.out;subst eo79)|((with_reducible refine gate_callee (f:=32) rfl ?_);refine goesL_ (some 123) rfl rfl Try.func32 (by kernel_rfl) rfl #[.slice Ao79 t1635.length co79,.slice Ao33 t1625.length co33] rfl az ?_;(with_reducible refine(laws_sameInts.calls kj28 _ _ t1635 _ _ t1625 true _ ?side1 ?side2 ?side3 ?side4 A47.out).mono ?_);(case side1=>exact Kd.Cz (Kd.R_reads' HO_11.out).2.2);(case side2=>exact(Kd.R_reads' HO_11.out).2.1);(case side3=>exact Kd.Cz (Kd.R_reads' HO_7.out).2.2);(case side4=>exact(Kd.R_reads' HO_7.out).2.1);rintro e w' ⟨rfl,⟨nd,rfl⟩⟩;refine⟨_,rfl,?_⟩))
              go_ret
              exact⟨by first|rfl|(simp[errW_none,errW_some]<;>rfl)|(simp[*,errW_none,errW_some]<;>rfl),bz⟩
           ·replace c48:=Bool.eq_false_iff.mpr c48
            subst c48
            have H1:(some false)=some r:=by rw[if_neg (show ¬ (false=true) by decide)] at H;exact H
            clear H
            have H:=H1
            clear H1
            obtain rfl:=Option.some.inj H
            go_wp2_with (first|((with_reducible refine gate_callee (f:=24) rfl ?_);refine goesL_ (some 118) rfl rfl Try.func24 (by kernel_rfl) rfl #[.slice Ao11 t1619.length co11,.slice Ao34 t1643.length co34] rfl az ?_;(with_reducible refine(impl_OrdNatural.calls kj28 _ _ t1619 _ _ t1643 t1662 t1663 _ ?side1 ?side2 ?side3 ?side4 A46.out).mono ?_);(case side1=>exact Kd.Cz (Kd.R_reads' HO_5.out).2.2);(case side2=>exact(Kd.R_reads' HO_5.out).2.1);(case side3=>exact Kd.Cz (Kd.R_reads' HO_15.out).2.2);(case side4=>exact(Kd.R_reads' HO_15.out).2.1);rintro e w80 ⟨v1664,rfl,ho0,hb⟩;refine⟨_,rfl,?_⟩;have HO1665:=Aside0.mk (Kd.R_lower (Kd.R_new' (Kd.R_new' (Kd.R_new' (Kd.R_new' (Kd.R_new' (Kd.R_new' ho0 (Kd.R_lt (Kd.Rz HO_5.out))) (Kd.R_lt (Kd.Rz HO_6.out))) (Kd.R_lt (Kd.Rz HO_7.out))) (Kd.R_lt (Kd.Rz HO_11.out))) (Kd.R_lt (Kd.Rz HO_13.out))) (Kd.R_lt (Kd.Rz HO_15.out))) (below_size bz));replace HO_5:=Aside0.mk (Kd.R_elder' (Kd.Rz HO_5.out) (Kd.R_base ho0) hb);replace HO_6:=Aside0.mk (Kd.R_elder' (Kd.Rz HO_6.out) (Kd.R_base ho0) hb);replace HO_7:=Aside0.mk (Kd.R_elder' (Kd.Rz HO_7.out) (Kd.R_base ho0) hb);replace HO_11:=Aside0.mk (Kd.R_elder' (Kd.Rz HO_11.out) (Kd.R_base ho0) hb);replace HO_13:=Aside0.mk (Kd.R_elder' (Kd.Rz HO_13.out) (Kd.R_base ho0) hb);replace HO_15:=Aside0.mk (Kd.R_elder' (Kd.Rz HO_15.out) (Kd.R_base ho0) hb);replace HB:=Aside0.mk (below_step bz hb);(try clear hb);(try clear hb2);(try clear hk);(try clear hi);(try clear ho0);obtain⟨Ao81,co81,eo81⟩:=Kd.R_slice HO_11.out;subst eo81)|((with_reducible refine gate_callee (f:=32) rfl ?_);refine goesL_ (some 123) rfl rfl Try.func32 (by kernel_rfl) rfl #[.slice Ao81 t1635.length co81,.slice Ao33 t1625.length co33] rfl az ?_;(with_reducible refine(laws_sameInts.calls kj28 _ _ t1635 _ _ t1625 false _ ?side1 ?side2 ?side3 ?side4 A47.out).mono ?_);(case side1=>exact Kd.Cz (Kd.R_reads' HO_11.out).2.2);(case side2=>exact(Kd.R_reads' HO_11.out).2.1);(case side3=>exact Kd.Cz (Kd.R_reads' HO_7.out).2.2);(case side4=>exact(Kd.R_reads' HO_7.out).2.1);rintro e w' ⟨rfl,⟨nd,rfl⟩⟩;refine⟨_,rfl,?_⟩))
            go_ret
            exact⟨by first|rfl|(simp[errW_none,errW_some]<;>rfl)|(simp[*,errW_none,errW_some]<;>rfl),bz⟩
       ·replace c22:=Bool.eq_false_iff.mpr c22
        subst c22
        have H1:(if(t1625.length:Int)=0 then((laws_alive.f kj8).bind fun t1634=>(some t1634)) else(some false))=some r:=by rw[if_neg (show ¬ (false=true) by decide)] at H;exact H
        clear H
        have H:=H1
        clear H1
        by_cases c82:(t1625.length:Int)=0
        ·rw[if_pos c82] at H
         have c82b0:((t1625.length:Int) == 0)=true:=beq_iff_eq.mpr c82
         have c82b1:((t1625.length:Int) != 0)=false:=bne_eq_false_iff_eq.mpr c82
         clear c82
         replace H:=Option.bind_eq_some_iff.mp H
         obtain⟨t1634,A830,H⟩:=H
         replace H:(some t1634)=some r:=H
         have A83:=Aside0.mk A830
         clear A830
         obtain rfl:=Option.some.inj H
         obtain⟨Ao84,co84,eo84⟩:=Kd.R_slice HO_7.out
         subst eo84
         go_wp2_with (first|(go_at_call 33;(with_reducible refine(laws_alive.calls kj8  t1634 _ A83.out).mono ?_);rintro e w85 ⟨rfl,hb⟩;replace HO_5:=Aside0.mk (Kd.R_below (Kd.Rz HO_5.out) hb);replace HO_6:=Aside0.mk (Kd.R_below (Kd.Rz HO_6.out) hb);replace HO_7:=Aside0.mk (Kd.R_below (Kd.Rz HO_7.out) hb);replace HB:=Aside0.mk (below_step bz hb);(try clear hb);(try clear hb2);(try clear hk);(try clear hi)))
         go_ret
         exact⟨by first|rfl|(simp[errW_none,errW_some]<;>rfl)|(simp[*,errW_none,errW_some]<;>rfl),bz⟩
        ·rw[if_neg c82] at H
         have c82b0:((t1625.length:Int) == 0)=false:=beq_eq_false_iff_ne.mpr c82
         have c82b1:((t1625.length:Int) != 0)=true:=bne_iff_ne.mpr c82
         have c82b2:¬ (t1625=[]):=fun h_=>c82 (by rw[h_];rfl)
         obtain rfl:=Option.some.inj H
         obtain⟨Ao86,co86,eo86⟩:=Kd.R_slice HO_7.out
         subst eo86
         go_wp2
         go_ret
         exact⟨by first|rfl|(simp[errW_none,errW_some]<;>rfl)|(simp[*,errW_none,errW_some]<;>rfl),bz⟩
/-- THE ONE PURE STATEMENT of laws_FnOrdNatural: yours. -/
def laws_FnOrdNatural.Pure:Prop:=∀ (l0:List Int) (l1:List Int),l0.length≤maxLen→l0.length*1≤140737488351232→(∀ x ∈ l0,(Lit.int .u8 x).wf=true)→l1.length≤maxLen→l1.length*1≤140737488351232→(∀ x ∈ l1,(Lit.int .u8 x).wf=true)→∃ k,laws_FnOrdNatural.f k l0 l1=some true
theorem laws_FnOrdNatural.walk (P:laws_FnOrdNatural.Pure)(a0:Option Addr)(len0 cap0:Nat)(z0:List Int)(a1:Option Addr)(len1 cap1:Nat)(z1:List Int)(w:World)(w0:(a0=none∧len0=0∧cap0=0∧z0=[])∨∃ x,a0=some x∧len0≤cap0∧cap0≤maxLen∧z0.length=cap0∧(∀ i,i<z0.length→w.cell? (x.add i)=some (.int .u8 (z0.getD i 0)))∧∀ n ∈ z0,(Lit.int .u8 n).wf=true)(y0:len0*1≤140737488351232)(w1:(a1=none∧len1=0∧cap1=0∧z1=[])∨∃ x,a1=some x∧len1≤cap1∧cap1≤maxLen∧z1.length=cap1∧(∀ i,i<z1.length→w.cell? (x.add i)=some (.int .u8 (z1.getD i 0)))∧∀ n ∈ z1,(Lit.int .u8 n).wf=true)(y1:len1*1≤140737488351232) :
  Calls Try.prog 13 #[.slice a0 len0 cap0,.slice a1 len1 cap1] w fun e w'=>e=.returned (.bool true)∧Below w.heap.size w w':=by
 obtain⟨l0,rfl,hr0,hm0,hw0,hc0⟩:=ReadsInt.ofRowC w0
 obtain⟨l1,rfl,hr1,hm1,hw1,hc1⟩:=ReadsInt.ofRowC w1
 obtain⟨k,h⟩:=P l0 l1 hm0 y0 hw0 hm1 y1 hw1
 refine(laws_FnOrdNatural.calls k _ _ l0 _ _ l1 true w (Kd.C_of_reads (d:=(0:Int)) (h1:=fun _=>rfl) hr0) hc0 (Kd.C_of_reads (d:=(0:Int)) (h1:=fun _=>rfl) hr1) hc1 h).mono ?_
 rintro e w' ⟨rfl,hd⟩
 exact⟨rfl,hd⟩
end Go.Proofs.Ytfblcanijhnhmaa.P