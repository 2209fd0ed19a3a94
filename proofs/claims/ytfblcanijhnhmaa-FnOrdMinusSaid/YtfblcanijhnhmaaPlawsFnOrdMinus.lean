/- One Go function comes to what its Lean function tells. -/
import Derived.Test.YtfblcanijhnhmaaP0
import Derived.Test.YtfblcanijhnhmaaPimplOrdAdd
import Derived.Test.YtfblcanijhnhmaaPimplOrdCompare
import Derived.Test.YtfblcanijhnhmaaPimplOrdMinus
import Derived.Test.YtfblcanijhnhmaaPimplOrdValid
import Derived.Test.YtfblcanijhnhmaaPlawsalive
import Derived.Test.YtfblcanijhnhmaaPlawssameInts
import Derived.Test.YtfblcanijhnhmaaPspecDrawOrdMinus
import Derived.Test.YtfblcanijhnhmaaPspecOrdMinus
namespace Go.Proofs.Ytfblcanijhnhmaa.P
open Go.RowKit YtfblcanijhnhmaaW.PrintWords YtfblcanijhnhmaaW.PrintLast YtfblcanijhnhmaaW.PrintMore
set_option linter.unusedVariables false
set_option linter.unusedSimpArgs false
/-! ### laws_FnOrdMinus: function 11 -/
def laws_FnOrdMinus.j0:Nat→List Int→List Int→List Int→Bool→Bool→Option (Bool)
 | 0,_,_,_,_,_=>none
 | k+1,x3,x4,x5,x6,x39=>if x39=true then(some false) else(if x6=true then((impl_OrdAdd.f k x4 x5).bind fun bt1580=>((impl_OrdValid.f k x5).bind fun t1584=>(if t1584=true then(if bt1580.2=true then((laws_sameInts.f k bt1580.1 x3).bind fun t1585=>(if t1585=true then((impl_OrdCompare.f k x3 x4).bind fun t1586=>(some (decide (t1586≥0)))) else(some false))) else(some false)) else(some false)))) else(if(x5.length:Int)=0 then((impl_OrdCompare.f k x3 x4).bind fun t1578=>(if t1578<0 then((laws_alive.f k).bind fun t1579=>(some t1579)) else(some false))) else(some false)))
def laws_FnOrdMinus.f (k:Nat)(l0:List Int):Option (Bool):=if(l0.length:Int)>1048576 then(some true) else((spec_DrawOrdMinus.f k l0).bind fun bt1563=>((impl_OrdMinus.f k bt1563.1 bt1563.2).bind fun bt1569=>((spec_OrdMinus.f k bt1563.1 bt1563.2).bind fun bt1573=>((laws_sameInts.f k bt1569.1 bt1573.1).bind fun t1577=>(if t1577=true then(laws_FnOrdMinus.j0 k bt1563.1 bt1563.2 bt1569.1 bt1569.2 (bt1569.2 != bt1573.2)) else(laws_FnOrdMinus.j0 k bt1563.1 bt1563.2 bt1569.1 bt1569.2 true))))))
theorem laws_FnOrdMinus.mono_l:∀ k,(∀ y0 y1 y2 y3 y4,LeO (laws_FnOrdMinus.j0 k y0 y1 y2 y3 y4) (laws_FnOrdMinus.j0 (k+1) y0 y1 y2 y3 y4))
 | 0=>fun _ _ _ _ _ r h=>by simp[laws_FnOrdMinus.j0] at h
 | k+1=>by
  have ih0:=laws_FnOrdMinus.mono_l k
  ·intro y0 y1 y2 y3 y4
   unfold laws_FnOrdMinus.j0
   repeat' first|(with_reducible first|exact ih0 _ _ _ _ _|exact impl_OrdAdd.mono _ _ _|exact impl_OrdCompare.mono _ _ _|exact impl_OrdValid.mono _ _|exact laws_alive.mono _|exact laws_sameInts.mono _ _ _|exact LeO.refl _|exact LeO.none _|refine LeO.ite ?_ ?_|refine LeO.bind ?_ (fun _=>?_))|exact ih0 _ _ _ _ _|exact impl_OrdAdd.mono _ _ _|exact impl_OrdCompare.mono _ _ _|exact impl_OrdValid.mono _ _|exact laws_alive.mono _|exact laws_sameInts.mono _ _ _|exact LeO.none _|refine LeO.ite ?_ ?_|refine LeO.bind ?_ (fun _=>?_)
theorem laws_FnOrdMinus.mono:∀ a0 k,LeO (laws_FnOrdMinus.f k a0) (laws_FnOrdMinus.f (k+1) a0):=by
 intro a0 k
 have ih0:=laws_FnOrdMinus.mono_l k
 unfold laws_FnOrdMinus.f
 repeat' first|(with_reducible first|exact ih0 _ _ _ _ _|exact impl_OrdMinus.mono _ _ _|exact laws_sameInts.mono _ _ _|exact spec_DrawOrdMinus.mono _ _|exact spec_OrdMinus.mono _ _ _|exact LeO.refl _|exact LeO.none _|refine LeO.ite ?_ ?_|refine LeO.bind ?_ (fun _=>?_))|exact ih0 _ _ _ _ _|exact impl_OrdMinus.mono _ _ _|exact laws_sameInts.mono _ _ _|exact spec_DrawOrdMinus.mono _ _|exact spec_OrdMinus.mono _ _ _|exact LeO.none _|refine LeO.ite ?_ ?_|refine LeO.bind ?_ (fun _=>?_)
set_option maxHeartbeats 8000000 in
set_option maxRecDepth 100000 in
theorem laws_FnOrdMinus.calls (k:Nat)(A0:Option Addr)(c0:Nat)(l0:List Int)(r:Bool)(w:World)(hr0:Kd.C (Kd.int .u8) w A0 l0.length l0)(hc0:l0.length≤c0)(h:laws_FnOrdMinus.f k l0=some r) :
  Calls Try.prog 11 #[.slice A0 l0.length c0] w fun e w'=>e=.returned (.bool r)∧Below w.heap.size w w':=by
 have HR0:=Sd.mk hr0
 have HC0:=Sd.mk hc0
 clear hr0 hc0
 have HB:=Sd.mk (Below.refl w.heap.size w)
 have H:(if(l0.length:Int)>1048576 then(some true) else((spec_DrawOrdMinus.f k l0).bind fun bt1563=>((impl_OrdMinus.f k bt1563.1 bt1563.2).bind fun bt1569=>((spec_OrdMinus.f k bt1563.1 bt1563.2).bind fun bt1573=>((laws_sameInts.f k bt1569.1 bt1573.1).bind fun t1577=>(if t1577=true then(laws_FnOrdMinus.j0 k bt1563.1 bt1563.2 bt1569.1 bt1569.2 (bt1569.2 != bt1573.2)) else(laws_FnOrdMinus.j0 k bt1563.1 bt1563.2 bt1569.1 bt1569.2 true)))))))=some r:=h
 clear h
 by_cases c2:(l0.length:Int)>1048576
 ·rw[if_pos c2] at H
  have c2b0:decide (1048576<(l0.length:Int))=true:=decide_eq_true c2
  have c2b1:decide (1048576<l0.length)=true:=decide_eq_true (by omega)
  clear c2
  obtain rfl:=Option.some.inj H
  go_enter Try.func11,Try.ntmps11
  go_wp2
  go_ret
  exact⟨by first|rfl|(simp[errW_none,errW_some]<;>rfl)|(simp[*,errW_none,errW_some]<;>rfl),bz⟩
 ·rw[if_neg c2] at H
  have c2b0:decide (1048576<(l0.length:Int))=false:=decide_eq_false c2
  have c2b1:decide (1048576<l0.length)=false:=decide_eq_false (by omega)
  clear c2
  replace H:=Option.bind_eq_some_iff.mp H
  obtain⟨⟨t1563,t1564⟩,A30,H⟩:=H
  replace H:((impl_OrdMinus.f k t1563 t1564).bind fun bt1569=>((spec_OrdMinus.f k t1563 t1564).bind fun bt1573=>((laws_sameInts.f k bt1569.1 bt1573.1).bind fun t1577=>(if t1577=true then(laws_FnOrdMinus.j0 k t1563 t1564 bt1569.1 bt1569.2 (bt1569.2 != bt1573.2)) else(laws_FnOrdMinus.j0 k t1563 t1564 bt1569.1 bt1569.2 true)))))=some r:=H
  have A3:=Sd.mk A30
  clear A30
  replace H:=Option.bind_eq_some_iff.mp H
  obtain⟨⟨t1569,t1570⟩,A40,H⟩:=H
  replace H:((spec_OrdMinus.f k t1563 t1564).bind fun bt1573=>((laws_sameInts.f k t1569 bt1573.1).bind fun t1577=>(if t1577=true then(laws_FnOrdMinus.j0 k t1563 t1564 t1569 t1570 (t1570 != bt1573.2)) else(laws_FnOrdMinus.j0 k t1563 t1564 t1569 t1570 true))))=some r:=H
  have A4:=Sd.mk A40
  clear A40
  replace H:=Option.bind_eq_some_iff.mp H
  obtain⟨⟨t1573,t1574⟩,A50,H⟩:=H
  replace H:((laws_sameInts.f k t1569 t1573).bind fun t1577=>(if t1577=true then(laws_FnOrdMinus.j0 k t1563 t1564 t1569 t1570 (t1570 != t1574)) else(laws_FnOrdMinus.j0 k t1563 t1564 t1569 t1570 true)))=some r:=H
  have A5:=Sd.mk A50
  clear A50
  have HC6:=Sd.mk H
  clear H
  go_enter Try.func11,Try.ntmps11
  go_upto_region 6 with (first|((with_reducible refine gate_callee (f:=39) rfl ?_);refine goesL_ (some 16) rfl rfl Try.func39 (by kernel_rfl) rfl #[.slice A0 l0.length c0] rfl az ?_;(with_reducible refine(spec_DrawOrdMinus.calls k _ _ l0 t1563 t1564 _ ?side1 ?side2 A3.out).mono ?_);(case side1=>exact Kd.Cz HR0.out);(case side2=>exact HC0.out);rintro e w7 ⟨v1565,v1567,rfl,ho0,ho1,hb⟩;refine⟨_,rfl,?_⟩;have HO1566:=Sd.mk (Kd.R_lower ho0 (below_size bz));have HO1568:=Sd.mk (Kd.R_lower ho1 (below_size bz));replace HB:=Sd.mk (below_step bz hb);(try clear hb);(try clear hb2);(try clear hk);(try clear hi);(try clear ho0);(try clear ho1);obtain⟨Ao8,co8,eo8⟩:=Kd.R_slice HO1566.out;subst eo8;obtain⟨Ao9,co9,eo9⟩:=Kd.R_slice HO1568.out;subst eo9)|((with_reducible refine gate_callee (f:=22) rfl ?_);refine goesL_ (some 22) rfl rfl Try.func22 (by kernel_rfl) rfl #[.slice Ao8 t1563.length co8,.slice Ao9 t1564.length co9] rfl az ?_;(with_reducible refine(impl_OrdMinus.calls k _ _ t1563 _ _ t1564 t1569 t1570 _ ?side1 ?side2 ?side3 ?side4 A4.out).mono ?_);(case side1=>exact Kd.Cz (Kd.R_reads' HO1566.out).2.2);(case side2=>exact(Kd.R_reads' HO1566.out).2.1);(case side3=>exact Kd.Cz (Kd.R_reads' HO1568.out).2.2);(case side4=>exact(Kd.R_reads' HO1568.out).2.1);rintro e w10 ⟨v1571,rfl,ho0,hb⟩;refine⟨_,rfl,?_⟩;have HO1572:=Sd.mk (Kd.R_lower (Kd.R_new' (Kd.R_new' ho0 (Kd.R_lt (Kd.Rz HO1566.out))) (Kd.R_lt (Kd.Rz HO1568.out))) (below_size bz));replace HO1566:=Sd.mk (Kd.R_elder' (Kd.Rz HO1566.out) (Kd.R_base ho0) hb);replace HO1568:=Sd.mk (Kd.R_elder' (Kd.Rz HO1568.out) (Kd.R_base ho0) hb);replace HB:=Sd.mk (below_step bz hb);(try clear hb);(try clear hb2);(try clear hk);(try clear hi);(try clear ho0))|((with_reducible refine gate_callee (f:=21) rfl ?_);refine goesL_ (some 28) rfl rfl Try.func21 (by kernel_rfl) rfl #[.slice Ao8 t1563.length co8,.slice Ao9 t1564.length co9] rfl az ?_;(with_reducible refine(spec_OrdMinus.calls k _ _ t1563 _ _ t1564 t1573 t1574 _ ?side1 ?side2 ?side3 ?side4 A5.out).mono ?_);(case side1=>exact Kd.Cz (Kd.R_reads' HO1566.out).2.2);(case side2=>exact(Kd.R_reads' HO1566.out).2.1);(case side3=>exact Kd.Cz (Kd.R_reads' HO1568.out).2.2);(case side4=>exact(Kd.R_reads' HO1568.out).2.1);rintro e w11 ⟨v1575,rfl,ho0,hb⟩;refine⟨_,rfl,?_⟩;have HO1576:=Sd.mk (Kd.R_lower (Kd.R_new' (Kd.R_new' (Kd.R_new' ho0 (Kd.R_lt (Kd.Rz HO1566.out))) (Kd.R_lt (Kd.Rz HO1568.out))) (Kd.R_lt (Kd.Rz HO1572.out))) (below_size bz));replace HO1566:=Sd.mk (Kd.R_elder' (Kd.Rz HO1566.out) (Kd.R_base ho0) hb);replace HO1568:=Sd.mk (Kd.R_elder' (Kd.Rz HO1568.out) (Kd.R_base ho0) hb);replace HO1572:=Sd.mk (Kd.R_elder' (Kd.Rz HO1572.out) (Kd.R_base ho0) hb);replace HB:=Sd.mk (below_step bz hb);(try clear hb);(try clear hb2);(try clear hk);(try clear hi);(try clear ho0)))
  (try simp only[Act.put,List.setIfInBounds_toArray,List.set_cons_zero,List.set_cons_succ])
  go_cut [39] (fun v39 wc=>∃ (kq:Nat) (x39_5:Bool),v39=.bool x39_5∧Sd (laws_FnOrdMinus.j0 kq t1563 t1564 t1569 t1570 x39_5=some r)∧Sd (kq≤k)∧Sd (Kd.R (Kd.int .i64) 3 wc w.heap.size (fun k_=>some k_≠((.slice Ao9 t1564.length co9):Value).ownBlock∧some k_≠(v1571:Value).ownBlock) (.slice Ao8 t1563.length co8) t1563)∧Sd (Kd.R (Kd.int .i64) 3 wc w.heap.size (fun k_=>some k_≠((.slice Ao8 t1563.length co8):Value).ownBlock∧some k_≠(v1571:Value).ownBlock) (.slice Ao9 t1564.length co9) t1564)∧Sd (Kd.R (Kd.int .i64) 3 wc w.heap.size (fun k_=>some k_≠((.slice Ao8 t1563.length co8):Value).ownBlock∧some k_≠((.slice Ao9 t1564.length co9):Value).ownBlock) v1571 t1569)∧Sd (Below w.heap.size w wc))
  case first =>
   have H:=HC6.out
   clear HC6
   replace H:=Option.bind_eq_some_iff.mp H
   obtain⟨t1577,A120,H⟩:=H
   replace H:(if t1577=true then(laws_FnOrdMinus.j0 k t1563 t1564 t1569 t1570 (t1570 != t1574)) else(laws_FnOrdMinus.j0 k t1563 t1564 t1569 t1570 true))=some r:=H
   have A12:=Sd.mk A120
   clear A120
   by_cases c13:t1577=true
   ·subst c13
    have H1:(laws_FnOrdMinus.j0 k t1563 t1564 t1569 t1570 (t1570 != t1574))=some r:=by rw[if_pos rfl] at H;exact H
    clear H
    have H:=H1
    clear H1
    have H':=Sd.mk H
    clear H
    obtain⟨Ao14,co14,eo14⟩:=Kd.R_slice HO1572.out
    subst eo14
    obtain⟨Ao15,co15,eo15⟩:=Kd.R_slice HO1576.out
    subst eo15
    go_wp2_with (first|((with_reducible refine gate_callee (f:=32) rfl ?_);refine goesL_ (some 33) rfl rfl Try.func32 (by kernel_rfl) rfl #[.slice Ao14 t1569.length co14,.slice Ao15 t1573.length co15] rfl az ?_;(with_reducible refine(laws_sameInts.calls k _ _ t1569 _ _ t1573 true _ ?side1 ?side2 ?side3 ?side4 A12.out).mono ?_);(case side1=>exact Kd.Cz (Kd.R_reads' HO1572.out).2.2);(case side2=>exact(Kd.R_reads' HO1572.out).2.1);(case side3=>exact Kd.Cz (Kd.R_reads' HO1576.out).2.2);(case side4=>exact(Kd.R_reads' HO1576.out).2.1);rintro e w' ⟨rfl,⟨nd,rfl⟩⟩;refine⟨_,rfl,?_⟩))
    go_meet
    case rel=>exact⟨_,((t1570 != t1574)),(by first|rfl|(simp;done)|(simp[*];done)),H',⟨by first|omega|exact Nat.le_refl _⟩,⟨Kd.Rz <| Kd.R_mono HO1566.out (fun _ hk=>⟨hk.1.1,hk.1.2⟩)⟩,⟨Kd.Rz <| Kd.R_mono HO1568.out (fun _ hk=>⟨hk.1.1,hk.1.2⟩)⟩,⟨Kd.Rz <| Kd.R_mono HO1572.out (fun _ hk=>⟨hk.1.1.2,hk.1.2⟩)⟩,⟨bz⟩⟩
   ·replace c13:=Bool.eq_false_iff.mpr c13
    subst c13
    have H1:(laws_FnOrdMinus.j0 k t1563 t1564 t1569 t1570 true)=some r:=by rw[if_neg (show ¬ (false=true) by decide)] at H;exact H
    clear H
    have H:=H1
    clear H1
    have H':=Sd.mk H
    clear H
    obtain⟨Ao16,co16,eo16⟩:=Kd.R_slice HO1572.out
    subst eo16
    obtain⟨Ao17,co17,eo17⟩:=Kd.R_slice HO1576.out
    subst eo17
    go_wp2_with (first|((with_reducible refine gate_callee (f:=32) rfl ?_);refine goesL_ (some 33) rfl rfl Try.func32 (by kernel_rfl) rfl #[.slice Ao16 t1569.length co16,.slice Ao17 t1573.length co17] rfl az ?_;(with_reducible refine(laws_sameInts.calls k _ _ t1569 _ _ t1573 false _ ?side1 ?side2 ?side3 ?side4 A12.out).mono ?_);(case side1=>exact Kd.Cz (Kd.R_reads' HO1572.out).2.2);(case side2=>exact(Kd.R_reads' HO1572.out).2.1);(case side3=>exact Kd.Cz (Kd.R_reads' HO1576.out).2.2);(case side4=>exact(Kd.R_reads' HO1576.out).2.1);rintro e w' ⟨rfl,⟨nd,rfl⟩⟩;refine⟨_,rfl,?_⟩))
    go_meet
    case rel=>exact⟨_,(true),(by first|rfl|(simp;done)|(simp[*];done)),H',⟨by first|omega|exact Nat.le_refl _⟩,⟨Kd.Rz <| Kd.R_mono HO1566.out (fun _ hk=>⟨hk.1.1,hk.1.2⟩)⟩,⟨Kd.Rz <| Kd.R_mono HO1568.out (fun _ hk=>⟨hk.1.1,hk.1.2⟩)⟩,⟨Kd.Rz <| Kd.R_mono HO1572.out (fun _ hk=>⟨hk.1.1.2,hk.1.2⟩)⟩,⟨bz⟩⟩
  case rest =>
   clear HC6
   try clear c1
   try clear c2
   try clear c2b0
   try clear c2b1
   try clear p2
   try clear c3
   try clear c11
   try clear c13
   obtain⟨kq,x39_5,rfl,HA,HJ5,HO_3,HO_4,HO_5,HB⟩:=hcut
   cases kq with
   | zero=>exact absurd HA.out (by simp[laws_FnOrdMinus.j0])
   | succ kj5 =>
    have H:=HA.out
    clear HA
    simp only[laws_FnOrdMinus.j0] at H
    by_cases c18:x39_5=true
    ·subst c18
     have H1:(some false)=some r:=by rw[if_pos rfl] at H;exact H
     clear H
     have H:=H1
     clear H1
     obtain rfl:=Option.some.inj H
     go_wp2
     go_ret
     exact⟨by first|rfl|(simp[errW_none,errW_some]<;>rfl)|(simp[*,errW_none,errW_some]<;>rfl),bz⟩
    ·replace c18:=Bool.eq_false_iff.mpr c18
     subst c18
     have H1:(if t1570=true then((impl_OrdAdd.f kj5 t1564 t1569).bind fun bt1580=>((impl_OrdValid.f kj5 t1569).bind fun t1584=>(if t1584=true then(if bt1580.2=true then((laws_sameInts.f kj5 bt1580.1 t1563).bind fun t1585=>(if t1585=true then((impl_OrdCompare.f kj5 t1563 t1564).bind fun t1586=>(some (decide (t1586≥0)))) else(some false))) else(some false)) else(some false)))) else(if(t1569.length:Int)=0 then((impl_OrdCompare.f kj5 t1563 t1564).bind fun t1578=>(if t1578<0 then((laws_alive.f kj5).bind fun t1579=>(some t1579)) else(some false))) else(some false)))=some r:=by rw[if_neg (show ¬ (false=true) by decide)] at H;exact H
     clear H
     have H:=H1
     clear H1
     by_cases c19:t1570=true
     ·subst c19
      have H1:((impl_OrdAdd.f kj5 t1564 t1569).bind fun bt1580=>((impl_OrdValid.f kj5 t1569).bind fun t1584=>(if t1584=true then(if bt1580.2=true then((laws_sameInts.f kj5 bt1580.1 t1563).bind fun t1585=>(if t1585=true then((impl_OrdCompare.f kj5 t1563 t1564).bind fun t1586=>(some (decide (t1586≥0)))) else(some false))) else(some false)) else(some false))))=some r:=by rw[if_pos rfl] at H;exact H
      clear H
      have H:=H1
      clear H1
      replace H:=Option.bind_eq_some_iff.mp H
      obtain⟨⟨t1580,t1581⟩,A200,H⟩:=H
      replace H:((impl_OrdValid.f kj5 t1569).bind fun t1584=>(if t1584=true then(if t1581=true then((laws_sameInts.f kj5 t1580 t1563).bind fun t1585=>(if t1585=true then((impl_OrdCompare.f kj5 t1563 t1564).bind fun t1586=>(some (decide (t1586≥0)))) else(some false))) else(some false)) else(some false)))=some r:=H
      have A20:=Sd.mk A200
      clear A200
      replace H:=Option.bind_eq_some_iff.mp H
      obtain⟨t1584,A210,H⟩:=H
      replace H:(if t1584=true then(if t1581=true then((laws_sameInts.f kj5 t1580 t1563).bind fun t1585=>(if t1585=true then((impl_OrdCompare.f kj5 t1563 t1564).bind fun t1586=>(some (decide (t1586≥0)))) else(some false))) else(some false)) else(some false))=some r:=H
      have A21:=Sd.mk A210
      clear A210
      by_cases c22:t1584=true
      ·subst c22
       have H1:(if t1581=true then((laws_sameInts.f kj5 t1580 t1563).bind fun t1585=>(if t1585=true then((impl_OrdCompare.f kj5 t1563 t1564).bind fun t1586=>(some (decide (t1586≥0)))) else(some false))) else(some false))=some r:=by rw[if_pos rfl] at H;exact H
       clear H
       have H:=H1
       clear H1
       by_cases c23:t1581=true
       ·subst c23
        have H1:((laws_sameInts.f kj5 t1580 t1563).bind fun t1585=>(if t1585=true then((impl_OrdCompare.f kj5 t1563 t1564).bind fun t1586=>(some (decide (t1586≥0)))) else(some false)))=some r:=by rw[if_pos rfl] at H;exact H
        clear H
        have H:=H1
        clear H1
        replace H:=Option.bind_eq_some_iff.mp H
        obtain⟨t1585,A240,H⟩:=H
        replace H:(if t1585=true then((impl_OrdCompare.f kj5 t1563 t1564).bind fun t1586=>(some (decide (t1586≥0)))) else(some false))=some r:=H
        have A24:=Sd.mk A240
        clear A240
        by_cases c25:t1585=true
        ·subst c25
         have H1:((impl_OrdCompare.f kj5 t1563 t1564).bind fun t1586=>(some (decide (t1586≥0))))=some r:=by rw[if_pos rfl] at H;exact H
         clear H
         have H:=H1
         clear H1
         replace H:=Option.bind_eq_some_iff.mp H
         obtain⟨t1586,A260,H⟩:=H
         replace H:(some (decide (t1586≥0)))=some r:=H
         have A26:=Sd.mk A260
         clear A260
         obtain rfl:=Option.some.inj H
         obtain⟨Ao27,co27,eo27⟩:=Kd.R_slice HO_5.out
         subst eo27
         go_wp2_with (first|((with_reducible refine gate_callee (f:=17) rfl ?_);refine goesL_ (some 57) rfl rfl Try.func17 (by kernel_rfl) rfl #[.slice Ao9 t1564.length co9,.slice Ao27 t1569.length co27] rfl az ?_;(with_reducible refine(impl_OrdAdd.calls kj5 _ _ t1564 _ _ t1569 t1580 true _ ?side1 ?side2 ?side3 ?side4 A20.out).mono ?_);(case side1=>exact Kd.Cz (Kd.R_reads' HO_4.out).2.2);(case side2=>exact(Kd.R_reads' HO_4.out).2.1);(case side3=>exact Kd.Cz (Kd.R_reads' HO_5.out).2.2);(case side4=>exact(Kd.R_reads' HO_5.out).2.1);rintro e w28 ⟨v1582,rfl,ho0,hb⟩;refine⟨_,rfl,?_⟩;have HO1583:=Sd.mk (Kd.R_lower (Kd.R_new' (Kd.R_new' (Kd.R_new' ho0 (Kd.R_lt (Kd.Rz HO_3.out))) (Kd.R_lt (Kd.Rz HO_4.out))) (Kd.R_lt (Kd.Rz HO_5.out))) (below_size bz));replace HO_3:=Sd.mk (Kd.R_elder' (Kd.Rz HO_3.out) (Kd.R_base ho0) hb);replace HO_4:=Sd.mk (Kd.R_elder' (Kd.Rz HO_4.out) (Kd.R_base ho0) hb);replace HO_5:=Sd.mk (Kd.R_elder' (Kd.Rz HO_5.out) (Kd.R_base ho0) hb);replace HB:=Sd.mk (below_step bz hb);(try clear hb);(try clear hb2);(try clear hk);(try clear hi);(try clear ho0))|((with_reducible refine gate_callee (f:=36) rfl ?_);refine goesL_ (some 61) rfl rfl Try.func36 (by kernel_rfl) rfl #[.slice Ao27 t1569.length co27] rfl az ?_;(with_reducible refine(impl_OrdValid.calls kj5 _ _ t1569 true _ ?side1 ?side2 A21.out).mono ?_);(case side1=>exact Kd.Cz (Kd.R_reads' HO_5.out).2.2);(case side2=>exact(Kd.R_reads' HO_5.out).2.1);rintro e w29 ⟨rfl,hb⟩;refine⟨_,rfl,?_⟩;replace HO_3:=Sd.mk (Kd.R_below (Kd.Rz HO_3.out) hb);replace HO_4:=Sd.mk (Kd.R_below (Kd.Rz HO_4.out) hb);replace HO_5:=Sd.mk (Kd.R_below (Kd.Rz HO_5.out) hb);replace HO1583:=Sd.mk (Kd.R_below (Kd.Rz HO1583.out) hb);replace HB:=Sd.mk (below_step bz hb);(try clear hb);(try clear hb2);(try clear hk);(try clear hi);obtain⟨Ao30,co30,eo30⟩:=Kd.R_slice HO1583.out;subst eo30)|(go_at_call 32;(with_reducible refine(laws_sameInts.calls kj5 _ _ t1580 _ _ t1563 true _ ?side1 ?side2 ?side3 ?side4 A24.out).mono ?_);(case side1=>exact Kd.Cz (Kd.R_reads' HO1583.out).2.2);(case side2=>exact(Kd.R_reads' HO1583.out).2.1);(case side3=>exact Kd.Cz (Kd.R_reads' HO_3.out).2.2);(case side4=>exact(Kd.R_reads' HO_3.out).2.1);rintro e w' ⟨rfl,⟨nd,rfl⟩⟩)|(go_at_call 35;(with_reducible refine(impl_OrdCompare.calls kj5 _ _ t1563 _ _ t1564 t1586 _ ?side1 ?side2 ?side3 ?side4 A26.out).mono ?_);(case side1=>exact Kd.Cz (Kd.R_reads' HO_3.out).2.2);(case side2=>exact(Kd.R_reads' HO_3.out).2.1);(case side3=>exact Kd.Cz (Kd.R_reads' HO_4.out).2.2);(case side4=>exact(Kd.R_reads' HO_4.out).2.1);rintro e w31 ⟨rfl,hb⟩;replace HO_3:=Sd.mk (Kd.R_below (Kd.Rz HO_3.out) hb);replace HO_4:=Sd.mk (Kd.R_below (Kd.Rz HO_4.out) hb);replace HO_5:=Sd.mk (Kd.R_below (Kd.Rz HO_5.out) hb);replace HO1583:=Sd.mk (Kd.R_below (Kd.Rz HO1583.out) hb);replace HB:=Sd.mk (below_step bz hb);(try clear hb);(try clear hb2);(try clear hk);(try clear hi)))
         go_ret
         exact⟨by first|rfl|(simp[errW_none,errW_some]<;>rfl)|(simp[*,errW_none,errW_some]<;>rfl),bz⟩
        ·replace c25:=Bool.eq_false_iff.mpr c25
         subst c25
         have H1:(some false)=some r:=by rw[if_neg (show ¬ (false=true) by decide)] at H;exact H
         clear H
         have H:=H1
         clear H1
         obtain rfl:=Option.some.inj H
         obtain⟨Ao32,co32,eo32⟩:=Kd.R_slice HO_5.out
         subst eo32
         go_wp2_with (first|((with_reducible refine gate_callee (f:=17) rfl ?_);refine goesL_ (some 57) rfl rfl Try.func17 (by kernel_rfl) rfl #[.slice Ao9 t1564.length co9,.slice Ao32 t1569.length co32] rfl az ?_;(with_reducible refine(impl_OrdAdd.calls kj5 _ _ t1564 _ _ t1569 t1580 true _ ?side1 ?side2 ?side3 ?side4 A20.out).mono ?_);(case side1=>exact Kd.Cz (Kd.R_reads' HO_4.out).2.2);(case side2=>exact(Kd.R_reads' HO_4.out).2.1);(case side3=>exact Kd.Cz (Kd.R_reads' HO_5.out).2.2);(case side4=>exact(Kd.R_reads' HO_5.out).2.1);rintro e w33 ⟨v1582,rfl,ho0,hb⟩;refine⟨_,rfl,?_⟩;have HO1583:=Sd.mk (Kd.R_lower (Kd.R_new' (Kd.R_new' (Kd.R_new' ho0 (Kd.R_lt (Kd.Rz HO_3.out))) (Kd.R_lt (Kd.Rz HO_4.out))) (Kd.R_lt (Kd.Rz HO_5.out))) (below_size bz));replace HO_3:=Sd.mk (Kd.R_elder' (Kd.Rz HO_3.out) (Kd.R_base ho0) hb);replace HO_4:=Sd.mk (Kd.R_elder' (Kd.Rz HO_4.out) (Kd.R_base ho0) hb);replace HO_5:=Sd.mk (Kd.R_elder' (Kd.Rz HO_5.out) (Kd.R_base ho0) hb);replace HB:=Sd.mk (below_step bz hb);(try clear hb);(try clear hb2);(try clear hk);(try clear hi);(try clear ho0))|((with_reducible refine gate_callee (f:=36) rfl ?_);refine goesL_ (some 61) rfl rfl Try.func36 (by kernel_rfl) rfl #[.slice Ao32 t1569.length co32] rfl az ?_;(with_reducible refine(impl_OrdValid.calls kj5 _ _ t1569 true _ ?side1 ?side2 A21.out).mono ?_);(case side1=>exact Kd.Cz (Kd.R_reads' HO_5.out).2.2);(case side2=>exact(Kd.R_reads' HO_5.out).2.1);rintro e w34 ⟨rfl,hb⟩;refine⟨_,rfl,?_⟩;replace HO_3:=Sd.mk (Kd.R_below (Kd.Rz HO_3.out) hb);replace HO_4:=Sd.mk (Kd.R_below (Kd.Rz HO_4.out) hb);replace HO_5:=Sd.mk (Kd.R_below (Kd.Rz HO_5.out) hb);replace HO1583:=Sd.mk (Kd.R_below (Kd.Rz HO1583.out) hb);replace HB:=Sd.mk (below_step bz hb);(try clear hb);(try clear hb2);(try clear hk);(try clear hi);obtain⟨Ao35,co35,eo35⟩:=Kd.R_slice HO1583.out;subst eo35)|(go_at_call 32;(with_reducible refine(laws_sameInts.calls kj5 _ _ t1580 _ _ t1563 false _ ?side1 ?side2 ?side3 ?side4 A24.out).mono ?_);(case side1=>exact Kd.Cz (Kd.R_reads' HO1583.out).2.2);(case side2=>exact(Kd.R_reads' HO1583.out).2.1);(case side3=>exact Kd.Cz (Kd.R_reads' HO_3.out).2.2);(case side4=>exact(Kd.R_reads' HO_3.out).2.1);rintro e w' ⟨rfl,⟨nd,rfl⟩⟩))
         go_ret
         exact⟨by first|rfl|(simp[errW_none,errW_some]<;>rfl)|(simp[*,errW_none,errW_some]<;>rfl),bz⟩
       ·replace c23:=Bool.eq_false_iff.mpr c23
        subst c23
        have H1:(some false)=some r:=by rw[if_neg (show ¬ (false=true) by decide)] at H;exact H
        clear H
        have H:=H1
        clear H1
        obtain rfl:=Option.some.inj H
        obtain⟨Ao36,co36,eo36⟩:=Kd.R_slice HO_5.out
        subst eo36
        go_wp2_with (first|((with_reducible refine gate_callee (f:=17) rfl ?_);refine goesL_ (some 57) rfl rfl Try.func17 (by kernel_rfl) rfl #[.slice Ao9 t1564.length co9,.slice Ao36 t1569.length co36] rfl az ?_;(with_reducible refine(impl_OrdAdd.calls kj5 _ _ t1564 _ _ t1569 t1580 false _ ?side1 ?side2 ?side3 ?side4 A20.out).mono ?_);(case side1=>exact Kd.Cz (Kd.R_reads' HO_4.out).2.2);(case side2=>exact(Kd.R_reads' HO_4.out).2.1);(case side3=>exact Kd.Cz (Kd.R_reads' HO_5.out).2.2);(case side4=>exact(Kd.R_reads' HO_5.out).2.1);rintro e w37 ⟨v1582,rfl,ho0,hb⟩;refine⟨_,rfl,?_⟩;have HO1583:=Sd.mk (Kd.R_lower (Kd.R_new' (Kd.R_new' (Kd.R_new' ho0 (Kd.R_lt (Kd.Rz HO_3.out))) (Kd.R_lt (Kd.Rz HO_4.out))) (Kd.R_lt (Kd.Rz HO_5.out))) (below_size bz));replace HO_3:=Sd.mk (Kd.R_elder' (Kd.Rz HO_3.out) (Kd.R_base ho0) hb);replace HO_4:=Sd.mk (Kd.R_elder' (Kd.Rz HO_4.out) (Kd.R_base ho0) hb);replace HO_5:=Sd.mk (Kd.R_elder' (Kd.Rz HO_5.out) (Kd.R_base ho0) hb);replace HB:=Sd.mk (below_step bz hb);(try clear hb);(try clear hb2);(try clear hk);(try clear hi);(try clear ho0))|((with_reducible refine gate_callee (f:=36) rfl ?_);refine goesL_ (some 61) rfl rfl Try.func36 (by kernel_rfl) rfl #[.slice Ao36 t1569.length co36] rfl az ?_;(with_reducible refine(impl_OrdValid.calls kj5 _ _ t1569 true _ ?side1 ?side2 A21.out).mono ?_);(case side1=>exact Kd.Cz (Kd.R_reads' HO_5.out).2.2);(case side2=>exact(Kd.R_reads' HO_5.out).2.1);rintro e w38 ⟨rfl,hb⟩;refine⟨_,rfl,?_⟩;replace HO_3:=Sd.mk (Kd.R_below (Kd.Rz HO_3.out) hb);replace HO_4:=Sd.mk (Kd.R_below (Kd.Rz HO_4.out) hb);replace HO_5:=Sd.mk (Kd.R_below (Kd.Rz HO_5.out) hb);replace HO1583:=Sd.mk (Kd.R_below (Kd.Rz HO1583.out) hb);replace HB:=Sd.mk (below_step bz hb);(try clear hb);(try clear hb2);(try clear hk);(try clear hi)))
        go_ret
        exact⟨by first|rfl|(simp[errW_none,errW_some]<;>rfl)|(simp[*,errW_none,errW_some]<;>rfl),bz⟩
      ·replace c22:=Bool.eq_false_iff.mpr c22
       subst c22
       have H1:(some false)=some r:=by rw[if_neg (show ¬ (false=true) by decide)] at H;exact H
       clear H
       have H:=H1
       clear H1
       obtain rfl:=Option.some.inj H
       obtain⟨Ao39,co39,eo39⟩:=Kd.R_slice HO_5.out
       subst eo39
       go_wp2_with (first|((with_reducible refine gate_callee (f:=17) rfl ?_);refine goesL_ (some 57) rfl rfl Try.func17 (by kernel_rfl) rfl #[.slice Ao9 t1564.length co9,.slice Ao39 t1569.length co39] rfl az ?_;(with_reducible refine(impl_OrdAdd.calls kj5 _ _ t1564 _ _ t1569 t1580 t1581 _ ?side1 ?side2 ?side3 ?side4 A20.out).mono ?_);(case side1=>exact Kd.Cz (Kd.R_reads' HO_4.out).2.2);(case side2=>exact(Kd.R_reads' HO_4.out).2.1);(case side3=>exact Kd.Cz (Kd.R_reads' HO_5.out).2.2);(case side4=>exact(Kd.R_reads' HO_5.out).2.1);rintro e w40 ⟨v1582,rfl,ho0,hb⟩;refine⟨_,rfl,?_⟩;have HO1583:=Sd.mk (Kd.R_lower (Kd.R_new' (Kd.R_new' (Kd.R_new' ho0 (Kd.R_lt (Kd.Rz HO_3.out))) (Kd.R_lt (Kd.Rz HO_4.out))) (Kd.R_lt (Kd.Rz HO_5.out))) (below_size bz));replace HO_3:=Sd.mk (Kd.R_elder' (Kd.Rz HO_3.out) (Kd.R_base ho0) hb);replace HO_4:=Sd.mk (Kd.R_elder' (Kd.Rz HO_4.out) (Kd.R_base ho0) hb);replace HO_5:=Sd.mk (Kd.R_elder' (Kd.Rz HO_5.out) (Kd.R_base ho0) hb);replace HB:=Sd.mk (below_step bz hb);(try clear hb);(try clear hb2);(try clear hk);(try clear hi);(try clear ho0))|((with_reducible refine gate_callee (f:=36) rfl ?_);refine goesL_ (some 61) rfl rfl Try.func36 (by kernel_rfl) rfl #[.slice Ao39 t1569.length co39] rfl az ?_;(with_reducible refine(impl_OrdValid.calls kj5 _ _ t1569 false _ ?side1 ?side2 A21.out).mono ?_);(case side1=>exact Kd.Cz (Kd.R_reads' HO_5.out).2.2);(case side2=>exact(Kd.R_reads' HO_5.out).2.1);rintro e w41 ⟨rfl,hb⟩;refine⟨_,rfl,?_⟩;replace HO_3:=Sd.mk (Kd.R_below (Kd.Rz HO_3.out) hb);replace HO_4:=Sd.mk (Kd.R_below (Kd.Rz HO_4.out) hb);replace HO_5:=Sd.mk (Kd.R_below (Kd.Rz HO_5.out) hb);replace HO1583:=Sd.mk (Kd.R_below (Kd.Rz HO1583.out) hb);replace HB:=Sd.mk (below_step bz hb);(try clear hb);(try clear hb2);(try clear hk);(try clear hi)))
       go_ret
       exact⟨by first|rfl|(simp[errW_none,errW_some]<;>rfl)|(simp[*,errW_none,errW_some]<;>rfl),bz⟩
     ·replace c19:=Bool.eq_false_iff.mpr c19
      subst c19
      have H1:(if(t1569.length:Int)=0 then((impl_OrdCompare.f kj5 t1563 t1564).bind fun t1578=>(if t1578<0 then((laws_alive.f kj5).bind fun t1579=>(some t1579)) else(some false))) else(some false))=some r:=by rw[if_neg (show ¬ (false=true) by decide)] at H;exact H
      clear H
      have H:=H1
      clear H1
      by_cases c42:(t1569.length:Int)=0
      ·rw[if_pos c42] at H
       have c42b0:((t1569.length:Int) == 0)=true:=beq_iff_eq.mpr c42
       have c42b1:((t1569.length:Int) != 0)=false:=bne_eq_false_iff_eq.mpr c42
       clear c42
       replace H:=Option.bind_eq_some_iff.mp H
       obtain⟨t1578,A430,H⟩:=H
       replace H:(if t1578<0 then((laws_alive.f kj5).bind fun t1579=>(some t1579)) else(some false))=some r:=H
       have A43:=Sd.mk A430
       clear A430
       by_cases c44:t1578<0
       ·rw[if_pos c44] at H
        have c44b0:decide (t1578<0)=true:=decide_eq_true c44
        clear c44
        replace H:=Option.bind_eq_some_iff.mp H
        obtain⟨t1579,A450,H⟩:=H
        replace H:(some t1579)=some r:=H
        have A45:=Sd.mk A450
        clear A450
        obtain rfl:=Option.some.inj H
        obtain⟨Ao46,co46,eo46⟩:=Kd.R_slice HO_5.out
        subst eo46
        go_wp2_with (first|(go_at_call 35;(with_reducible refine(impl_OrdCompare.calls kj5 _ _ t1563 _ _ t1564 t1578 _ ?side1 ?side2 ?side3 ?side4 A43.out).mono ?_);(case side1=>exact Kd.Cz (Kd.R_reads' HO_3.out).2.2);(case side2=>exact(Kd.R_reads' HO_3.out).2.1);(case side3=>exact Kd.Cz (Kd.R_reads' HO_4.out).2.2);(case side4=>exact(Kd.R_reads' HO_4.out).2.1);rintro e w47 ⟨rfl,hb⟩;replace HO_3:=Sd.mk (Kd.R_below (Kd.Rz HO_3.out) hb);replace HO_4:=Sd.mk (Kd.R_below (Kd.Rz HO_4.out) hb);replace HO_5:=Sd.mk (Kd.R_below (Kd.Rz HO_5.out) hb);replace HB:=Sd.mk (below_step bz hb);(try clear hb);(try clear hb2);(try clear hk);(try clear hi))|(go_at_call 33;(with_reducible refine(laws_alive.calls kj5  t1579 _ A45.out).mono ?_);rintro e w48 ⟨rfl,hb⟩;replace HO_3:=Sd.mk (Kd.R_below (Kd.Rz HO_3.out) hb);replace HO_4:=Sd.mk (Kd.R_below (Kd.Rz HO_4.out) hb);replace HO_5:=Sd.mk (Kd.R_below (Kd.Rz HO_5.out) hb);replace HB:=Sd.mk (below_step bz hb);(try clear hb);(try clear hb2);(try clear hk);(try clear hi)))
        go_ret
        exact⟨by first|rfl|(simp[errW_none,errW_some]<;>rfl)|(simp[*,errW_none,errW_some]<;>rfl),bz⟩
       ·rw[if_neg c44] at H
        have c44b0:decide (t1578<0)=false:=decide_eq_false c44
        clear c44
        obtain rfl:=Option.some.inj H
        obtain⟨Ao49,co49,eo49⟩:=Kd.R_slice HO_5.out
        subst eo49
        go_wp2_with (first|(go_at_call 35;(with_reducible refine(impl_OrdCompare.calls kj5 _ _ t1563 _ _ t1564 t1578 _ ?side1 ?side2 ?side3 ?side4 A43.out).mono ?_);(case side1=>exact Kd.Cz (Kd.R_reads' HO_3.out).2.2);(case side2=>exact(Kd.R_reads' HO_3.out).2.1);(case side3=>exact Kd.Cz (Kd.R_reads' HO_4.out).2.2);(case side4=>exact(Kd.R_reads' HO_4.out).2.1);rintro e w50 ⟨rfl,hb⟩;replace HO_3:=Sd.mk (Kd.R_below (Kd.Rz HO_3.out) hb);replace HO_4:=Sd.mk (Kd.R_below (Kd.Rz HO_4.out) hb);replace HO_5:=Sd.mk (Kd.R_below (Kd.Rz HO_5.out) hb);replace HB:=Sd.mk (below_step bz hb);(try clear hb);(try clear hb2);(try clear hk);(try clear hi)))
        go_ret
        exact⟨by first|rfl|(simp[errW_none,errW_some]<;>rfl)|(simp[*,errW_none,errW_some]<;>rfl),bz⟩
      ·rw[if_neg c42] at H
       have c42b0:((t1569.length:Int) == 0)=false:=beq_eq_false_iff_ne.mpr c42
       have c42b1:((t1569.length:Int) != 0)=true:=bne_iff_ne.mpr c42
       have c42b2:¬ (t1569=[]):=fun h_=>c42 (by rw[h_];rfl)
       obtain rfl:=Option.some.inj H
       obtain⟨Ao51,co51,eo51⟩:=Kd.R_slice HO_5.out
       subst eo51
       go_wp2
       go_ret
       exact⟨by first|rfl|(simp[errW_none,errW_some]<;>rfl)|(simp[*,errW_none,errW_some]<;>rfl),bz⟩
/-- THE ONE PURE STATEMENT of laws_FnOrdMinus: yours. -/
def laws_FnOrdMinus.Pure:Prop:=∀ (l0:List Int),l0.length≤maxLen→l0.length*1≤140737488351232→(∀ x ∈ l0,(Lit.int .u8 x).wf=true)→∃ k,laws_FnOrdMinus.f k l0=some true
theorem laws_FnOrdMinus.walk (P:laws_FnOrdMinus.Pure)(a0:Option Addr)(len0 cap0:Nat)(z0:List Int)(w:World)(w0:(a0=none∧len0=0∧cap0=0∧z0=[])∨∃ x,a0=some x∧len0≤cap0∧cap0≤maxLen∧z0.length=cap0∧(∀ i,i<z0.length→w.cell? (x.add i)=some (.int .u8 (z0.getD i 0)))∧∀ n ∈ z0,(Lit.int .u8 n).wf=true)(y0:len0*1≤140737488351232) :
  Calls Try.prog 11 #[.slice a0 len0 cap0] w fun e w'=>e=.returned (.bool true)∧Below w.heap.size w w':=by
 obtain⟨l0,rfl,hr0,hm0,hw0,hc0⟩:=ReadsInt.ofRowC w0
 obtain⟨k,h⟩:=P l0 hm0 y0 hw0
 refine(laws_FnOrdMinus.calls k _ _ l0 true w (Kd.C_of_reads (d:=(0:Int)) (h1:=fun _=>rfl) hr0) hc0 h).mono ?_
 rintro e w' ⟨rfl,hd⟩
 exact⟨rfl,hd⟩
end Go.Proofs.Ytfblcanijhnhmaa.P