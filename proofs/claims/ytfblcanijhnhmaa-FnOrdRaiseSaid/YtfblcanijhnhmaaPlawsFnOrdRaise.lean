/- One Go function comes to what its Lean function tells. -/
import Derived.Test.YtfblcanijhnhmaaP0
import Derived.Test.YtfblcanijhnhmaaPimplOrdRaise
import Derived.Test.YtfblcanijhnhmaaPimplOrdTimes
import Derived.Test.YtfblcanijhnhmaaPimplOrdValid
import Derived.Test.YtfblcanijhnhmaaPlawsalive
import Derived.Test.YtfblcanijhnhmaaPlawssameInts
import Derived.Test.YtfblcanijhnhmaaPspecDrawOrdRaise
import Derived.Test.YtfblcanijhnhmaaPspecOrdRaise
namespace Go.Proofs.Ytfblcanijhnhmaa.P
open Go.RowKit YtfblcanijhnhmaaW.PrintWords YtfblcanijhnhmaaW.PrintLast YtfblcanijhnhmaaW.PrintMore
set_option linter.unusedVariables false
set_option linter.unusedSimpArgs false
/-! ### laws_FnOrdRaise: function 14 -/
def laws_FnOrdRaise.j0:Nat→List Int→Int→List Int→Bool→Bool→Option (Bool)
 | 0,_,_,_,_,_=>none
 | k+1,x3,x4,x5,x6,x43=>if x43=true then(some false) else(if x6=true then((impl_OrdRaise.f k x3 (wrap64 (x4+1))).bind fun bt1699=>((impl_OrdTimes.f k x5 x3).bind fun bt1703=>((impl_OrdRaise.f k x3 1).bind fun bt1707=>((impl_OrdValid.f k x5).bind fun t1711=>(if t1711=true then(if bt1707.2=true then((laws_sameInts.f k bt1707.1 x3).bind fun t1712=>(if t1712=true then(if bt1699.2=true then(if bt1703.2=true then((laws_sameInts.f k bt1703.1 bt1699.1).bind fun t1713=>(some t1713)) else(some false)) else(some true)) else(some false))) else(some false)) else(some false)))))) else(if(x5.length:Int)=0 then((laws_alive.f k).bind fun t1698=>(some t1698)) else(some false)))
def laws_FnOrdRaise.f (k:Nat)(l0:List Int):Option (Bool):=if(l0.length:Int)>1048576 then(some true) else((spec_DrawOrdRaise.f k l0).bind fun bt1685=>((impl_OrdRaise.f k bt1685.1 bt1685.2).bind fun bt1689=>((spec_OrdRaise.f k bt1685.1 bt1685.2).bind fun bt1693=>((laws_sameInts.f k bt1689.1 bt1693.1).bind fun t1697=>(if t1697=true then(laws_FnOrdRaise.j0 k bt1685.1 bt1685.2 bt1689.1 bt1689.2 (bt1689.2 != bt1693.2)) else(laws_FnOrdRaise.j0 k bt1685.1 bt1685.2 bt1689.1 bt1689.2 true))))))
theorem laws_FnOrdRaise.mono_l:∀ k,(∀ y0 y1 y2 y3 y4,LeO (laws_FnOrdRaise.j0 k y0 y1 y2 y3 y4) (laws_FnOrdRaise.j0 (k+1) y0 y1 y2 y3 y4))
 | 0=>fun _ _ _ _ _ r h=>by simp[laws_FnOrdRaise.j0] at h
 | k+1=>by
  have ih0:=laws_FnOrdRaise.mono_l k
  ·intro y0 y1 y2 y3 y4
   unfold laws_FnOrdRaise.j0
   repeat' first|(with_reducible first|exact ih0 _ _ _ _ _|exact impl_OrdRaise.mono _ _ _|exact impl_OrdTimes.mono _ _ _|exact impl_OrdValid.mono _ _|exact laws_alive.mono _|exact laws_sameInts.mono _ _ _|exact LeO.refl _|exact LeO.none _|refine LeO.ite ?_ ?_|refine LeO.bind ?_ (fun _=>?_))|exact ih0 _ _ _ _ _|exact impl_OrdRaise.mono _ _ _|exact impl_OrdTimes.mono _ _ _|exact impl_OrdValid.mono _ _|exact laws_alive.mono _|exact laws_sameInts.mono _ _ _|exact LeO.none _|refine LeO.ite ?_ ?_|refine LeO.bind ?_ (fun _=>?_)
theorem laws_FnOrdRaise.mono:∀ a0 k,LeO (laws_FnOrdRaise.f k a0) (laws_FnOrdRaise.f (k+1) a0):=by
 intro a0 k
 have ih0:=laws_FnOrdRaise.mono_l k
 unfold laws_FnOrdRaise.f
 repeat' first|(with_reducible first|exact ih0 _ _ _ _ _|exact impl_OrdRaise.mono _ _ _|exact laws_sameInts.mono _ _ _|exact spec_DrawOrdRaise.mono _ _|exact spec_OrdRaise.mono _ _ _|exact LeO.refl _|exact LeO.none _|refine LeO.ite ?_ ?_|refine LeO.bind ?_ (fun _=>?_))|exact ih0 _ _ _ _ _|exact impl_OrdRaise.mono _ _ _|exact laws_sameInts.mono _ _ _|exact spec_DrawOrdRaise.mono _ _|exact spec_OrdRaise.mono _ _ _|exact LeO.none _|refine LeO.ite ?_ ?_|refine LeO.bind ?_ (fun _=>?_)
set_option maxHeartbeats 8000000 in
set_option maxRecDepth 100000 in
theorem laws_FnOrdRaise.calls (k:Nat)(A0:Option Addr)(c0:Nat)(l0:List Int)(r:Bool)(w:World)(hr0:Kd.C (Kd.int .u8) w A0 l0.length l0)(hc0:l0.length≤c0)(h:laws_FnOrdRaise.f k l0=some r) :
  Calls Try.prog 14 #[.slice A0 l0.length c0] w fun e w'=>e=.returned (.bool r)∧Below w.heap.size w w':=by
 have HR0:=Aside0.mk hr0
 have HC0:=Aside0.mk hc0
 clear hr0 hc0
 have HB:=Aside0.mk (Below.refl w.heap.size w)
 have H:(if(l0.length:Int)>1048576 then(some true) else((spec_DrawOrdRaise.f k l0).bind fun bt1685=>((impl_OrdRaise.f k bt1685.1 bt1685.2).bind fun bt1689=>((spec_OrdRaise.f k bt1685.1 bt1685.2).bind fun bt1693=>((laws_sameInts.f k bt1689.1 bt1693.1).bind fun t1697=>(if t1697=true then(laws_FnOrdRaise.j0 k bt1685.1 bt1685.2 bt1689.1 bt1689.2 (bt1689.2 != bt1693.2)) else(laws_FnOrdRaise.j0 k bt1685.1 bt1685.2 bt1689.1 bt1689.2 true)))))))=some r:=h
 clear h
 by_cases c2:(l0.length:Int)>1048576
 ·rw[if_pos c2] at H
  have c2b0:decide (1048576<(l0.length:Int))=true:=decide_eq_true c2
  have c2b1:decide (1048576<l0.length)=true:=decide_eq_true (by omega)
  clear c2
  obtain rfl:=Option.some.inj H
  go_enter Try.func14,Try.ntmps14
  go_wp2
  go_ret
  exact⟨by first|rfl|(simp[errW_none,errW_some]<;>rfl)|(simp[*,errW_none,errW_some]<;>rfl),bz⟩
 ·rw[if_neg c2] at H
  have c2b0:decide (1048576<(l0.length:Int))=false:=decide_eq_false c2
  have c2b1:decide (1048576<l0.length)=false:=decide_eq_false (by omega)
  clear c2
  replace H:=Option.bind_eq_some_iff.mp H
  obtain⟨⟨t1685,t1686⟩,A30,H⟩:=H
  replace H:((impl_OrdRaise.f k t1685 t1686).bind fun bt1689=>((spec_OrdRaise.f k t1685 t1686).bind fun bt1693=>((laws_sameInts.f k bt1689.1 bt1693.1).bind fun t1697=>(if t1697=true then(laws_FnOrdRaise.j0 k t1685 t1686 bt1689.1 bt1689.2 (bt1689.2 != bt1693.2)) else(laws_FnOrdRaise.j0 k t1685 t1686 bt1689.1 bt1689.2 true)))))=some r:=H
  have A3:=Aside0.mk A30
  clear A30
  replace H:=Option.bind_eq_some_iff.mp H
  obtain⟨⟨t1689,t1690⟩,A40,H⟩:=H
  replace H:((spec_OrdRaise.f k t1685 t1686).bind fun bt1693=>((laws_sameInts.f k t1689 bt1693.1).bind fun t1697=>(if t1697=true then(laws_FnOrdRaise.j0 k t1685 t1686 t1689 t1690 (t1690 != bt1693.2)) else(laws_FnOrdRaise.j0 k t1685 t1686 t1689 t1690 true))))=some r:=H
  have A4:=Aside0.mk A40
  clear A40
  replace H:=Option.bind_eq_some_iff.mp H
  obtain⟨⟨t1693,t1694⟩,A50,H⟩:=H
  replace H:((laws_sameInts.f k t1689 t1693).bind fun t1697=>(if t1697=true then(laws_FnOrdRaise.j0 k t1685 t1686 t1689 t1690 (t1690 != t1694)) else(laws_FnOrdRaise.j0 k t1685 t1686 t1689 t1690 true)))=some r:=H
  have A5:=Aside0.mk A50
  clear A50
  have HC6:=Aside0.mk H
  clear H
  go_enter Try.func14,Try.ntmps14
  go_upto_region 6 with (first|((with_reducible refine gate_callee (f:=42) rfl ?_);refine goesL_ (some 20) rfl rfl Try.func42 (by kernel_rfl) rfl #[.slice A0 l0.length c0] rfl az ?_;(with_reducible refine(spec_DrawOrdRaise.calls k _ _ l0 t1685 t1686 _ ?side1 ?side2 A3.out).mono ?_);(case side1=>exact Kd.Cz HR0.out);(case side2=>exact HC0.out);rintro e w7 ⟨v1687,rfl,ho0,hb⟩;refine⟨_,rfl,?_⟩;have HO1688:=Aside0.mk (Kd.R_lower ho0 (below_size bz));replace HB:=Aside0.mk (below_step bz hb);(try clear hb);(try clear hb2);(try clear hk);(try clear hi);(try clear ho0);obtain⟨Ao8,co8,eo8⟩:=Kd.R_slice HO1688.out;subst eo8)|((with_reducible refine gate_callee (f:=28) rfl ?_);refine goesL_ (some 26) rfl rfl Try.func28 (by kernel_rfl) rfl #[.slice Ao8 t1685.length co8,.int .i64 t1686] rfl az ?_;(with_reducible refine(impl_OrdRaise.calls k _ _ t1685 t1686 t1689 t1690 _ ?side1 ?side2 A4.out).mono ?_);(case side1=>exact Kd.Cz (Kd.R_reads' HO1688.out).2.2);(case side2=>exact(Kd.R_reads' HO1688.out).2.1);rintro e w9 ⟨v1691,rfl,ho0,hb⟩;refine⟨_,rfl,?_⟩;have HO1692:=Aside0.mk (Kd.R_lower (Kd.R_new' ho0 (Kd.R_lt (Kd.Rz HO1688.out))) (below_size bz));replace HO1688:=Aside0.mk (Kd.R_elder' (Kd.Rz HO1688.out) (Kd.R_base ho0) hb);replace HB:=Aside0.mk (below_step bz hb);(try clear hb);(try clear hb2);(try clear hk);(try clear hi);(try clear ho0))|((with_reducible refine gate_callee (f:=27) rfl ?_);refine goesL_ (some 32) rfl rfl Try.func27 (by kernel_rfl) rfl #[.slice Ao8 t1685.length co8,.int .i64 t1686] rfl az ?_;(with_reducible refine(spec_OrdRaise.calls k _ _ t1685 t1686 t1693 t1694 _ ?side1 ?side2 A5.out).mono ?_);(case side1=>exact Kd.Cz (Kd.R_reads' HO1688.out).2.2);(case side2=>exact(Kd.R_reads' HO1688.out).2.1);rintro e w10 ⟨v1695,rfl,ho0,hb⟩;refine⟨_,rfl,?_⟩;have HO1696:=Aside0.mk (Kd.R_lower (Kd.R_new' (Kd.R_new' ho0 (Kd.R_lt (Kd.Rz HO1688.out))) (Kd.R_lt (Kd.Rz HO1692.out))) (below_size bz));replace HO1688:=Aside0.mk (Kd.R_elder' (Kd.Rz HO1688.out) (Kd.R_base ho0) hb);replace HO1692:=Aside0.mk (Kd.R_elder' (Kd.Rz HO1692.out) (Kd.R_base ho0) hb);replace HB:=Aside0.mk (below_step bz hb);(try clear hb);(try clear hb2);(try clear hk);(try clear hi);(try clear ho0)))
  (try simp only[Act.put,List.setIfInBounds_toArray,List.set_cons_zero,List.set_cons_succ])
  go_cut [43] (fun v43 wc=>∃ (kq:Nat) (x43_5:Bool),v43=.bool x43_5∧Aside0 (laws_FnOrdRaise.j0 kq t1685 t1686 t1689 t1690 x43_5=some r)∧Aside0 (kq≤k)∧Aside0 (Kd.R (Kd.int .i64) 3 wc w.heap.size (fun k_=>some k_≠(v1691:Value).ownBlock) (.slice Ao8 t1685.length co8) t1685)∧Aside0 (Kd.R (Kd.int .i64) 3 wc w.heap.size (fun k_=>some k_≠((.slice Ao8 t1685.length co8):Value).ownBlock) v1691 t1689)∧Aside0 (Below w.heap.size w wc))
  case first =>
   have H:=HC6.out
   clear HC6
   replace H:=Option.bind_eq_some_iff.mp H
   obtain⟨t1697,A110,H⟩:=H
   replace H:(if t1697=true then(laws_FnOrdRaise.j0 k t1685 t1686 t1689 t1690 (t1690 != t1694)) else(laws_FnOrdRaise.j0 k t1685 t1686 t1689 t1690 true))=some r:=H
   have A11:=Aside0.mk A110
   clear A110
   by_cases c12:t1697=true
   ·subst c12
    have H1:(laws_FnOrdRaise.j0 k t1685 t1686 t1689 t1690 (t1690 != t1694))=some r:=by rw[if_pos rfl] at H;exact H
    clear H
    have H:=H1
    clear H1
    have H':=Aside0.mk H
    clear H
    obtain⟨Ao13,co13,eo13⟩:=Kd.R_slice HO1692.out
    subst eo13
    obtain⟨Ao14,co14,eo14⟩:=Kd.R_slice HO1696.out
    subst eo14
    go_wp2_with (first|((with_reducible refine gate_callee (f:=32) rfl ?_);refine goesL_ (some 37) rfl rfl Try.func32 (by kernel_rfl) rfl #[.slice Ao13 t1689.length co13,.slice Ao14 t1693.length co14] rfl az ?_;(with_reducible refine(laws_sameInts.calls k _ _ t1689 _ _ t1693 true _ ?side1 ?side2 ?side3 ?side4 A11.out).mono ?_);(case side1=>exact Kd.Cz (Kd.R_reads' HO1692.out).2.2);(case side2=>exact(Kd.R_reads' HO1692.out).2.1);(case side3=>exact Kd.Cz (Kd.R_reads' HO1696.out).2.2);(case side4=>exact(Kd.R_reads' HO1696.out).2.1);rintro e w' ⟨rfl,⟨nd,rfl⟩⟩;refine⟨_,rfl,?_⟩))
    go_meet
    case rel=>exact⟨_,((t1690 != t1694)),(by first|rfl|(simp;done)|(simp[*];done)),H',⟨by first|omega|exact Nat.le_refl _⟩,⟨Kd.Rz <| Kd.R_mono HO1688.out (fun _ hk=>hk.1.2)⟩,⟨Kd.Rz <| Kd.R_mono HO1692.out (fun _ hk=>hk.1.2)⟩,⟨bz⟩⟩
   ·replace c12:=Bool.eq_false_iff.mpr c12
    subst c12
    have H1:(laws_FnOrdRaise.j0 k t1685 t1686 t1689 t1690 true)=some r:=by rw[if_neg (show ¬ (false=true) by decide)] at H;exact H
    clear H
    have H:=H1
    clear H1
    have H':=Aside0.mk H
    clear H
    obtain⟨Ao15,co15,eo15⟩:=Kd.R_slice HO1692.out
    subst eo15
    obtain⟨Ao16,co16,eo16⟩:=Kd.R_slice HO1696.out
    subst eo16
    go_wp2_with (first|((with_reducible refine gate_callee (f:=32) rfl ?_);refine goesL_ (some 37) rfl rfl Try.func32 (by kernel_rfl) rfl #[.slice Ao15 t1689.length co15,.slice Ao16 t1693.length co16] rfl az ?_;(with_reducible refine(laws_sameInts.calls k _ _ t1689 _ _ t1693 false _ ?side1 ?side2 ?side3 ?side4 A11.out).mono ?_);(case side1=>exact Kd.Cz (Kd.R_reads' HO1692.out).2.2);(case side2=>exact(Kd.R_reads' HO1692.out).2.1);(case side3=>exact Kd.Cz (Kd.R_reads' HO1696.out).2.2);(case side4=>exact(Kd.R_reads' HO1696.out).2.1);rintro e w' ⟨rfl,⟨nd,rfl⟩⟩;refine⟨_,rfl,?_⟩))
    go_meet
    case rel=>exact⟨_,(true),(by first|rfl|(simp;done)|(simp[*];done)),H',⟨by first|omega|exact Nat.le_refl _⟩,⟨Kd.Rz <| Kd.R_mono HO1688.out (fun _ hk=>hk.1.2)⟩,⟨Kd.Rz <| Kd.R_mono HO1692.out (fun _ hk=>hk.1.2)⟩,⟨bz⟩⟩
  case rest =>
   clear HC6
   try clear c1
   try clear c2
   try clear c2b0
   try clear c2b1
   try clear p2
   try clear c3
   try clear c4
   try clear c12
   try clear c14
   obtain⟨kq,x43_5,rfl,HA,HJ5,HO_3,HO_5,HB⟩:=hcut
   cases kq with
   | zero=>exact absurd HA.out (by simp[laws_FnOrdRaise.j0])
   | succ kj5 =>
    have H:=HA.out
    clear HA
    simp only[laws_FnOrdRaise.j0] at H
    by_cases c17:x43_5=true
    ·subst c17
     have H1:(some false)=some r:=by rw[if_pos rfl] at H;exact H
     clear H
     have H:=H1
     clear H1
     obtain rfl:=Option.some.inj H
     go_wp2
     go_ret
     exact⟨by first|rfl|(simp[errW_none,errW_some]<;>rfl)|(simp[*,errW_none,errW_some]<;>rfl),bz⟩
    ·replace c17:=Bool.eq_false_iff.mpr c17
     subst c17
     have H1:(if t1690=true then((impl_OrdRaise.f kj5 t1685 (wrap64 (t1686+1))).bind fun bt1699=>((impl_OrdTimes.f kj5 t1689 t1685).bind fun bt1703=>((impl_OrdRaise.f kj5 t1685 1).bind fun bt1707=>((impl_OrdValid.f kj5 t1689).bind fun t1711=>(if t1711=true then(if bt1707.2=true then((laws_sameInts.f kj5 bt1707.1 t1685).bind fun t1712=>(if t1712=true then(if bt1699.2=true then(if bt1703.2=true then((laws_sameInts.f kj5 bt1703.1 bt1699.1).bind fun t1713=>(some t1713)) else(some false)) else(some true)) else(some false))) else(some false)) else(some false)))))) else(if(t1689.length:Int)=0 then((laws_alive.f kj5).bind fun t1698=>(some t1698)) else(some false)))=some r:=by rw[if_neg (show ¬ (false=true) by decide)] at H;exact H
     clear H
     have H:=H1
     clear H1
     by_cases c18:t1690=true
     ·subst c18
      have H1:((impl_OrdRaise.f kj5 t1685 (wrap64 (t1686+1))).bind fun bt1699=>((impl_OrdTimes.f kj5 t1689 t1685).bind fun bt1703=>((impl_OrdRaise.f kj5 t1685 1).bind fun bt1707=>((impl_OrdValid.f kj5 t1689).bind fun t1711=>(if t1711=true then(if bt1707.2=true then((laws_sameInts.f kj5 bt1707.1 t1685).bind fun t1712=>(if t1712=true then(if bt1699.2=true then(if bt1703.2=true then((laws_sameInts.f kj5 bt1703.1 bt1699.1).bind fun t1713=>(some t1713)) else(some false)) else(some true)) else(some false))) else(some false)) else(some false))))))=some r:=by rw[if_pos rfl] at H;exact H
      clear H
      have H:=H1
      clear H1
      replace H:=Option.bind_eq_some_iff.mp H
      obtain⟨⟨t1699,t1700⟩,A190,H⟩:=H
      replace H:((impl_OrdTimes.f kj5 t1689 t1685).bind fun bt1703=>((impl_OrdRaise.f kj5 t1685 1).bind fun bt1707=>((impl_OrdValid.f kj5 t1689).bind fun t1711=>(if t1711=true then(if bt1707.2=true then((laws_sameInts.f kj5 bt1707.1 t1685).bind fun t1712=>(if t1712=true then(if t1700=true then(if bt1703.2=true then((laws_sameInts.f kj5 bt1703.1 t1699).bind fun t1713=>(some t1713)) else(some false)) else(some true)) else(some false))) else(some false)) else(some false)))))=some r:=H
      have A19:=Aside0.mk A190
      clear A190
      replace H:=Option.bind_eq_some_iff.mp H
      obtain⟨⟨t1703,t1704⟩,A200,H⟩:=H
      replace H:((impl_OrdRaise.f kj5 t1685 1).bind fun bt1707=>((impl_OrdValid.f kj5 t1689).bind fun t1711=>(if t1711=true then(if bt1707.2=true then((laws_sameInts.f kj5 bt1707.1 t1685).bind fun t1712=>(if t1712=true then(if t1700=true then(if t1704=true then((laws_sameInts.f kj5 t1703 t1699).bind fun t1713=>(some t1713)) else(some false)) else(some true)) else(some false))) else(some false)) else(some false))))=some r:=H
      have A20:=Aside0.mk A200
      clear A200
      replace H:=Option.bind_eq_some_iff.mp H
      obtain⟨⟨t1707,t1708⟩,A210,H⟩:=H
      replace H:((impl_OrdValid.f kj5 t1689).bind fun t1711=>(if t1711=true then(if t1708=true then((laws_sameInts.f kj5 t1707 t1685).bind fun t1712=>(if t1712=true then(if t1700=true then(if t1704=true then((laws_sameInts.f kj5 t1703 t1699).bind fun t1713=>(some t1713)) else(some false)) else(some true)) else(some false))) else(some false)) else(some false)))=some r:=H
      have A21:=Aside0.mk A210
      clear A210
      replace H:=Option.bind_eq_some_iff.mp H
      obtain⟨t1711,A220,H⟩:=H
      replace H:(if t1711=true then(if t1708=true then((laws_sameInts.f kj5 t1707 t1685).bind fun t1712=>(if t1712=true then(if t1700=true then(if t1704=true then((laws_sameInts.f kj5 t1703 t1699).bind fun t1713=>(some t1713)) else(some false)) else(some true)) else(some false))) else(some false)) else(some false))=some r:=H
      have A22:=Aside0.mk A220
      clear A220
      by_cases c23:t1711=true
      ·subst c23
       have H1:(if t1708=true then((laws_sameInts.f kj5 t1707 t1685).bind fun t1712=>(if t1712=true then(if t1700=true then(if t1704=true then((laws_sameInts.f kj5 t1703 t1699).bind fun t1713=>(some t1713)) else(some false)) else(some true)) else(some false))) else(some false))=some r:=by rw[if_pos rfl] at H;exact H
       clear H
       have H:=H1
       clear H1
       by_cases c24:t1708=true
       ·subst c24
        have H1:((laws_sameInts.f kj5 t1707 t1685).bind fun t1712=>(if t1712=true then(if t1700=true then(if t1704=true then((laws_sameInts.f kj5 t1703 t1699).bind fun t1713=>(some t1713)) else(some false)) else(some true)) else(some false)))=some r:=by rw[if_pos rfl] at H;exact H
        clear H
        have H:=H1
        clear H1
        replace H:=Option.bind_eq_some_iff.mp H
        obtain⟨t1712,A250,H⟩:=H
        replace H:(if t1712=true then(if t1700=true then(if t1704=true then((laws_sameInts.f kj5 t1703 t1699).bind fun t1713=>(some t1713)) else(some false)) else(some true)) else(some false))=some r:=H
        have A25:=Aside0.mk A250
        clear A250
        by_cases c26:t1712=true
        ·subst c26
         have H1:(if t1700=true then(if t1704=true then((laws_sameInts.f kj5 t1703 t1699).bind fun t1713=>(some t1713)) else(some false)) else(some true))=some r:=by rw[if_pos rfl] at H;exact H
         clear H
         have H:=H1
         clear H1
         by_cases c27:t1700=true
         ·subst c27
          have H1:(if t1704=true then((laws_sameInts.f kj5 t1703 t1699).bind fun t1713=>(some t1713)) else(some false))=some r:=by rw[if_pos rfl] at H;exact H
          clear H
          have H:=H1
          clear H1
          by_cases c28:t1704=true
          ·subst c28
           have H1:((laws_sameInts.f kj5 t1703 t1699).bind fun t1713=>(some t1713))=some r:=by rw[if_pos rfl] at H;exact H
           clear H
           have H:=H1
           clear H1
           replace H:=Option.bind_eq_some_iff.mp H
           obtain⟨t1713,A290,H⟩:=H
           replace H:(some t1713)=some r:=H
           have A29:=Aside0.mk A290
           clear A290
           obtain rfl:=Option.some.inj H
           go_wp2_with (first|((with_reducible refine gate_callee (f:=28) rfl ?_);refine goesL_ (some 56) rfl rfl Try.func28 (by kernel_rfl) rfl #[.slice Ao8 t1685.length co8,.int .i64 (wrap64 (t1686+1))] rfl az ?_;(with_reducible refine(impl_OrdRaise.calls kj5 _ _ t1685 (wrap64 (t1686+1)) t1699 true _ ?side1 ?side2 A19.out).mono ?_);(case side1=>exact Kd.Cz (Kd.R_reads' HO_3.out).2.2);(case side2=>exact(Kd.R_reads' HO_3.out).2.1);rintro e w30 ⟨v1701,rfl,ho0,hb⟩;refine⟨_,rfl,?_⟩;have HO1702:=Aside0.mk (Kd.R_lower (Kd.R_new' (Kd.R_new' ho0 (Kd.R_lt (Kd.Rz HO_3.out))) (Kd.R_lt (Kd.Rz HO_5.out))) (below_size bz));replace HO_3:=Aside0.mk (Kd.R_elder' (Kd.Rz HO_3.out) (Kd.R_base ho0) hb);replace HO_5:=Aside0.mk (Kd.R_elder' (Kd.Rz HO_5.out) (Kd.R_base ho0) hb);replace HB:=Aside0.mk (below_step bz hb);(try clear hb);(try clear hb2);(try clear hk);(try clear hi);(try clear ho0);obtain⟨Ao31,co31,eo31⟩:=Kd.R_slice HO_5.out;subst eo31)|((with_reducible refine gate_callee (f:=26) rfl ?_);refine goesL_ (some 62) rfl rfl Try.func26 (by kernel_rfl) rfl #[.slice Ao31 t1689.length co31,.slice Ao8 t1685.length co8] rfl az ?_;(with_reducible refine(impl_OrdTimes.calls kj5 _ _ t1689 _ _ t1685 t1703 true _ ?side1 ?side2 ?side3 ?side4 A20.out).mono ?_);(case side1=>exact Kd.Cz (Kd.R_reads' HO_5.out).2.2);(case side2=>exact(Kd.R_reads' HO_5.out).2.1);(case side3=>exact Kd.Cz (Kd.R_reads' HO_3.out).2.2);(case side4=>exact(Kd.R_reads' HO_3.out).2.1);rintro e w32 ⟨v1705,rfl,ho0,hb⟩;refine⟨_,rfl,?_⟩;have HO1706:=Aside0.mk (Kd.R_lower (Kd.R_new' (Kd.R_new' (Kd.R_new' ho0 (Kd.R_lt (Kd.Rz HO_3.out))) (Kd.R_lt (Kd.Rz HO_5.out))) (Kd.R_lt (Kd.Rz HO1702.out))) (below_size bz));replace HO_3:=Aside0.mk (Kd.R_elder' (Kd.Rz HO_3.out) (Kd.R_base ho0) hb);replace HO_5:=Aside0.mk (Kd.R_elder' (Kd.Rz HO_5.out) (Kd.R_base ho0) hb);replace HO1702:=Aside0.mk (Kd.R_elder' (Kd.Rz HO1702.out) (Kd.R_base ho0) hb);replace HB:=Aside0.mk (below_step bz hb);(try clear hb);(try clear hb2);(try clear hk);(try clear hi);(try clear ho0))|((with_reducible refine gate_callee (f:=28) rfl ?_);refine goesL_ (some 67) rfl rfl Try.func28 (by kernel_rfl) rfl #[.slice Ao8 t1685.length co8,.int .i64 1] rfl az ?_;(with_reducible refine(impl_OrdRaise.calls kj5 _ _ t1685 1 t1707 true _ ?side1 ?side2 A21.out).mono ?_);(case side1=>exact Kd.Cz (Kd.R_reads' HO_3.out).2.2);(case side2=>exact(Kd.R_reads' HO_3.out).2.1);rintro e w33 ⟨v1709,rfl,ho0,hb⟩;refine⟨_,rfl,?_⟩;have HO1710:=Aside0.mk (Kd.R_lower (Kd.R_new' (Kd.R_new' (Kd.R_new' (Kd.R_new' ho0 (Kd.R_lt (Kd.Rz HO_3.out))) (Kd.R_lt (Kd.Rz HO_5.out))) (Kd.R_lt (Kd.Rz HO1702.out))) (Kd.R_lt (Kd.Rz HO1706.out))) (below_size bz));replace HO_3:=Aside0.mk (Kd.R_elder' (Kd.Rz HO_3.out) (Kd.R_base ho0) hb);replace HO_5:=Aside0.mk (Kd.R_elder' (Kd.Rz HO_5.out) (Kd.R_base ho0) hb);replace HO1702:=Aside0.mk (Kd.R_elder' (Kd.Rz HO1702.out) (Kd.R_base ho0) hb);replace HO1706:=Aside0.mk (Kd.R_elder' (Kd.Rz HO1706.out) (Kd.R_base ho0) hb);replace HB:=Aside0.mk (below_step bz hb);(try clear hb);(try clear hb2);(try clear hk);(try clear hi);(try clear ho0))|((with_reducible refine gate_callee (f:=36) rfl ?_);refine goesL_ (some 71) rfl rfl Try.func36 (by kernel_rfl) rfl #[.slice Ao31 t1689.length co31] rfl az ?_;(with_reducible refine(impl_OrdValid.calls kj5 _ _ t1689 true _ ?side1 ?side2 A22.out).mono ?_);(case side1=>exact Kd.Cz (Kd.R_reads' HO_5.out).2.2);(case side2=>exact(Kd.R_reads' HO_5.out).2.1);rintro e w34 ⟨rfl,hb⟩;refine⟨_,rfl,?_⟩;replace HO_3:=Aside0.mk (Kd.R_below (Kd.Rz HO_3.out) hb);replace HO_5:=Aside0.mk (Kd.R_below (Kd.Rz HO_5.out) hb);replace HO1702:=Aside0.mk (Kd.R_below (Kd.Rz HO1702.out) hb);replace HO1706:=Aside0.mk (Kd.R_below (Kd.Rz HO1706.out) hb);replace HO1710:=Aside0.mk (Kd.R_below (Kd.Rz HO1710.out) hb);replace HB:=Aside0.mk (below_step bz hb);(try clear hb);(try clear hb2);(try clear hk);(try clear hi);obtain⟨Ao35,co35,eo35⟩:=Kd.R_slice HO1710.out;subst eo35)|(go_at_call 32;(with_reducible refine(laws_sameInts.calls kj5 _ _ t1707 _ _ t1685 true _ ?side1 ?side2 ?side3 ?side4 A25.out).mono ?_);(case side1=>exact Kd.Cz (Kd.R_reads' HO1710.out).2.2);(case side2=>exact(Kd.R_reads' HO1710.out).2.1);(case side3=>exact Kd.Cz (Kd.R_reads' HO_3.out).2.2);(case side4=>exact(Kd.R_reads' HO_3.out).2.1);rintro e w' ⟨rfl,⟨nd,rfl⟩⟩;obtain⟨Ao36,co36,eo36⟩:=Kd.R_slice HO1706.out;subst eo36;obtain⟨Ao37,co37,eo37⟩:=Kd.R_slice HO1702.out;subst eo37)|(go_at_call 32;(with_reducible refine(laws_sameInts.calls kj5 _ _ t1703 _ _ t1699 t1713 _ ?side1 ?side2 ?side3 ?side4 A29.out).mono ?_);(case side1=>exact Kd.Cz (Kd.R_reads' HO1706.out).2.2);(case side2=>exact(Kd.R_reads' HO1706.out).2.1);(case side3=>exact Kd.Cz (Kd.R_reads' HO1702.out).2.2);(case side4=>exact(Kd.R_reads' HO1702.out).2.1);rintro e w' ⟨rfl,⟨nd,rfl⟩⟩))
           go_ret
           exact⟨by first|rfl|(simp[errW_none,errW_some]<;>rfl)|(simp[*,errW_none,errW_some]<;>rfl),bz⟩
          ·replace c28:=Bool.eq_false_iff.mpr c28
           subst c28
           have H1:(some false)=some r:=by rw[if_neg (show ¬ (false=true) by decide)] at H;exact H
           clear H
           have H:=H1
           clear H1
           obtain rfl:=Option.some.inj H
           go_wp2_with (first|((with_reducible refine gate_callee (f:=28) rfl ?_);refine goesL_ (some 56) rfl rfl Try.func28 (by kernel_rfl) rfl #[.slice Ao8 t1685.length co8,.int .i64 (wrap64 (t1686+1))] rfl az ?_;(with_reducible refine(impl_OrdRaise.calls kj5 _ _ t1685 (wrap64 (t1686+1)) t1699 true _ ?side1 ?side2 A19.out).mono ?_);(case side1=>exact Kd.Cz (Kd.R_reads' HO_3.out).2.2);(case side2=>exact(Kd.R_reads' HO_3.out).2.1);rintro e w38 ⟨v1701,rfl,ho0,hb⟩;refine⟨_,rfl,?_⟩;have HO1702:=Aside0.mk (Kd.R_lower (Kd.R_new' (Kd.R_new' ho0 (Kd.R_lt (Kd.Rz HO_3.out))) (Kd.R_lt (Kd.Rz HO_5.out))) (below_size bz));replace HO_3:=Aside0.mk (Kd.R_elder' (Kd.Rz HO_3.out) (Kd.R_base ho0) hb);replace HO_5:=Aside0.mk (Kd.R_elder' (Kd.Rz HO_5.out) (Kd.R_base ho0) hb);replace HB:=Aside0.mk (below_step bz hb);(try clear hb);(try clear hb2);(try clear hk);(try clear hi);(try clear ho0);obtain⟨Ao39,co39,eo39⟩:=Kd.R_slice HO_5.out;subst eo39)|((with_reducible refine gate_callee (f:=26) rfl ?_);refine goesL_ (some 62) rfl rfl Try.func26 (by kernel_rfl) rfl #[.slice Ao39 t1689.length co39,.slice Ao8 t1685.length co8] rfl az ?_;(with_reducible refine(impl_OrdTimes.calls kj5 _ _ t1689 _ _ t1685 t1703 false _ ?side1 ?side2 ?side3 ?side4 A20.out).mono ?_);(case side1=>exact Kd.Cz (Kd.R_reads' HO_5.out).2.2);(case side2=>exact(Kd.R_reads' HO_5.out).2.1);(case side3=>exact Kd.Cz (Kd.R_reads' HO_3.out).2.2);(case side4=>exact(Kd.R_reads' HO_3.out).2.1);rintro e w40 ⟨v1705,rfl,ho0,hb⟩;refine⟨_,rfl,?_⟩;have HO1706:=Aside0.mk (Kd.R_lower (Kd.R_new' (Kd.R_new' (Kd.R_new' ho0 (Kd.R_lt (Kd.Rz HO_3.out))) (Kd.R_lt (Kd.Rz HO_5.out))) (Kd.R_lt (Kd.Rz HO1702.out))) (below_size bz));replace HO_3:=Aside0.mk (Kd.R_elder' (Kd.Rz HO_3.out) (Kd.R_base ho0) hb);replace HO_5:=Aside0.mk (Kd.R_elder' (Kd.Rz HO_5.out) (Kd.R_base ho0) hb);replace HO1702:=Aside0.mk (Kd.R_elder' (Kd.Rz HO1702.out) (Kd.R_base ho0) hb);replace HB:=Aside0.mk (below_step bz hb);(try clear hb);(try clear hb2);(try clear hk);(try clear hi);(try clear ho0))|((with_reducible refine gate_callee (f:=28) rfl ?_);refine goesL_ (some 67) rfl rfl Try.func28 (by kernel_rfl) rfl #[.slice Ao8 t1685.length co8,.int .i64 1] rfl az ?_;(with_reducible refine(impl_OrdRaise.calls kj5 _ _ t1685 1 t1707 true _ ?side1 ?side2 A21.out).mono ?_);(case side1=>exact Kd.Cz (Kd.R_reads' HO_3.out).2.2);(case side2=>exact(Kd.R_reads' HO_3.out).2.1);rintro e w41 ⟨v1709,rfl,ho0,hb⟩;refine⟨_,rfl,?_⟩;have HO1710:=Aside0.mk (Kd.R_lower (Kd.R_new' (Kd.R_new' (Kd.R_new' (Kd.R_new' ho0 (Kd.R_lt (Kd.Rz HO_3.out))) (Kd.R_lt (Kd.Rz HO_5.out))) (Kd.R_lt (Kd.Rz HO1702.out))) (Kd.R_lt (Kd.Rz HO1706.out))) (below_size bz));replace HO_3:=Aside0.mk (Kd.R_elder' (Kd.Rz HO_3.out) (Kd.R_base ho0) hb);replace HO_5:=Aside0.mk (Kd.R_elder' (Kd.Rz HO_5.out) (Kd.R_base ho0) hb);replace HO1702:=Aside0.mk (Kd.R_elder' (Kd.Rz HO1702.out) (Kd.R_base ho0) hb);replace HO1706:=Aside0.mk (Kd.R_elder' (Kd.Rz HO1706.out) (Kd.R_base ho0) hb);replace HB:=Aside0.mk (below_step bz hb);(try clear hb);(try clear hb2);(try clear hk);(try clear hi);(try clear ho0))|((with_reducible refine gate_callee (f:=36) rfl ?_);refine goesL_ (some 71) rfl rfl Try.func36 (by kernel_rfl) rfl #[.slice Ao39 t1689.length co39] rfl az ?_;(with_reducible refine(impl_OrdValid.calls kj5 _ _ t1689 true _ ?side1 ?side2 A22.out).mono ?_);(case side1=>exact Kd.Cz (Kd.R_reads' HO_5.out).2.2);(case side2=>exact(Kd.R_reads' HO_5.out).2.1);rintro e w42 ⟨rfl,hb⟩;refine⟨_,rfl,?_⟩;replace HO_3:=Aside0.mk (Kd.R_below (Kd.Rz HO_3.out) hb);replace HO_5:=Aside0.mk (Kd.R_below (Kd.Rz HO_5.out) hb);replace HO1702:=Aside0.mk (Kd.R_below (Kd.Rz HO1702.out) hb);replace HO1706:=Aside0.mk (Kd.R_below (Kd.Rz HO1706.out) hb);replace HO1710:=Aside0.mk (Kd.R_below (Kd.Rz HO1710.out) hb);replace HB:=Aside0.mk (below_step bz hb);(try clear hb);(try clear hb2);(try clear hk);(try clear hi);obtain⟨Ao43,co43,eo43⟩:=Kd.R_slice HO1710.out;subst eo43)|(go_at_call 32;(with_reducible refine(laws_sameInts.calls kj5 _ _ t1707 _ _ t1685 true _ ?side1 ?side2 ?side3 ?side4 A25.out).mono ?_);(case side1=>exact Kd.Cz (Kd.R_reads' HO1710.out).2.2);(case side2=>exact(Kd.R_reads' HO1710.out).2.1);(case side3=>exact Kd.Cz (Kd.R_reads' HO_3.out).2.2);(case side4=>exact(Kd.R_reads' HO_3.out).2.1);rintro e w' ⟨rfl,⟨nd,rfl⟩⟩))
           go_ret
           exact⟨by first|rfl|(simp[errW_none,errW_some]<;>rfl)|(simp[*,errW_none,errW_some]<;>rfl),bz⟩
         ·replace c27:=Bool.eq_false_iff.mpr c27
          subst c27
          have H1:(some true)=some r:=by rw[if_neg (show ¬ (false=true) by decide)] at H;exact H
          clear H
          have H:=H1
          clear H1
          obtain rfl:=Option.some.inj H
          go_wp2_with (first|((with_reducible refine gate_callee (f:=28) rfl ?_);refine goesL_ (some 56) rfl rfl Try.func28 (by kernel_rfl) rfl #[.slice Ao8 t1685.length co8,.int .i64 (wrap64 (t1686+1))] rfl az ?_;(with_reducible refine(impl_OrdRaise.calls kj5 _ _ t1685 (wrap64 (t1686+1)) t1699 false _ ?side1 ?side2 A19.out).mono ?_);(case side1=>exact Kd.Cz (Kd.R_reads' HO_3.out).2.2);(case side2=>exact(Kd.R_reads' HO_3.out).2.1);rintro e w44 ⟨v1701,rfl,ho0,hb⟩;refine⟨_,rfl,?_⟩;have HO1702:=Aside0.mk (Kd.R_lower (Kd.R_new' (Kd.R_new' ho0 (Kd.R_lt (Kd.Rz HO_3.out))) (Kd.R_lt (Kd.Rz HO_5.out))) (below_size bz));replace HO_3:=Aside0.mk (Kd.R_elder' (Kd.Rz HO_3.out) (Kd.R_base ho0) hb);replace HO_5:=Aside0.mk (Kd.R_elder' (Kd.Rz HO_5.out) (Kd.R_base ho0) hb);replace HB:=Aside0.mk (below_step bz hb);(try clear hb);(try clear hb2);(try clear hk);(try clear hi);(try clear ho0);obtain⟨Ao45,co45,eo45⟩:=Kd.R_slice HO_5.out;subst eo45)|((with_reducible refine gate_callee (f:=26) rfl ?_);refine goesL_ (some 62) rfl rfl Try.func26 (by kernel_rfl) rfl #[.slice Ao45 t1689.length co45,.slice Ao8 t1685.length co8] rfl az ?_;(with_reducible refine(impl_OrdTimes.calls kj5 _ _ t1689 _ _ t1685 t1703 t1704 _ ?side1 ?side2 ?side3 ?side4 A20.out).mono ?_);(case side1=>exact Kd.Cz (Kd.R_reads' HO_5.out).2.2);(case side2=>exact(Kd.R_reads' HO_5.out).2.1);(case side3=>exact Kd.Cz (Kd.R_reads' HO_3.out).2.2);(case side4=>exact(Kd.R_reads' HO_3.out).2.1);rintro e w46 ⟨v1705,rfl,ho0,hb⟩;refine⟨_,rfl,?_⟩;have HO1706:=Aside0.mk (Kd.R_lower (Kd.R_new' (Kd.R_new' (Kd.R_new' ho0 (Kd.R_lt (Kd.Rz HO_3.out))) (Kd.R_lt (Kd.Rz HO_5.out))) (Kd.R_lt (Kd.Rz HO1702.out))) (below_size bz));replace HO_3:=Aside0.mk (Kd.R_elder' (Kd.Rz HO_3.out) (Kd.R_base ho0) hb);replace HO_5:=Aside0.mk (Kd.R_elder' (Kd.Rz HO_5.out) (Kd.R_base ho0) hb);replace HO1702:=Aside0.mk (Kd.R_elder' (Kd.Rz HO1702.out) (Kd.R_base ho0) hb);replace HB:=Aside0.mk (below_step bz hb);(try clear hb);(try clear hb2);(try clear hk);(try clear hi);(try clear ho0))|((with_reducible refine gate_callee (f:=28) rfl ?_);refine goesL_ (some 67) rfl rfl Try.func28 (by kernel_rfl) rfl #[.slice Ao8 t1685.length co8,.int .i64 1] rfl az ?_;(with_reducible refine(impl_OrdRaise.calls kj5 _ _ t1685 1 t1707 true _ ?side1 ?side2 A21.out).mono ?_);(case side1=>exact Kd.Cz (Kd.R_reads' HO_3.out).2.2);(case side2=>exact(Kd.R_reads' HO_3.out).2.1);rintro e w47 ⟨v1709,rfl,ho0,hb⟩;refine⟨_,rfl,?_⟩;have HO1710:=Aside0.mk (Kd.R_lower (Kd.R_new' (Kd.R_new' (Kd.R_new' (Kd.R_new' ho0 (Kd.R_lt (Kd.Rz HO_3.out))) (Kd.R_lt (Kd.Rz HO_5.out))) (Kd.R_lt (Kd.Rz HO1702.out))) (Kd.R_lt (Kd.Rz HO1706.out))) (below_size bz));replace HO_3:=Aside0.mk (Kd.R_elder' (Kd.Rz HO_3.out) (Kd.R_base ho0) hb);replace HO_5:=Aside0.mk (Kd.R_elder' (Kd.Rz HO_5.out) (Kd.R_base ho0) hb);replace HO1702:=Aside0.mk (Kd.R_elder' (Kd.Rz HO1702.out) (Kd.R_base ho0) hb);replace HO1706:=Aside0.mk (Kd.R_elder' (Kd.Rz HO1706.out) (Kd.R_base ho0) hb);replace HB:=Aside0.mk (below_step bz hb);(try clear hb);(try clear hb2);(try clear hk);(try clear hi);(try clear ho0))|((with_reducible refine gate_callee (f:=36) rfl ?_);refine goesL_ (some 71) rfl rfl Try.func36 (by kernel_rfl) rfl #[.slice Ao45 t1689.length co45] rfl az ?_;(with_reducible refine(impl_OrdValid.calls kj5 _ _ t1689 true _ ?side1 ?side2 A22.out).mono ?_);(case side1=>exact Kd.Cz (Kd.R_reads' HO_5.out).2.2);(case side2=>exact(Kd.R_reads' HO_5.out).2.1);rintro e w48 ⟨rfl,hb⟩;refine⟨_,rfl,?_⟩;replace HO_3:=Aside0.mk (Kd.R_below (Kd.Rz HO_3.out) hb);replace HO_5:=Aside0.mk (Kd.R_below (Kd.Rz HO_5.out) hb);replace HO1702:=Aside0.mk (Kd.R_below (Kd.Rz HO1702.out) hb);replace HO1706:=Aside0.mk (Kd.R_below (Kd.Rz HO1706.out) hb);replace HO1710:=Aside0.mk (Kd.R_below (Kd.Rz HO1710.out) hb);replace HB:=Aside0.mk (below_step bz hb);(try clear hb);(try clear hb2);(try clear hk);(try clear hi);obtain⟨Ao49,co49,eo49⟩:=Kd.R_slice HO1710.out;subst eo49)|(go_at_call 32;(with_reducible refine(laws_sameInts.calls kj5 _ _ t1707 _ _ t1685 true _ ?side1 ?side2 ?side3 ?side4 A25.out).mono ?_);(case side1=>exact Kd.Cz (Kd.R_reads' HO1710.out).2.2);(case side2=>exact(Kd.R_reads' HO1710.out).2.1);(case side3=>exact Kd.Cz (Kd.R_reads' HO_3.out).2.2);(case side4=>exact(Kd.R_reads' HO_3.out).2.1);rintro e w' ⟨rfl,⟨nd,rfl⟩⟩))
          go_ret
          exact⟨by first|rfl|(simp[errW_none,errW_some]<;>rfl)|(simp[*,errW_none,errW_some]<;>rfl),bz⟩
        ·replace c26:=Bool.eq_false_iff.mpr c26
         subst c26
         have H1:(some false)=some r:=by rw[if_neg (show ¬ (false=true) by decide)] at H;exact H
         clear H
         have H:=H1
         clear H1
         obtain rfl:=Option.some.inj H
         go_wp2_with (first|((with_reducible refine gate_callee (f:=28) rfl ?_);refine goesL_ (some 56) rfl rfl Try.func28 (by kernel_rfl) rfl #[.slice Ao8 t1685.length co8,.int .i64 (wrap64 (t1686+1))] rfl az ?_;(with_reducible refine(impl_OrdRaise.calls kj5 _ _ t1685 (wrap64 (t1686+1)) t1699 t1700 _ ?side1 ?side2 A19.out).mono ?_);(case side1=>exact Kd.Cz (Kd.R_reads' HO_3.out).2.2);(case side2=>exact(Kd.R_reads' HO_3.out).2.1);rintro e w50 ⟨v1701,rfl,ho0,hb⟩;refine⟨_,rfl,?_⟩;have HO1702:=Aside0.mk (Kd.R_lower (Kd.R_new' (Kd.R_new' ho0 (Kd.R_lt (Kd.Rz HO_3.out))) (Kd.R_lt (Kd.Rz HO_5.out))) (below_size bz));replace HO_3:=Aside0.mk (Kd.R_elder' (Kd.Rz HO_3.out) (Kd.R_base ho0) hb);replace HO_5:=Aside0.mk (Kd.R_elder' (Kd.Rz HO_5.out) (Kd.R_base ho0) hb);replace HB:=Aside0.mk (below_step bz hb);(try clear hb);(try clear hb2);(try clear hk);(try clear hi);(try clear ho0);obtain⟨Ao51,co51,eo51⟩:=Kd.R_slice HO_5.out;subst eo51)|((with_reducible refine gate_callee (f:=26) rfl ?_);refine goesL_ (some 62) rfl rfl Try.func26 (by kernel_rfl) rfl #[.slice Ao51 t1689.length co51,.slice Ao8 t1685.length co8] rfl az ?_;(with_reducible refine(impl_OrdTimes.calls kj5 _ _ t1689 _ _ t1685 t1703 t1704 _ ?side1 ?side2 ?side3 ?side4 A20.out).mono ?_);(case side1=>exact Kd.Cz (Kd.R_reads' HO_5.out).2.2);(case side2=>exact(Kd.R_reads' HO_5.out).2.1);(case side3=>exact Kd.Cz (Kd.R_reads' HO_3.out).2.2);(case side4=>exact(Kd.R_reads' HO_3.out).2.1);rintro e w52 ⟨v1705,rfl,ho0,hb⟩;refine⟨_,rfl,?_⟩;have HO1706:=Aside0.mk (Kd.R_lower (Kd.R_new' (Kd.R_new' (Kd.R_new' ho0 (Kd.R_lt (Kd.Rz HO_3.out))) (Kd.R_lt (Kd.Rz HO_5.out))) (Kd.R_lt (Kd.Rz HO1702.out))) (below_size bz));replace HO_3:=Aside0.mk (Kd.R_elder' (Kd.Rz HO_3.out) (Kd.R_base ho0) hb);replace HO_5:=Aside0.mk (Kd.R_elder' (Kd.Rz HO_5.out) (Kd.R_base ho0) hb);replace HO1702:=Aside0.mk (Kd.R_elder' (Kd.Rz HO1702.out) (Kd.R_base ho0) hb);replace HB:=Aside0.mk (below_step bz hb);(try clear hb);(try clear hb2);(try clear hk);(try clear hi);(try clear ho0))|((with_reducible refine gate_callee (f:=28) rfl ?_);refine goesL_ (some 67) rfl rfl Try.func28 (by kernel_rfl) rfl #[.slice Ao8 t1685.length co8,.int .i64 1] rfl az ?_;(with_reducible refine(impl_OrdRaise.calls kj5 _ _ t1685 1 t1707 true _ ?side1 ?side2 A21.out).mono ?_);(case side1=>exact Kd.Cz (Kd.R_reads' HO_3.out).2.2);(case side2=>exact(Kd.R_reads' HO_3.out).2.1);rintro e w53 ⟨v1709,rfl,ho0,hb⟩;refine⟨_,rfl,?_⟩;have HO1710:=Aside0.mk (Kd.R_lower (Kd.R_new' (Kd.R_new' (Kd.R_new' (Kd.R_new' ho0 (Kd.R_lt (Kd.Rz HO_3.out))) (Kd.R_lt (Kd.Rz HO_5.out))) (Kd.R_lt (Kd.Rz HO1702.out))) (Kd.R_lt (Kd.Rz HO1706.out))) (below_size bz));replace HO_3:=Aside0.mk (Kd.R_elder' (Kd.Rz HO_3.out) (Kd.R_base ho0) hb);replace HO_5:=Aside0.mk (Kd.R_elder' (Kd.Rz HO_5.out) (Kd.R_base ho0) hb);replace HO1702:=Aside0.mk (Kd.R_elder' (Kd.Rz HO1702.out) (Kd.R_base ho0) hb);replace HO1706:=Aside0.mk (Kd.R_elder' (Kd.Rz HO1706.out) (Kd.R_base ho0) hb);replace HB:=Aside0.mk (below_step bz hb);(try clear hb);(try clear hb2);(try clear hk);(try clear hi);(try clear ho0))|((with_reducible refine gate_callee (f:=36) rfl ?_);refine goesL_ (some 71) rfl rfl Try.func36 (by kernel_rfl) rfl #[.slice Ao51 t1689.length co51] rfl az ?_;(with_reducible refine(impl_OrdValid.calls kj5 _ _ t1689 true _ ?side1 ?side2 A22.out).mono ?_);(case side1=>exact Kd.Cz (Kd.R_reads' HO_5.out).2.2);(case side2=>exact(Kd.R_reads' HO_5.out).2.1);rintro e w54 ⟨rfl,hb⟩;refine⟨_,rfl,?_⟩;replace HO_3:=Aside0.mk (Kd.R_below (Kd.Rz HO_3.out) hb);replace HO_5:=Aside0.mk (Kd.R_below (Kd.Rz HO_5.out) hb);replace HO1702:=Aside0.mk (Kd.R_below (Kd.Rz HO1702.out) hb);replace HO1706:=Aside0.mk (Kd.R_below (Kd.Rz HO1706.out) hb);replace HO1710:=Aside0.mk (Kd.R_below (Kd.Rz HO1710.out) hb);replace HB:=Aside0.mk (below_step bz hb);(try clear hb);(try clear hb2);(try clear hk);(try clear hi);obtain⟨Ao55,co55,eo55⟩:=Kd.R_slice HO1710.out;subst eo55)|(go_at_call 32;(with_reducible refine(laws_sameInts.calls kj5 _ _ t1707 _ _ t1685 false _ ?side1 ?side2 ?side3 ?side4 A25.out).mono ?_);(case side1=>exact Kd.Cz (Kd.R_reads' HO1710.out).2.2);(case side2=>exact(Kd.R_reads' HO1710.out).2.1);(case side3=>exact Kd.Cz (Kd.R_reads' HO_3.out).2.2);(case side4=>exact(Kd.R_reads' HO_3.out).2.1);rintro e w' ⟨rfl,⟨nd,rfl⟩⟩))
         go_ret
         exact⟨by first|rfl|(simp[errW_none,errW_some]<;>rfl)|(simp[*,errW_none,errW_some]<;>rfl),bz⟩
       ·replace c24:=Bool.eq_false_iff.mpr c24
        subst c24
        have H1:(some false)=some r:=by rw[if_neg (show ¬ (false=true) by decide)] at H;exact H
        clear H
        have H:=H1
        clear H1
        obtain rfl:=Option.some.inj H
        go_wp2_with (first|((with_reducible refine gate_callee (f:=28) rfl ?_);refine goesL_ (some 56) rfl rfl Try.func28 (by kernel_rfl) rfl #[.slice Ao8 t1685.length co8,.int .i64 (wrap64 (t1686+1))] rfl az ?_;(with_reducible refine(impl_OrdRaise.calls kj5 _ _ t1685 (wrap64 (t1686+1)) t1699 t1700 _ ?side1 ?side2 A19.out).mono ?_);(case side1=>exact Kd.Cz (Kd.R_reads' HO_3.out).2.2);(case side2=>exact(Kd.R_reads' HO_3.out).2.1);rintro e w56 ⟨v1701,rfl,ho0,hb⟩;refine⟨_,rfl,?_⟩;have HO1702:=Aside0.mk (Kd.R_lower (Kd.R_new' (Kd.R_new' ho0 (Kd.R_lt (Kd.Rz HO_3.out))) (Kd.R_lt (Kd.Rz HO_5.out))) (below_size bz));replace HO_3:=Aside0.mk (Kd.R_elder' (Kd.Rz HO_3.out) (Kd.R_base ho0) hb);replace HO_5:=Aside0.mk (Kd.R_elder' (Kd.Rz HO_5.out) (Kd.R_base ho0) hb);replace HB:=Aside0.mk (below_step bz hb);(try clear hb);(try clear hb2);(try clear hk);(try clear hi);(try clear ho0);obtain⟨Ao57,co57,eo57⟩:=Kd.R_slice HO_5.out;subst eo57)|((with_reducible refine gate_callee (f:=26) rfl ?_);refine goesL_ (some 62) rfl rfl Try.func26 (by kernel_rfl) rfl #[.slice Ao57 t1689.length co57,.slice Ao8 t1685.length co8] rfl az ?_;(with_reducible refine(impl_OrdTimes.calls kj5 _ _ t1689 _ _ t1685 t1703 t1704 _ ?side1 ?side2 ?side3 ?side4 A20.out).mono ?_);(case side1=>exact Kd.Cz (Kd.R_reads' HO_5.out).2.2);(case side2=>exact(Kd.R_reads' HO_5.out).2.1);(case side3=>exact Kd.Cz (Kd.R_reads' HO_3.out).2.2);(case side4=>exact(Kd.R_reads' HO_3.out).2.1);rintro e w58 ⟨v1705,rfl,ho0,hb⟩;refine⟨_,rfl,?_⟩;have HO1706:=Aside0.mk (Kd.R_lower (Kd.R_new' (Kd.R_new' (Kd.R_new' ho0 (Kd.R_lt (Kd.Rz HO_3.out))) (Kd.R_lt (Kd.Rz HO_5.out))) (Kd.R_lt (Kd.Rz HO1702.out))) (below_size bz));replace HO_3:=Aside0.mk (Kd.R_elder' (Kd.Rz HO_3.out) (Kd.R_base ho0) hb);replace HO_5:=Aside0.mk (Kd.R_elder' (Kd.Rz HO_5.out) (Kd.R_base ho0) hb);replace HO1702:=Aside0.mk (Kd.R_elder' (Kd.Rz HO1702.out) (Kd.R_base ho0) hb);replace HB:=Aside0.mk (below_step bz hb);(try clear hb);(try clear hb2);(try clear hk);(try clear hi);(try clear ho0))|((with_reducible refine gate_callee (f:=28) rfl ?_);refine goesL_ (some 67) rfl rfl Try.func28 (by kernel_rfl) rfl #[.slice Ao8 t1685.length co8,.int .i64 1] rfl az ?_;(with_reducible refine(impl_OrdRaise.calls kj5 _ _ t1685 1 t1707 false _ ?side1 ?side2 A21.out).mono ?_);(case side1=>exact Kd.Cz (Kd.R_reads' HO_3.out).2.2);(case side2=>exact(Kd.R_reads' HO_3.out).2.1);rintro e w59 ⟨v1709,rfl,ho0,hb⟩;refine⟨_,rfl,?_⟩;have HO1710:=Aside0.mk (Kd.R_lower (Kd.R_new' (Kd.R_new' (Kd.R_new' (Kd.R_new' ho0 (Kd.R_lt (Kd.Rz HO_3.out))) (Kd.R_lt (Kd.Rz HO_5.out))) (Kd.R_lt (Kd.Rz HO1702.out))) (Kd.R_lt (Kd.Rz HO1706.out))) (below_size bz));replace HO_3:=Aside0.mk (Kd.R_elder' (Kd.Rz HO_3.out) (Kd.R_base ho0) hb);replace HO_5:=Aside0.mk (Kd.R_elder' (Kd.Rz HO_5.out) (Kd.R_base ho0) hb);replace HO1702:=Aside0.mk (Kd.R_elder' (Kd.Rz HO1702.out) (Kd.R_base ho0) hb);replace HO1706:=Aside0.mk (Kd.R_elder' (Kd.Rz HO1706.out) (Kd.R_base ho0) hb);replace HB:=Aside0.mk (below_step bz hb);(try clear hb);(try clear hb2);(try clear hk);(try clear hi);(try clear ho0))|((with_reducible refine gate_callee (f:=36) rfl ?_);refine goesL_ (some 71) rfl rfl Try.func36 (by kernel_rfl) rfl #[.slice Ao57 t1689.length co57] rfl az ?_;(with_reducible refine(impl_OrdValid.calls kj5 _ _ t1689 true _ ?side1 ?side2 A22.out).mono ?_);(case side1=>exact Kd.Cz (Kd.R_reads' HO_5.out).2.2);(case side2=>exact(Kd.R_reads' HO_5.out).2.1);rintro e w60 ⟨rfl,hb⟩;refine⟨_,rfl,?_⟩;replace HO_3:=Aside0.mk (Kd.R_below (Kd.Rz HO_3.out) hb);replace HO_5:=Aside0.mk (Kd.R_below (Kd.Rz HO_5.out) hb);replace HO1702:=Aside0.mk (Kd.R_below (Kd.Rz HO1702.out) hb);replace HO1706:=Aside0.mk (Kd.R_below (Kd.Rz HO1706.out) hb);replace HO1710:=Aside0.mk (Kd.R_below (Kd.Rz HO1710.out) hb);replace HB:=Aside0.mk (below_step bz hb);(try clear hb);(try clear hb2);(try clear hk);(try clear hi)))
        go_ret
        exact⟨by first|rfl|(simp[errW_none,errW_some]<;>rfl)|(simp[*,errW_none,errW_some]<;>rfl),bz⟩
      ·replace c23:=Bool.eq_false_iff.mpr c23
       subst c23
       have H1:(some false)=some r:=by rw[if_neg (show ¬ (false=true) by decide)] at H;exact H
       clear H
       have H:=H1
       clear H1
       obtain rfl:=Option.some.inj H
       go_wp2_with (first|((with_reducible refine gate_callee (f:=28) rfl ?_);refine goesL_ (some 56) rfl rfl Try.func28 (by kernel_rfl) rfl #[.slice Ao8 t1685.length co8,.int .i64 (wrap64 (t1686+1))] rfl az ?_;(with_reducible refine(impl_OrdRaise.calls kj5 _ _ t1685 (wrap64 (t1686+1)) t1699 t1700 _ ?side1 ?side2 A19.out).mono ?_);(case side1=>exact Kd.Cz (Kd.R_reads' HO_3.out).2.2);(case side2=>exact(Kd.R_reads' HO_3.out).2.1);rintro e w61 ⟨v1701,rfl,ho0,hb⟩;refine⟨_,rfl,?_⟩;have HO1702:=Aside0.mk (Kd.R_lower (Kd.R_new' (Kd.R_new' ho0 (Kd.R_lt (Kd.Rz HO_3.out))) (Kd.R_lt (Kd.Rz HO_5.out))) (below_size bz));replace HO_3:=Aside0.mk (Kd.R_elder' (Kd.Rz HO_3.out) (Kd.R_base ho0) hb);replace HO_5:=Aside0.mk (Kd.R_elder' (Kd.Rz HO_5.out) (Kd.R_base ho0) hb);replace HB:=Aside0.mk (below_step bz hb);(try clear hb);(try clear hb2);(try clear hk);(try clear hi);(try clear ho0);obtain⟨Ao62,co62,eo62⟩:=Kd.R_slice HO_5.out;subst eo62)|((with_reducible refine gate_callee (f:=26) rfl ?_);refine goesL_ (some 62) rfl rfl Try.func26 (by kernel_rfl) rfl #[.slice Ao62 t1689.length co62,.slice Ao8 t1685.length co8] rfl az ?_;(with_reducible refine(impl_OrdTimes.calls kj5 _ _ t1689 _ _ t1685 t1703 t1704 _ ?side1 ?side2 ?side3 ?side4 A20.out).mono ?_);(case side1=>exact Kd.Cz (Kd.R_reads' HO_5.out).2.2);(case side2=>exact(Kd.R_reads' HO_5.out).2.1);(case side3=>exact Kd.Cz (Kd.R_reads' HO_3.out).2.2);(case side4=>exact(Kd.R_reads' HO_3.out).2.1);rintro e w63 ⟨v1705,rfl,ho0,hb⟩;refine⟨_,rfl,?_⟩;have HO1706:=Aside0.mk (Kd.R_lower (Kd.R_new' (Kd.R_new' (Kd.R_new' ho0 (Kd.R_lt (Kd.Rz HO_3.out))) (Kd.R_lt (Kd.Rz HO_5.out))) (Kd.R_lt (Kd.Rz HO1702.out))) (below_size bz));replace HO_3:=Aside0.mk (Kd.R_elder' (Kd.Rz HO_3.out) (Kd.R_base ho0) hb);replace HO_5:=Aside0.mk (Kd.R_elder' (Kd.Rz HO_5.out) (Kd.R_base ho0) hb);replace HO1702:=Aside0.mk (Kd.R_elder' (Kd.Rz HO1702.out) (Kd.R_base ho0) hb);replace HB:=Aside0.mk (below_step bz hb);(try clear hb);(try clear hb2);(try clear hk);(try clear hi);(try clear ho0))|((with_reducible refine gate_callee (f:=28) rfl ?_);refine goesL_ (some 67) rfl rfl Try.func28 (by kernel_rfl) rfl #[.slice Ao8 t1685.length co8,.int .i64 1] rfl az ?_;(with_reducible refine(impl_OrdRaise.calls kj5 _ _ t1685 1 t1707 t1708 _ ?side1 ?side2 A21.out).mono ?_);(case side1=>exact Kd.Cz (Kd.R_reads' HO_3.out).2.2);(case side2=>exact(Kd.R_reads' HO_3.out).2.1);rintro e w64 ⟨v1709,rfl,ho0,hb⟩;refine⟨_,rfl,?_⟩;have HO1710:=Aside0.mk (Kd.R_lower (Kd.R_new' (Kd.R_new' (Kd.R_new' (Kd.R_new' ho0 (Kd.R_lt (Kd.Rz HO_3.out))) (Kd.R_lt (Kd.Rz HO_5.out))) (Kd.R_lt (Kd.Rz HO1702.out))) (Kd.R_lt (Kd.Rz HO1706.out))) (below_size bz));replace HO_3:=Aside0.mk (Kd.R_elder' (Kd.Rz HO_3.out) (Kd.R_base ho0) hb);replace HO_5:=Aside0.mk (Kd.R_elder' (Kd.Rz HO_5.out) (Kd.R_base ho0) hb);replace HO1702:=Aside0.mk (Kd.R_elder' (Kd.Rz HO1702.out) (Kd.R_base ho0) hb);replace HO1706:=Aside0.mk (Kd.R_elder' (Kd.Rz HO1706.out) (Kd.R_base ho0) hb);replace HB:=Aside0.mk (below_step bz hb);(try clear hb);(try clear hb2);(try clear hk);(try clear hi);(try clear ho0))|((with_reducible refine gate_callee (f:=36) rfl ?_);refine goesL_ (some 71) rfl rfl Try.func36 (by kernel_rfl) rfl #[.slice Ao62 t1689.length co62] rfl az ?_;(with_reducible refine(impl_OrdValid.calls kj5 _ _ t1689 false _ ?side1 ?side2 A22.out).mono ?_);(case side1=>exact Kd.Cz (Kd.R_reads' HO_5.out).2.2);(case side2=>exact(Kd.R_reads' HO_5.out).2.1);rintro e w65 ⟨rfl,hb⟩;refine⟨_,rfl,?_⟩;replace HO_3:=Aside0.mk (Kd.R_below (Kd.Rz HO_3.out) hb);replace HO_5:=Aside0.mk (Kd.R_below (Kd.Rz HO_5.out) hb);replace HO1702:=Aside0.mk (Kd.R_below (Kd.Rz HO1702.out) hb);replace HO1706:=Aside0.mk (Kd.R_below (Kd.Rz HO1706.out) hb);replace HO1710:=Aside0.mk (Kd.R_below (Kd.Rz HO1710.out) hb);replace HB:=Aside0.mk (below_step bz hb);(try clear hb);(try clear hb2);(try clear hk);(try clear hi)))
       go_ret
       exact⟨by first|rfl|(simp[errW_none,errW_some]<;>rfl)|(simp[*,errW_none,errW_some]<;>rfl),bz⟩
     ·replace c18:=Bool.eq_false_iff.mpr c18
      subst c18
      have H1:(if(t1689.length:Int)=0 then((laws_alive.f kj5).bind fun t1698=>(some t1698)) else(some false))=some r:=by rw[if_neg (show ¬ (false=true) by decide)] at H;exact H
      clear H
      have H:=H1
      clear H1
      by_cases c66:(t1689.length:Int)=0
      ·rw[if_pos c66] at H
       have c66b0:((t1689.length:Int) == 0)=true:=beq_iff_eq.mpr c66
       have c66b1:((t1689.length:Int) != 0)=false:=bne_eq_false_iff_eq.mpr c66
       clear c66
       replace H:=Option.bind_eq_some_iff.mp H
       obtain⟨t1698,A670,H⟩:=H
       replace H:(some t1698)=some r:=H
       have A67:=Aside0.mk A670
       clear A670
       obtain rfl:=Option.some.inj H
       obtain⟨Ao68,co68,eo68⟩:=Kd.R_slice HO_5.out
       subst eo68
       go_wp2_with (first|(go_at_call 33;(with_reducible refine(laws_alive.calls kj5  t1698 _ A67.out).mono ?_);rintro e w69 ⟨rfl,hb⟩;replace HO_3:=Aside0.mk (Kd.R_below (Kd.Rz HO_3.out) hb);replace HO_5:=Aside0.mk (Kd.R_below (Kd.Rz HO_5.out) hb);replace HB:=Aside0.mk (below_step bz hb);(try clear hb);(try clear hb2);(try clear hk);(try clear hi)))
       go_ret
       exact⟨by first|rfl|(simp[errW_none,errW_some]<;>rfl)|(simp[*,errW_none,errW_some]<;>rfl),bz⟩
      ·rw[if_neg c66] at H
       have c66b0:((t1689.length:Int) == 0)=false:=beq_eq_false_iff_ne.mpr c66
       have c66b1:((t1689.length:Int) != 0)=true:=bne_iff_ne.mpr c66
       have c66b2:¬ (t1689=[]):=fun h_=>c66 (by rw[h_];rfl)
       obtain rfl:=Option.some.inj H
       obtain⟨Ao70,co70,eo70⟩:=Kd.R_slice HO_5.out
       subst eo70
       go_wp2
       go_ret
       exact⟨by first|rfl|(simp[errW_none,errW_some]<;>rfl)|(simp[*,errW_none,errW_some]<;>rfl),bz⟩
/-- THE ONE PURE STATEMENT of laws_FnOrdRaise: yours. -/
def laws_FnOrdRaise.Pure:Prop:=∀ (l0:List Int),l0.length≤maxLen→l0.length*1≤140737488351232→(∀ x ∈ l0,(Lit.int .u8 x).wf=true)→∃ k,laws_FnOrdRaise.f k l0=some true
theorem laws_FnOrdRaise.walk (P:laws_FnOrdRaise.Pure)(a0:Option Addr)(len0 cap0:Nat)(z0:List Int)(w:World)(w0:(a0=none∧len0=0∧cap0=0∧z0=[])∨∃ x,a0=some x∧len0≤cap0∧cap0≤maxLen∧z0.length=cap0∧(∀ i,i<z0.length→w.cell? (x.add i)=some (.int .u8 (z0.getD i 0)))∧∀ n ∈ z0,(Lit.int .u8 n).wf=true)(y0:len0*1≤140737488351232) :
  Calls Try.prog 14 #[.slice a0 len0 cap0] w fun e w'=>e=.returned (.bool true)∧Below w.heap.size w w':=by
 obtain⟨l0,rfl,hr0,hm0,hw0,hc0⟩:=ReadsInt.ofRowC w0
 obtain⟨k,h⟩:=P l0 hm0 y0 hw0
 refine(laws_FnOrdRaise.calls k _ _ l0 true w (Kd.C_of_reads (d:=(0:Int)) (h1:=fun _=>rfl) hr0) hc0 h).mono ?_
 rintro e w' ⟨rfl,hd⟩
 exact⟨rfl,hd⟩
end Go.Proofs.Ytfblcanijhnhmaa.P