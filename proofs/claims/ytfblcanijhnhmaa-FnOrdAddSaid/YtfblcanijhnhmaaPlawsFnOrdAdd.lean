/- One Go function comes to what its Lean function tells. -/
import Derived.Test.YtfblcanijhnhmaaP0
import Derived.Test.YtfblcanijhnhmaaPimplOrdAdd
import Derived.Test.YtfblcanijhnhmaaPimplOrdCompare
import Derived.Test.YtfblcanijhnhmaaPimplOrdValid
import Derived.Test.YtfblcanijhnhmaaPlawsalive
import Derived.Test.YtfblcanijhnhmaaPlawssameInts
import Derived.Test.YtfblcanijhnhmaaPspecDrawOrdAdd
import Derived.Test.YtfblcanijhnhmaaPspecOrdAdd
import Derived.Test.YtfblcanijhnhmaaPspecOrdValid
namespace Go.Proofs.Ytfblcanijhnhmaa.P
open Go.RowKit YtfblcanijhnhmaaW.PrintWords YtfblcanijhnhmaaW.PrintLast YtfblcanijhnhmaaW.PrintMore
set_option linter.unusedVariables false
set_option linter.unusedSimpArgs false
/-! ### laws_FnOrdAdd: function 9 -/
mutual
def laws_FnOrdAdd.j0:Nat→List Int→List Int→Bool→Option (Bool)
 | 0,_,_,_=>none
 | k+1,x0,x1,x28=>if x28=true then(some true) else((spec_DrawOrdAdd.f k x0).bind fun bt1423=>((impl_OrdAdd.f k bt1423.1 bt1423.2).bind fun bt1429=>((spec_OrdAdd.f k bt1423.1 bt1423.2).bind fun bt1433=>((laws_sameInts.f k bt1429.1 bt1433.1).bind fun t1437=>(if t1437=true then(laws_FnOrdAdd.j1 k x1 bt1423.1 bt1423.2 bt1429.1 bt1429.2 (bt1429.2 != bt1433.2)) else(laws_FnOrdAdd.j1 k x1 bt1423.1 bt1423.2 bt1429.1 bt1429.2 true))))))
def laws_FnOrdAdd.j1:Nat→List Int→List Int→List Int→List Int→Bool→Bool→Option (Bool)
 | 0,_,_,_,_,_,_=>none
 | k+1,x1,x5,x6,x7,x8,x54=>if x54=true then(some false) else(if x8=true then((spec_DrawOrdAdd.f k x1).bind fun bt1439=>((impl_OrdAdd.f k x7 bt1439.1).bind fun bt1445=>((impl_OrdAdd.f k x6 bt1439.1).bind fun bt1449=>((impl_OrdAdd.f k x5 bt1449.1).bind fun bt1453=>(if bt1445.2=true then(if bt1449.2=true then(if bt1453.2=true then((laws_sameInts.f k bt1445.1 bt1453.1).bind fun t1457=>(laws_FnOrdAdd.j2 k x5 x6 x7 bt1439.1 (!t1457))) else(laws_FnOrdAdd.j2 k x5 x6 x7 bt1439.1 false)) else(laws_FnOrdAdd.j2 k x5 x6 x7 bt1439.1 false)) else(laws_FnOrdAdd.j2 k x5 x6 x7 bt1439.1 false)))))) else(if(x7.length:Int)=0 then((laws_alive.f k).bind fun t1438=>(some t1438)) else(some false)))
def laws_FnOrdAdd.j2:Nat→List Int→List Int→List Int→List Int→Bool→Option (Bool)
 | 0,_,_,_,_,_=>none
 | k+1,x5,x6,x7,x11,x98=>if x98=true then(some false) else((impl_OrdAdd.f k x5 x11).bind fun bt1458=>(if bt1458.2=true then((spec_OrdValid.f k x11).bind fun t1462=>(if t1462=true then((impl_OrdCompare.f k bt1458.1 x7).bind fun t1463=>((impl_OrdCompare.f k x11 x6).bind fun t1464=>(laws_FnOrdAdd.j3 k x5 x6 x7 (t1463 != t1464)))) else(laws_FnOrdAdd.j3 k x5 x6 x7 false))) else(laws_FnOrdAdd.j3 k x5 x6 x7 false)))
def laws_FnOrdAdd.j3:Nat→List Int→List Int→List Int→Bool→Option (Bool)
 | 0,_,_,_,_=>none
 | k+1,x5,x6,x7,x118=>if x118=true then(some false) else((impl_OrdValid.f k x7).bind fun t1465=>(if t1465=true then((impl_OrdCompare.f k x7 x5).bind fun t1466=>(if t1466≥0 then((impl_OrdCompare.f k x7 x6).bind fun t1467=>(some (decide (t1467≥0)))) else(some false))) else(some false)))
end
def laws_FnOrdAdd.f (k:Nat)(l0:List Int)(l1:List Int):Option (Bool):=if(l0.length:Int)>1048576 then(laws_FnOrdAdd.j0 k l0 l1 true) else(laws_FnOrdAdd.j0 k l0 l1 (decide ((l1.length:Int)>1048576)))
theorem laws_FnOrdAdd.mono_l:∀ k,(∀ y0 y1 y2,LeO (laws_FnOrdAdd.j0 k y0 y1 y2) (laws_FnOrdAdd.j0 (k+1) y0 y1 y2))∧(∀ y0 y1 y2 y3 y4 y5,LeO (laws_FnOrdAdd.j1 k y0 y1 y2 y3 y4 y5) (laws_FnOrdAdd.j1 (k+1) y0 y1 y2 y3 y4 y5))∧(∀ y0 y1 y2 y3 y4,LeO (laws_FnOrdAdd.j2 k y0 y1 y2 y3 y4) (laws_FnOrdAdd.j2 (k+1) y0 y1 y2 y3 y4))∧(∀ y0 y1 y2 y3,LeO (laws_FnOrdAdd.j3 k y0 y1 y2 y3) (laws_FnOrdAdd.j3 (k+1) y0 y1 y2 y3))
 | 0=>⟨fun _ _ _ r h=>by simp[laws_FnOrdAdd.j0] at h,fun _ _ _ _ _ _ r h=>by simp[laws_FnOrdAdd.j1] at h,fun _ _ _ _ _ r h=>by simp[laws_FnOrdAdd.j2] at h,fun _ _ _ _ r h=>by simp[laws_FnOrdAdd.j3] at h⟩
 | k+1=>by
  obtain⟨ih0,ih1,ih2,ih3⟩:=laws_FnOrdAdd.mono_l k
  refine⟨?_,?_,?_,?_⟩
  ·intro y0 y1 y2
   unfold laws_FnOrdAdd.j0
   repeat' first|(with_reducible first|exact ih0 _ _ _|exact ih1 _ _ _ _ _ _|exact impl_OrdAdd.mono _ _ _|exact laws_sameInts.mono _ _ _|exact spec_DrawOrdAdd.mono _ _|exact spec_OrdAdd.mono _ _ _|exact LeO.refl _|exact LeO.none _|refine LeO.ite ?_ ?_|refine LeO.bind ?_ (fun _=>?_))|exact ih0 _ _ _|exact ih1 _ _ _ _ _ _|exact impl_OrdAdd.mono _ _ _|exact laws_sameInts.mono _ _ _|exact spec_DrawOrdAdd.mono _ _|exact spec_OrdAdd.mono _ _ _|exact LeO.none _|refine LeO.ite ?_ ?_|refine LeO.bind ?_ (fun _=>?_)
  ·intro y0 y1 y2 y3 y4 y5
   unfold laws_FnOrdAdd.j1
   repeat' first|(with_reducible first|exact ih1 _ _ _ _ _ _|exact ih2 _ _ _ _ _|exact impl_OrdAdd.mono _ _ _|exact laws_alive.mono _|exact laws_sameInts.mono _ _ _|exact spec_DrawOrdAdd.mono _ _|exact LeO.refl _|exact LeO.none _|refine LeO.ite ?_ ?_|refine LeO.bind ?_ (fun _=>?_))|exact ih1 _ _ _ _ _ _|exact ih2 _ _ _ _ _|exact impl_OrdAdd.mono _ _ _|exact laws_alive.mono _|exact laws_sameInts.mono _ _ _|exact spec_DrawOrdAdd.mono _ _|exact LeO.none _|refine LeO.ite ?_ ?_|refine LeO.bind ?_ (fun _=>?_)
  ·intro y0 y1 y2 y3 y4
   unfold laws_FnOrdAdd.j2
   repeat' first|(with_reducible first|exact ih2 _ _ _ _ _|exact ih3 _ _ _ _|exact impl_OrdAdd.mono _ _ _|exact impl_OrdCompare.mono _ _ _|exact spec_OrdValid.mono _ _|exact LeO.refl _|exact LeO.none _|refine LeO.ite ?_ ?_|refine LeO.bind ?_ (fun _=>?_))|exact ih2 _ _ _ _ _|exact ih3 _ _ _ _|exact impl_OrdAdd.mono _ _ _|exact impl_OrdCompare.mono _ _ _|exact spec_OrdValid.mono _ _|exact LeO.none _|refine LeO.ite ?_ ?_|refine LeO.bind ?_ (fun _=>?_)
  ·intro y0 y1 y2 y3
   unfold laws_FnOrdAdd.j3
   repeat' first|(with_reducible first|exact ih3 _ _ _ _|exact impl_OrdCompare.mono _ _ _|exact impl_OrdValid.mono _ _|exact LeO.refl _|exact LeO.none _|refine LeO.ite ?_ ?_|refine LeO.bind ?_ (fun _=>?_))|exact ih3 _ _ _ _|exact impl_OrdCompare.mono _ _ _|exact impl_OrdValid.mono _ _|exact LeO.none _|refine LeO.ite ?_ ?_|refine LeO.bind ?_ (fun _=>?_)
theorem laws_FnOrdAdd.mono:∀ a0 a1 k,LeO (laws_FnOrdAdd.f k a0 a1) (laws_FnOrdAdd.f (k+1) a0 a1):=by
 intro a0 a1 k
 obtain⟨ih0,ih1,ih2,ih3⟩:=laws_FnOrdAdd.mono_l k
 unfold laws_FnOrdAdd.f
 repeat' first|(with_reducible first|exact ih0 _ _ _|exact ih1 _ _ _ _ _ _|exact ih2 _ _ _ _ _|exact ih3 _ _ _ _|exact LeO.refl _|exact LeO.none _|refine LeO.ite ?_ ?_|refine LeO.bind ?_ (fun _=>?_))|exact ih0 _ _ _|exact ih1 _ _ _ _ _ _|exact ih2 _ _ _ _ _|exact ih3 _ _ _ _|exact LeO.none _|refine LeO.ite ?_ ?_|refine LeO.bind ?_ (fun _=>?_)
set_option maxHeartbeats 8000000 in
set_option maxRecDepth 100000 in
theorem laws_FnOrdAdd.calls (k:Nat)(A0:Option Addr)(c0:Nat)(l0:List Int)(A1:Option Addr)(c1:Nat)(l1:List Int)(r:Bool)(w:World)(hr0:Kd.C (Kd.int .u8) w A0 l0.length l0)(hc0:l0.length≤c0)(hr1:Kd.C (Kd.int .u8) w A1 l1.length l1)(hc1:l1.length≤c1)(h:laws_FnOrdAdd.f k l0 l1=some r) :
  Calls Try.prog 9 #[.slice A0 l0.length c0,.slice A1 l1.length c1] w fun e w'=>e=.returned (.bool r)∧Below w.heap.size w w':=by
 have HR0:=Aside0.mk hr0
 have HC0:=Aside0.mk hc0
 clear hr0 hc0
 have HR1:=Aside0.mk hr1
 have HC1:=Aside0.mk hc1
 clear hr1 hc1
 have HB:=Aside0.mk (Below.refl w.heap.size w)
 have H:(if(l0.length:Int)>1048576 then(laws_FnOrdAdd.j0 k l0 l1 true) else(laws_FnOrdAdd.j0 k l0 l1 (decide ((l1.length:Int)>1048576))))=some r:=h
 clear h
 have HC3:=Aside0.mk H
 clear H
 go_enter Try.func9,Try.ntmps9
 go_upto_region 1 with (fail)
 go_cut [28] (fun v28 wc=>∃ (kq:Nat) (x28_2:Bool),v28=.bool x28_2∧Aside0 (laws_FnOrdAdd.j0 kq l0 l1 x28_2=some r)∧Aside0 (kq≤k)∧Aside0 (Below w.heap.size w wc))
 case first =>
  have H:=HC3.out
  clear HC3
  by_cases c4:(l0.length:Int)>1048576
  ·rw[if_pos c4] at H
   have c4b0:decide (1048576<(l0.length:Int))=true:=decide_eq_true c4
   have c4b1:decide (1048576<l0.length)=true:=decide_eq_true (by omega)
   clear c4
   (first|rw[c4b0]|(simp only[i64_w,i32_w];rw[c4b0])|skip)
   have H':=Aside0.mk H
   clear H
   go_wp2
   go_meet
   case rel=>exact⟨_,(true),(by first|rfl|(simp;done)|(simp[*];done)),H',⟨by first|omega|exact Nat.le_refl _⟩,⟨bz⟩⟩
  ·rw[if_neg c4] at H
   have c4b0:decide (1048576<(l0.length:Int))=false:=decide_eq_false c4
   have c4b1:decide (1048576<l0.length)=false:=decide_eq_false (by omega)
   clear c4
   (first|rw[c4b0]|(simp only[i64_w,i32_w];rw[c4b0])|skip)
   have H':=Aside0.mk H
   clear H
   go_wp2
   go_meet
   case rel=>exact⟨_,(decide ((l1.length:Int)>1048576)),(by first|rfl|(simp;done)|(simp[*];done)),H',⟨by first|omega|exact Nat.le_refl _⟩,⟨bz⟩⟩
 case rest =>
  clear HC3
  try clear c1
  try clear p2
  try clear c4
  try clear c4b0
  try clear c4b1
  obtain⟨kq,x28_2,rfl,HA,HJ2,HB⟩:=hcut
  cases kq with
  | zero=>exact absurd HA.out (by simp[laws_FnOrdAdd.j0])
  | succ kj2 =>
   have H:=HA.out
   clear HA
   simp only[laws_FnOrdAdd.j0] at H
   by_cases c5:x28_2=true
   ·subst c5
    have H1:(some true)=some r:=by rw[if_pos rfl] at H;exact H
    clear H
    have H:=H1
    clear H1
    obtain rfl:=Option.some.inj H
    go_wp2
    go_ret
    exact⟨by first|rfl|(simp[errW_none,errW_some]<;>rfl)|(simp[*,errW_none,errW_some]<;>rfl),bz⟩
   ·replace c5:=Bool.eq_false_iff.mpr c5
    subst c5
    have H1:((spec_DrawOrdAdd.f kj2 l0).bind fun bt1423=>((impl_OrdAdd.f kj2 bt1423.1 bt1423.2).bind fun bt1429=>((spec_OrdAdd.f kj2 bt1423.1 bt1423.2).bind fun bt1433=>((laws_sameInts.f kj2 bt1429.1 bt1433.1).bind fun t1437=>(if t1437=true then(laws_FnOrdAdd.j1 kj2 l1 bt1423.1 bt1423.2 bt1429.1 bt1429.2 (bt1429.2 != bt1433.2)) else(laws_FnOrdAdd.j1 kj2 l1 bt1423.1 bt1423.2 bt1429.1 bt1429.2 true))))))=some r:=by rw[if_neg (show ¬ (false=true) by decide)] at H;exact H
    clear H
    have H:=H1
    clear H1
    replace H:=Option.bind_eq_some_iff.mp H
    obtain⟨⟨t1423,t1424⟩,A60,H⟩:=H
    replace H:((impl_OrdAdd.f kj2 t1423 t1424).bind fun bt1429=>((spec_OrdAdd.f kj2 t1423 t1424).bind fun bt1433=>((laws_sameInts.f kj2 bt1429.1 bt1433.1).bind fun t1437=>(if t1437=true then(laws_FnOrdAdd.j1 kj2 l1 t1423 t1424 bt1429.1 bt1429.2 (bt1429.2 != bt1433.2)) else(laws_FnOrdAdd.j1 kj2 l1 t1423 t1424 bt1429.1 bt1429.2 true)))))=some r:=H
    have A6:=Aside0.mk A60
    clear A60
    replace H:=Option.bind_eq_some_iff.mp H
    obtain⟨⟨t1429,t1430⟩,A70,H⟩:=H
    replace H:((spec_OrdAdd.f kj2 t1423 t1424).bind fun bt1433=>((laws_sameInts.f kj2 t1429 bt1433.1).bind fun t1437=>(if t1437=true then(laws_FnOrdAdd.j1 kj2 l1 t1423 t1424 t1429 t1430 (t1430 != bt1433.2)) else(laws_FnOrdAdd.j1 kj2 l1 t1423 t1424 t1429 t1430 true))))=some r:=H
    have A7:=Aside0.mk A70
    clear A70
    replace H:=Option.bind_eq_some_iff.mp H
    obtain⟨⟨t1433,t1434⟩,A80,H⟩:=H
    replace H:((laws_sameInts.f kj2 t1429 t1433).bind fun t1437=>(if t1437=true then(laws_FnOrdAdd.j1 kj2 l1 t1423 t1424 t1429 t1430 (t1430 != t1434)) else(laws_FnOrdAdd.j1 kj2 l1 t1423 t1424 t1429 t1430 true)))=some r:=H
    have A8:=Aside0.mk A80
    clear A80
    have HC9:=Aside0.mk H
    clear H
    go_upto_region 6 with (first|((with_reducible refine gate_callee (f:=31) rfl ?_);refine goesL_ (some 31) rfl rfl Try.func31 (by kernel_rfl) rfl #[.slice A0 l0.length c0] rfl az ?_;(with_reducible refine(spec_DrawOrdAdd.calls kj2 _ _ l0 t1423 t1424 _ ?side1 ?side2 A6.out).mono ?_);(case side1=>exact Kd.Cz (Kd.C_below HR0.out HB.out));(case side2=>exact HC0.out);rintro e w10 ⟨v1425,v1427,rfl,ho0,ho1,hb⟩;refine⟨_,rfl,?_⟩;have HO1426:=Aside0.mk (Kd.R_lower ho0 (below_size bz));have HO1428:=Aside0.mk (Kd.R_lower ho1 (below_size bz));replace HB:=Aside0.mk (below_step bz hb);(try clear hb);(try clear hb2);(try clear hk);(try clear hi);(try clear ho0);(try clear ho1);obtain⟨Ao11,co11,eo11⟩:=Kd.R_slice HO1426.out;subst eo11;obtain⟨Ao12,co12,eo12⟩:=Kd.R_slice HO1428.out;subst eo12)|((with_reducible refine gate_callee (f:=17) rfl ?_);refine goesL_ (some 37) rfl rfl Try.func17 (by kernel_rfl) rfl #[.slice Ao11 t1423.length co11,.slice Ao12 t1424.length co12] rfl az ?_;(with_reducible refine(impl_OrdAdd.calls kj2 _ _ t1423 _ _ t1424 t1429 t1430 _ ?side1 ?side2 ?side3 ?side4 A7.out).mono ?_);(case side1=>exact Kd.Cz (Kd.R_reads' HO1426.out).2.2);(case side2=>exact(Kd.R_reads' HO1426.out).2.1);(case side3=>exact Kd.Cz (Kd.R_reads' HO1428.out).2.2);(case side4=>exact(Kd.R_reads' HO1428.out).2.1);rintro e w13 ⟨v1431,rfl,ho0,hb⟩;refine⟨_,rfl,?_⟩;have HO1432:=Aside0.mk (Kd.R_lower (Kd.R_new' (Kd.R_new' ho0 (Kd.R_lt (Kd.Rz HO1426.out))) (Kd.R_lt (Kd.Rz HO1428.out))) (below_size bz));replace HO1426:=Aside0.mk (Kd.R_elder' (Kd.Rz HO1426.out) (Kd.R_base ho0) hb);replace HO1428:=Aside0.mk (Kd.R_elder' (Kd.Rz HO1428.out) (Kd.R_base ho0) hb);replace HB:=Aside0.mk (below_step bz hb);(try clear hb);(try clear hb2);(try clear hk);(try clear hi);(try clear ho0))|((with_reducible refine gate_callee (f:=15) rfl ?_);refine goesL_ (some 43) rfl rfl Try.func15 (by kernel_rfl) rfl #[.slice Ao11 t1423.length co11,.slice Ao12 t1424.length co12] rfl az ?_;(with_reducible refine(spec_OrdAdd.calls kj2 _ _ t1423 _ _ t1424 t1433 t1434 _ ?side1 ?side2 ?side3 ?side4 A8.out).mono ?_);(case side1=>exact Kd.Cz (Kd.R_reads' HO1426.out).2.2);(case side2=>exact(Kd.R_reads' HO1426.out).2.1);(case side3=>exact Kd.Cz (Kd.R_reads' HO1428.out).2.2);(case side4=>exact(Kd.R_reads' HO1428.out).2.1);rintro e w14 ⟨v1435,rfl,ho0,hb⟩;refine⟨_,rfl,?_⟩;have HO1436:=Aside0.mk (Kd.R_lower (Kd.R_new' (Kd.R_new' (Kd.R_new' ho0 (Kd.R_lt (Kd.Rz HO1426.out))) (Kd.R_lt (Kd.Rz HO1428.out))) (Kd.R_lt (Kd.Rz HO1432.out))) (below_size bz));replace HO1426:=Aside0.mk (Kd.R_elder' (Kd.Rz HO1426.out) (Kd.R_base ho0) hb);replace HO1428:=Aside0.mk (Kd.R_elder' (Kd.Rz HO1428.out) (Kd.R_base ho0) hb);replace HO1432:=Aside0.mk (Kd.R_elder' (Kd.Rz HO1432.out) (Kd.R_base ho0) hb);replace HB:=Aside0.mk (below_step bz hb);(try clear hb);(try clear hb2);(try clear hk);(try clear hi);(try clear ho0)))
    (try simp only[Act.put,List.setIfInBounds_toArray,List.set_cons_zero,List.set_cons_succ])
    go_cut [54] (fun v54 wc=>∃ (kq:Nat) (x54_8:Bool),v54=.bool x54_8∧Aside0 (laws_FnOrdAdd.j1 kq l1 t1423 t1424 t1429 t1430 x54_8=some r)∧Aside0 (kq≤kj2)∧Aside0 (Kd.R (Kd.int .i64) 3 wc w.heap.size (fun k_=>some k_≠((.slice Ao12 t1424.length co12):Value).ownBlock∧some k_≠(v1431:Value).ownBlock) (.slice Ao11 t1423.length co11) t1423)∧Aside0 (Kd.R (Kd.int .i64) 3 wc w.heap.size (fun k_=>some k_≠((.slice Ao11 t1423.length co11):Value).ownBlock∧some k_≠(v1431:Value).ownBlock) (.slice Ao12 t1424.length co12) t1424)∧Aside0 (Kd.R (Kd.int .i64) 3 wc w.heap.size (fun k_=>some k_≠((.slice Ao11 t1423.length co11):Value).ownBlock∧some k_≠((.slice Ao12 t1424.length co12):Value).ownBlock) v1431 t1429)∧Aside0 (Below w.heap.size w wc))
    case first =>
     have H:=HC9.out
     clear HC9
     replace H:=Option.bind_eq_some_iff.mp H
     obtain⟨t1437,A150,H⟩:=H
     replace H:(if t1437=true then(laws_FnOrdAdd.j1 kj2 l1 t1423 t1424 t1429 t1430 (t1430 != t1434)) else(laws_FnOrdAdd.j1 kj2 l1 t1423 t1424 t1429 t1430 true))=some r:=H
     have A15:=Aside0.mk A150
     clear A150
     by_cases c16:t1437=true
     ·subst c16
      have H1:(laws_FnOrdAdd.j1 kj2 l1 t1423 t1424 t1429 t1430 (t1430 != t1434))=some r:=by rw[if_pos rfl] at H;exact H
      clear H
      have H:=H1
      clear H1
      have H':=Aside0.mk H
      clear H
      obtain⟨Ao17,co17,eo17⟩:=Kd.R_slice HO1432.out
      subst eo17
      obtain⟨Ao18,co18,eo18⟩:=Kd.R_slice HO1436.out
      subst eo18
      go_wp2_with (first|((with_reducible refine gate_callee (f:=32) rfl ?_);refine goesL_ (some 48) rfl rfl Try.func32 (by kernel_rfl) rfl #[.slice Ao17 t1429.length co17,.slice Ao18 t1433.length co18] rfl az ?_;(with_reducible refine(laws_sameInts.calls kj2 _ _ t1429 _ _ t1433 true _ ?side1 ?side2 ?side3 ?side4 A15.out).mono ?_);(case side1=>exact Kd.Cz (Kd.R_reads' HO1432.out).2.2);(case side2=>exact(Kd.R_reads' HO1432.out).2.1);(case side3=>exact Kd.Cz (Kd.R_reads' HO1436.out).2.2);(case side4=>exact(Kd.R_reads' HO1436.out).2.1);rintro e w' ⟨rfl,⟨nd,rfl⟩⟩;refine⟨_,rfl,?_⟩))
      go_meet
      case rel=>exact⟨_,((t1430 != t1434)),(by first|rfl|(simp;done)|(simp[*];done)),H',⟨by have:=HJ2.out;first|omega|exact Nat.le_refl _⟩,⟨Kd.Rz <| Kd.R_mono HO1426.out (fun _ hk=>⟨hk.1.1,hk.1.2⟩)⟩,⟨Kd.Rz <| Kd.R_mono HO1428.out (fun _ hk=>⟨hk.1.1,hk.1.2⟩)⟩,⟨Kd.Rz <| Kd.R_mono HO1432.out (fun _ hk=>⟨hk.1.1.2,hk.1.2⟩)⟩,⟨bz⟩⟩
     ·replace c16:=Bool.eq_false_iff.mpr c16
      subst c16
      have H1:(laws_FnOrdAdd.j1 kj2 l1 t1423 t1424 t1429 t1430 true)=some r:=by rw[if_neg (show ¬ (false=true) by decide)] at H;exact H
      clear H
      have H:=H1
      clear H1
      have H':=Aside0.mk H
      clear H
      obtain⟨Ao19,co19,eo19⟩:=Kd.R_slice HO1432.out
      subst eo19
      obtain⟨Ao20,co20,eo20⟩:=Kd.R_slice HO1436.out
      subst eo20
      go_wp2_with (first|((with_reducible refine gate_callee (f:=32) rfl ?_);refine goesL_ (some 48) rfl rfl Try.func32 (by kernel_rfl) rfl #[.slice Ao19 t1429.length co19,.slice Ao20 t1433.length co20] rfl az ?_;(with_reducible refine(laws_sameInts.calls kj2 _ _ t1429 _ _ t1433 false _ ?side1 ?side2 ?side3 ?side4 A15.out).mono ?_);(case side1=>exact Kd.Cz (Kd.R_reads' HO1432.out).2.2);(case side2=>exact(Kd.R_reads' HO1432.out).2.1);(case side3=>exact Kd.Cz (Kd.R_reads' HO1436.out).2.2);(case side4=>exact(Kd.R_reads' HO1436.out).2.1);rintro e w' ⟨rfl,⟨nd,rfl⟩⟩;refine⟨_,rfl,?_⟩))
      go_meet
      case rel=>exact⟨_,(true),(by first|rfl|(simp;done)|(simp[*];done)),H',⟨by have:=HJ2.out;first|omega|exact Nat.le_refl _⟩,⟨Kd.Rz <| Kd.R_mono HO1426.out (fun _ hk=>⟨hk.1.1,hk.1.2⟩)⟩,⟨Kd.Rz <| Kd.R_mono HO1428.out (fun _ hk=>⟨hk.1.1,hk.1.2⟩)⟩,⟨Kd.Rz <| Kd.R_mono HO1432.out (fun _ hk=>⟨hk.1.1.2,hk.1.2⟩)⟩,⟨bz⟩⟩
    case rest =>
     clear HC9
     try clear c1
     try clear p2
     try clear c3
     try clear c4
     try clear c4b0
     try clear c4b1
     try clear c5
     try clear c9
     try clear c15
     try clear c16
     try clear c17
     try clear p2
     obtain⟨kq,x54_8,rfl,HA,HJ8,HO_5,HO_6,HO_7,HB⟩:=hcut
     cases kq with
     | zero=>exact absurd HA.out (by simp[laws_FnOrdAdd.j1])
     | succ kj8 =>
      have H:=HA.out
      clear HA
      simp only[laws_FnOrdAdd.j1] at H
      by_cases c21:x54_8=true
      ·subst c21
       have H1:(some false)=some r:=by rw[if_pos rfl] at H;exact H
       clear H
       have H:=H1
       clear H1
       obtain rfl:=Option.some.inj H
       go_wp2
       go_ret
       exact⟨by first|rfl|(simp[errW_none,errW_some]<;>rfl)|(simp[*,errW_none,errW_some]<;>rfl),bz⟩
      ·replace c21:=Bool.eq_false_iff.mpr c21
       subst c21
       have H1:(if t1430=true then((spec_DrawOrdAdd.f kj8 l1).bind fun bt1439=>((impl_OrdAdd.f kj8 t1429 bt1439.1).bind fun bt1445=>((impl_OrdAdd.f kj8 t1424 bt1439.1).bind fun bt1449=>((impl_OrdAdd.f kj8 t1423 bt1449.1).bind fun bt1453=>(if bt1445.2=true then(if bt1449.2=true then(if bt1453.2=true then((laws_sameInts.f kj8 bt1445.1 bt1453.1).bind fun t1457=>(laws_FnOrdAdd.j2 kj8 t1423 t1424 t1429 bt1439.1 (!t1457))) else(laws_FnOrdAdd.j2 kj8 t1423 t1424 t1429 bt1439.1 false)) else(laws_FnOrdAdd.j2 kj8 t1423 t1424 t1429 bt1439.1 false)) else(laws_FnOrdAdd.j2 kj8 t1423 t1424 t1429 bt1439.1 false)))))) else(if(t1429.length:Int)=0 then((laws_alive.f kj8).bind fun t1438=>(some t1438)) else(some false)))=some r:=by rw[if_neg (show ¬ (false=true) by decide)] at H;exact H
       clear H
       have H:=H1
       clear H1
       by_cases c22:t1430=true
       ·subst c22
        have H1:((spec_DrawOrdAdd.f kj8 l1).bind fun bt1439=>((impl_OrdAdd.f kj8 t1429 bt1439.1).bind fun bt1445=>((impl_OrdAdd.f kj8 t1424 bt1439.1).bind fun bt1449=>((impl_OrdAdd.f kj8 t1423 bt1449.1).bind fun bt1453=>(if bt1445.2=true then(if bt1449.2=true then(if bt1453.2=true then((laws_sameInts.f kj8 bt1445.1 bt1453.1).bind fun t1457=>(laws_FnOrdAdd.j2 kj8 t1423 t1424 t1429 bt1439.1 (!t1457))) else(laws_FnOrdAdd.j2 kj8 t1423 t1424 t1429 bt1439.1 false)) else(laws_FnOrdAdd.j2 kj8 t1423 t1424 t1429 bt1439.1 false)) else(laws_FnOrdAdd.j2 kj8 t1423 t1424 t1429 bt1439.1 false))))))=some r:=by rw[if_pos rfl] at H;exact H
        clear H
        have H:=H1
        clear H1
        replace H:=Option.bind_eq_some_iff.mp H
        obtain⟨⟨t1439,t1440⟩,A230,H⟩:=H
        replace H:((impl_OrdAdd.f kj8 t1429 t1439).bind fun bt1445=>((impl_OrdAdd.f kj8 t1424 t1439).bind fun bt1449=>((impl_OrdAdd.f kj8 t1423 bt1449.1).bind fun bt1453=>(if bt1445.2=true then(if bt1449.2=true then(if bt1453.2=true then((laws_sameInts.f kj8 bt1445.1 bt1453.1).bind fun t1457=>(laws_FnOrdAdd.j2 kj8 t1423 t1424 t1429 t1439 (!t1457))) else(laws_FnOrdAdd.j2 kj8 t1423 t1424 t1429 t1439 false)) else(laws_FnOrdAdd.j2 kj8 t1423 t1424 t1429 t1439 false)) else(laws_FnOrdAdd.j2 kj8 t1423 t1424 t1429 t1439 false)))))=some r:=H
        have A23:=Aside0.mk A230
        clear A230
        replace H:=Option.bind_eq_some_iff.mp H
        obtain⟨⟨t1445,t1446⟩,A240,H⟩:=H
        replace H:((impl_OrdAdd.f kj8 t1424 t1439).bind fun bt1449=>((impl_OrdAdd.f kj8 t1423 bt1449.1).bind fun bt1453=>(if t1446=true then(if bt1449.2=true then(if bt1453.2=true then((laws_sameInts.f kj8 t1445 bt1453.1).bind fun t1457=>(laws_FnOrdAdd.j2 kj8 t1423 t1424 t1429 t1439 (!t1457))) else(laws_FnOrdAdd.j2 kj8 t1423 t1424 t1429 t1439 false)) else(laws_FnOrdAdd.j2 kj8 t1423 t1424 t1429 t1439 false)) else(laws_FnOrdAdd.j2 kj8 t1423 t1424 t1429 t1439 false))))=some r:=H
        have A24:=Aside0.mk A240
        clear A240
        replace H:=Option.bind_eq_some_iff.mp H
        obtain⟨⟨t1449,t1450⟩,A250,H⟩:=H
        replace H:((impl_OrdAdd.f kj8 t1423 t1449).bind fun bt1453=>(if t1446=true then(if t1450=true then(if bt1453.2=true then((laws_sameInts.f kj8 t1445 bt1453.1).bind fun t1457=>(laws_FnOrdAdd.j2 kj8 t1423 t1424 t1429 t1439 (!t1457))) else(laws_FnOrdAdd.j2 kj8 t1423 t1424 t1429 t1439 false)) else(laws_FnOrdAdd.j2 kj8 t1423 t1424 t1429 t1439 false)) else(laws_FnOrdAdd.j2 kj8 t1423 t1424 t1429 t1439 false)))=some r:=H
        have A25:=Aside0.mk A250
        clear A250
        replace H:=Option.bind_eq_some_iff.mp H
        obtain⟨⟨t1453,t1454⟩,A260,H⟩:=H
        replace H:(if t1446=true then(if t1450=true then(if t1454=true then((laws_sameInts.f kj8 t1445 t1453).bind fun t1457=>(laws_FnOrdAdd.j2 kj8 t1423 t1424 t1429 t1439 (!t1457))) else(laws_FnOrdAdd.j2 kj8 t1423 t1424 t1429 t1439 false)) else(laws_FnOrdAdd.j2 kj8 t1423 t1424 t1429 t1439 false)) else(laws_FnOrdAdd.j2 kj8 t1423 t1424 t1429 t1439 false))=some r:=H
        have A26:=Aside0.mk A260
        clear A260
        have HC27:=Aside0.mk H
        clear H
        go_upto_region 14 with (first|((with_reducible refine gate_callee (f:=31) rfl ?_);refine goesL_ (some 65) rfl rfl Try.func31 (by kernel_rfl) rfl #[.slice A1 l1.length c1] rfl az ?_;(with_reducible refine(spec_DrawOrdAdd.calls kj8 _ _ l1 t1439 t1440 _ ?side1 ?side2 A23.out).mono ?_);(case side1=>exact Kd.Cz (Kd.C_below HR1.out HB.out));(case side2=>exact HC1.out);rintro e w28 ⟨v1441,v1443,rfl,ho0,ho1,hb⟩;refine⟨_,rfl,?_⟩;have HO1442:=Aside0.mk (Kd.R_lower (Kd.R_new' (Kd.R_new' (Kd.R_new' ho0 (Kd.R_lt (Kd.Rz HO_5.out))) (Kd.R_lt (Kd.Rz HO_6.out))) (Kd.R_lt (Kd.Rz HO_7.out))) (below_size bz));have HO1444:=Aside0.mk (Kd.R_lower (Kd.R_new' (Kd.R_new' (Kd.R_new' ho1 (Kd.R_lt (Kd.Rz HO_5.out))) (Kd.R_lt (Kd.Rz HO_6.out))) (Kd.R_lt (Kd.Rz HO_7.out))) (below_size bz));replace HO_5:=Aside0.mk (Kd.R_mono (Kd.R_told (Kd.R_told (Kd.R_old (Kd.Rz HO_5.out) hb) (Kd.R_base ho0)) (Kd.R_base ho1)) (fun _ h_=>h_.1));replace HO_6:=Aside0.mk (Kd.R_mono (Kd.R_told (Kd.R_told (Kd.R_old (Kd.Rz HO_6.out) hb) (Kd.R_base ho0)) (Kd.R_base ho1)) (fun _ h_=>h_.1));replace HO_7:=Aside0.mk (Kd.R_mono (Kd.R_told (Kd.R_told (Kd.R_old (Kd.Rz HO_7.out) hb) (Kd.R_base ho0)) (Kd.R_base ho1)) (fun _ h_=>h_.1));replace HB:=Aside0.mk (below_step bz hb);(try clear hb);(try clear hb2);(try clear hk);(try clear hi);(try clear ho0);(try clear ho1);obtain⟨Ao29,co29,eo29⟩:=Kd.R_slice HO_7.out;subst eo29;obtain⟨Ao30,co30,eo30⟩:=Kd.R_slice HO1442.out;subst eo30)|((with_reducible refine gate_callee (f:=17) rfl ?_);refine goesL_ (some 71) rfl rfl Try.func17 (by kernel_rfl) rfl #[.slice Ao29 t1429.length co29,.slice Ao30 t1439.length co30] rfl az ?_;(with_reducible refine(impl_OrdAdd.calls kj8 _ _ t1429 _ _ t1439 t1445 t1446 _ ?side1 ?side2 ?side3 ?side4 A24.out).mono ?_);(case side1=>exact Kd.Cz (Kd.R_reads' HO_7.out).2.2);(case side2=>exact(Kd.R_reads' HO_7.out).2.1);(case side3=>exact Kd.Cz (Kd.R_reads' HO1442.out).2.2);(case side4=>exact(Kd.R_reads' HO1442.out).2.1);rintro e w31 ⟨v1447,rfl,ho0,hb⟩;refine⟨_,rfl,?_⟩;have HO1448:=Aside0.mk (Kd.R_lower (Kd.R_new' (Kd.R_new' (Kd.R_new' (Kd.R_new' (Kd.R_new' ho0 (Kd.R_lt (Kd.Rz HO_5.out))) (Kd.R_lt (Kd.Rz HO_6.out))) (Kd.R_lt (Kd.Rz HO_7.out))) (Kd.R_lt (Kd.Rz HO1442.out))) (Kd.R_lt (Kd.Rz HO1444.out))) (below_size bz));replace HO_5:=Aside0.mk (Kd.R_elder' (Kd.Rz HO_5.out) (Kd.R_base ho0) hb);replace HO_6:=Aside0.mk (Kd.R_elder' (Kd.Rz HO_6.out) (Kd.R_base ho0) hb);replace HO_7:=Aside0.mk (Kd.R_elder' (Kd.Rz HO_7.out) (Kd.R_base ho0) hb);replace HO1442:=Aside0.mk (Kd.R_elder' (Kd.Rz HO1442.out) (Kd.R_base ho0) hb);replace HO1444:=Aside0.mk (Kd.R_elder' (Kd.Rz HO1444.out) (Kd.R_base ho0) hb);replace HB:=Aside0.mk (below_step bz hb);(try clear hb);(try clear hb2);(try clear hk);(try clear hi);(try clear ho0))|((with_reducible refine gate_callee (f:=17) rfl ?_);refine goesL_ (some 77) rfl rfl Try.func17 (by kernel_rfl) rfl #[.slice Ao12 t1424.length co12,.slice Ao30 t1439.length co30] rfl az ?_;(with_reducible refine(impl_OrdAdd.calls kj8 _ _ t1424 _ _ t1439 t1449 t1450 _ ?side1 ?side2 ?side3 ?side4 A25.out).mono ?_);(case side1=>exact Kd.Cz (Kd.R_reads' HO_6.out).2.2);(case side2=>exact(Kd.R_reads' HO_6.out).2.1);(case side3=>exact Kd.Cz (Kd.R_reads' HO1442.out).2.2);(case side4=>exact(Kd.R_reads' HO1442.out).2.1);rintro e w32 ⟨v1451,rfl,ho0,hb⟩;refine⟨_,rfl,?_⟩;have HO1452:=Aside0.mk (Kd.R_lower (Kd.R_new' (Kd.R_new' (Kd.R_new' (Kd.R_new' (Kd.R_new' (Kd.R_new' ho0 (Kd.R_lt (Kd.Rz HO_5.out))) (Kd.R_lt (Kd.Rz HO_6.out))) (Kd.R_lt (Kd.Rz HO_7.out))) (Kd.R_lt (Kd.Rz HO1442.out))) (Kd.R_lt (Kd.Rz HO1444.out))) (Kd.R_lt (Kd.Rz HO1448.out))) (below_size bz));replace HO_5:=Aside0.mk (Kd.R_elder' (Kd.Rz HO_5.out) (Kd.R_base ho0) hb);replace HO_6:=Aside0.mk (Kd.R_elder' (Kd.Rz HO_6.out) (Kd.R_base ho0) hb);replace HO_7:=Aside0.mk (Kd.R_elder' (Kd.Rz HO_7.out) (Kd.R_base ho0) hb);replace HO1442:=Aside0.mk (Kd.R_elder' (Kd.Rz HO1442.out) (Kd.R_base ho0) hb);replace HO1444:=Aside0.mk (Kd.R_elder' (Kd.Rz HO1444.out) (Kd.R_base ho0) hb);replace HO1448:=Aside0.mk (Kd.R_elder' (Kd.Rz HO1448.out) (Kd.R_base ho0) hb);replace HB:=Aside0.mk (below_step bz hb);(try clear hb);(try clear hb2);(try clear hk);(try clear hi);(try clear ho0);obtain⟨Ao33,co33,eo33⟩:=Kd.R_slice HO1452.out;subst eo33)|((with_reducible refine gate_callee (f:=17) rfl ?_);refine goesL_ (some 83) rfl rfl Try.func17 (by kernel_rfl) rfl #[.slice Ao11 t1423.length co11,.slice Ao33 t1449.length co33] rfl az ?_;(with_reducible refine(impl_OrdAdd.calls kj8 _ _ t1423 _ _ t1449 t1453 t1454 _ ?side1 ?side2 ?side3 ?side4 A26.out).mono ?_);(case side1=>exact Kd.Cz (Kd.R_reads' HO_5.out).2.2);(case side2=>exact(Kd.R_reads' HO_5.out).2.1);(case side3=>exact Kd.Cz (Kd.R_reads' HO1452.out).2.2);(case side4=>exact(Kd.R_reads' HO1452.out).2.1);rintro e w34 ⟨v1455,rfl,ho0,hb⟩;refine⟨_,rfl,?_⟩;have HO1456:=Aside0.mk (Kd.R_lower (Kd.R_new' (Kd.R_new' (Kd.R_new' (Kd.R_new' (Kd.R_new' (Kd.R_new' (Kd.R_new' ho0 (Kd.R_lt (Kd.Rz HO_5.out))) (Kd.R_lt (Kd.Rz HO_6.out))) (Kd.R_lt (Kd.Rz HO_7.out))) (Kd.R_lt (Kd.Rz HO1442.out))) (Kd.R_lt (Kd.Rz HO1444.out))) (Kd.R_lt (Kd.Rz HO1448.out))) (Kd.R_lt (Kd.Rz HO1452.out))) (below_size bz));replace HO_5:=Aside0.mk (Kd.R_elder' (Kd.Rz HO_5.out) (Kd.R_base ho0) hb);replace HO_6:=Aside0.mk (Kd.R_elder' (Kd.Rz HO_6.out) (Kd.R_base ho0) hb);replace HO_7:=Aside0.mk (Kd.R_elder' (Kd.Rz HO_7.out) (Kd.R_base ho0) hb);replace HO1442:=Aside0.mk (Kd.R_elder' (Kd.Rz HO1442.out) (Kd.R_base ho0) hb);replace HO1444:=Aside0.mk (Kd.R_elder' (Kd.Rz HO1444.out) (Kd.R_base ho0) hb);replace HO1448:=Aside0.mk (Kd.R_elder' (Kd.Rz HO1448.out) (Kd.R_base ho0) hb);replace HO1452:=Aside0.mk (Kd.R_elder' (Kd.Rz HO1452.out) (Kd.R_base ho0) hb);replace HB:=Aside0.mk (below_step bz hb);(try clear hb);(try clear hb2);(try clear hk);(try clear hi);(try clear ho0)))
        (try simp only[Act.put,List.setIfInBounds_toArray,List.set_cons_zero,List.set_cons_succ])
        go_cut [98] (fun v98 wc=>∃ (kq:Nat) (x98_26:Bool),v98=.bool x98_26∧Aside0 (laws_FnOrdAdd.j2 kq t1423 t1424 t1429 t1439 x98_26=some r)∧Aside0 (kq≤kj8)∧Aside0 (Kd.R (Kd.int .i64) 3 wc w.heap.size (fun k_=>some k_≠((.slice Ao12 t1424.length co12):Value).ownBlock∧some k_≠((.slice Ao29 t1429.length co29):Value).ownBlock∧some k_≠((.slice Ao30 t1439.length co30):Value).ownBlock) (.slice Ao11 t1423.length co11) t1423)∧Aside0 (Kd.R (Kd.int .i64) 3 wc w.heap.size (fun k_=>some k_≠((.slice Ao11 t1423.length co11):Value).ownBlock∧some k_≠((.slice Ao29 t1429.length co29):Value).ownBlock∧some k_≠((.slice Ao30 t1439.length co30):Value).ownBlock) (.slice Ao12 t1424.length co12) t1424)∧Aside0 (Kd.R (Kd.int .i64) 3 wc w.heap.size (fun k_=>some k_≠((.slice Ao11 t1423.length co11):Value).ownBlock∧some k_≠((.slice Ao12 t1424.length co12):Value).ownBlock∧some k_≠((.slice Ao30 t1439.length co30):Value).ownBlock) (.slice Ao29 t1429.length co29) t1429)∧Aside0 (Kd.R (Kd.int .i64) 3 wc w.heap.size (fun k_=>some k_≠((.slice Ao11 t1423.length co11):Value).ownBlock∧some k_≠((.slice Ao12 t1424.length co12):Value).ownBlock∧some k_≠((.slice Ao29 t1429.length co29):Value).ownBlock) (.slice Ao30 t1439.length co30) t1439)∧Aside0 (Below w.heap.size w wc))
        case first =>
         have H:=HC27.out
         clear HC27
         by_cases c35:t1446=true
         ·subst c35
          have H1:(if t1450=true then(if t1454=true then((laws_sameInts.f kj8 t1445 t1453).bind fun t1457=>(laws_FnOrdAdd.j2 kj8 t1423 t1424 t1429 t1439 (!t1457))) else(laws_FnOrdAdd.j2 kj8 t1423 t1424 t1429 t1439 false)) else(laws_FnOrdAdd.j2 kj8 t1423 t1424 t1429 t1439 false))=some r:=by rw[if_pos rfl] at H;exact H
          clear H
          have H:=H1
          clear H1
          by_cases c36:t1450=true
          ·subst c36
           have H1:(if t1454=true then((laws_sameInts.f kj8 t1445 t1453).bind fun t1457=>(laws_FnOrdAdd.j2 kj8 t1423 t1424 t1429 t1439 (!t1457))) else(laws_FnOrdAdd.j2 kj8 t1423 t1424 t1429 t1439 false))=some r:=by rw[if_pos rfl] at H;exact H
           clear H
           have H:=H1
           clear H1
           by_cases c37:t1454=true
           ·subst c37
            have H1:((laws_sameInts.f kj8 t1445 t1453).bind fun t1457=>(laws_FnOrdAdd.j2 kj8 t1423 t1424 t1429 t1439 (!t1457)))=some r:=by rw[if_pos rfl] at H;exact H
            clear H
            have H:=H1
            clear H1
            replace H:=Option.bind_eq_some_iff.mp H
            obtain⟨t1457,A380,H⟩:=H
            replace H:(laws_FnOrdAdd.j2 kj8 t1423 t1424 t1429 t1439 (!t1457))=some r:=H
            have A38:=Aside0.mk A380
            clear A380
            have H':=Aside0.mk H
            clear H
            obtain⟨Ao39,co39,eo39⟩:=Kd.R_slice HO1448.out
            subst eo39
            obtain⟨Ao40,co40,eo40⟩:=Kd.R_slice HO1456.out
            subst eo40
            go_wp2_with (first|(go_at_call 32;(with_reducible refine(laws_sameInts.calls kj8 _ _ t1445 _ _ t1453 t1457 _ ?side1 ?side2 ?side3 ?side4 A38.out).mono ?_);(case side1=>exact Kd.Cz (Kd.R_reads' HO1448.out).2.2);(case side2=>exact(Kd.R_reads' HO1448.out).2.1);(case side3=>exact Kd.Cz (Kd.R_reads' HO1456.out).2.2);(case side4=>exact(Kd.R_reads' HO1456.out).2.1);rintro e w' ⟨rfl,⟨nd,rfl⟩⟩))
            go_meet
            case rel=>exact⟨_,(!t1457),(by first|rfl|(simp;done)|(simp[*];done)),H',⟨by have:=HJ2.out;have:=HJ8.out;first|omega|exact Nat.le_refl _⟩,⟨Kd.Rz <| Kd.R_mono HO_5.out (fun _ hk=>⟨hk.1.1.1.1.1.1,⟨hk.1.1.1.1.1.2,hk.1.1.1.1.2⟩⟩)⟩,⟨Kd.Rz <| Kd.R_mono HO_6.out (fun _ hk=>⟨hk.1.1.1.1.1.1,⟨hk.1.1.1.1.1.2,hk.1.1.1.1.2⟩⟩)⟩,⟨Kd.Rz <| Kd.R_mono HO_7.out (fun _ hk=>⟨hk.1.1.1.1.1.1,⟨hk.1.1.1.1.1.2,hk.1.1.1.1.2⟩⟩)⟩,⟨Kd.Rz <| Kd.R_mono HO1442.out (fun _ hk=>⟨hk.1.1.1.1.1.2,⟨hk.1.1.1.1.2,hk.1.1.1.2⟩⟩)⟩,⟨bz⟩⟩
           ·replace c37:=Bool.eq_false_iff.mpr c37
            subst c37
            have H1:(laws_FnOrdAdd.j2 kj8 t1423 t1424 t1429 t1439 false)=some r:=by rw[if_neg (show ¬ (false=true) by decide)] at H;exact H
            clear H
            have H:=H1
            clear H1
            have H':=Aside0.mk H
            clear H
            go_wp2
            go_meet
            case rel=>exact⟨_,(false),(by first|rfl|(simp;done)|(simp[*];done)),H',⟨by have:=HJ2.out;have:=HJ8.out;first|omega|exact Nat.le_refl _⟩,⟨Kd.Rz <| Kd.R_mono HO_5.out (fun _ hk=>⟨hk.1.1.1.1.1.1,⟨hk.1.1.1.1.1.2,hk.1.1.1.1.2⟩⟩)⟩,⟨Kd.Rz <| Kd.R_mono HO_6.out (fun _ hk=>⟨hk.1.1.1.1.1.1,⟨hk.1.1.1.1.1.2,hk.1.1.1.1.2⟩⟩)⟩,⟨Kd.Rz <| Kd.R_mono HO_7.out (fun _ hk=>⟨hk.1.1.1.1.1.1,⟨hk.1.1.1.1.1.2,hk.1.1.1.1.2⟩⟩)⟩,⟨Kd.Rz <| Kd.R_mono HO1442.out (fun _ hk=>⟨hk.1.1.1.1.1.2,⟨hk.1.1.1.1.2,hk.1.1.1.2⟩⟩)⟩,⟨bz⟩⟩
          ·replace c36:=Bool.eq_false_iff.mpr c36
           subst c36
           have H1:(laws_FnOrdAdd.j2 kj8 t1423 t1424 t1429 t1439 false)=some r:=by rw[if_neg (show ¬ (false=true) by decide)] at H;exact H
           clear H
           have H:=H1
           clear H1
           have H':=Aside0.mk H
           clear H
           go_wp2
           go_meet
           case rel=>exact⟨_,(false),(by first|rfl|(simp;done)|(simp[*];done)),H',⟨by have:=HJ2.out;have:=HJ8.out;first|omega|exact Nat.le_refl _⟩,⟨Kd.Rz <| Kd.R_mono HO_5.out (fun _ hk=>⟨hk.1.1.1.1.1.1,⟨hk.1.1.1.1.1.2,hk.1.1.1.1.2⟩⟩)⟩,⟨Kd.Rz <| Kd.R_mono HO_6.out (fun _ hk=>⟨hk.1.1.1.1.1.1,⟨hk.1.1.1.1.1.2,hk.1.1.1.1.2⟩⟩)⟩,⟨Kd.Rz <| Kd.R_mono HO_7.out (fun _ hk=>⟨hk.1.1.1.1.1.1,⟨hk.1.1.1.1.1.2,hk.1.1.1.1.2⟩⟩)⟩,⟨Kd.Rz <| Kd.R_mono HO1442.out (fun _ hk=>⟨hk.1.1.1.1.1.2,⟨hk.1.1.1.1.2,hk.1.1.1.2⟩⟩)⟩,⟨bz⟩⟩
         ·replace c35:=Bool.eq_false_iff.mpr c35
          subst c35
          have H1:(laws_FnOrdAdd.j2 kj8 t1423 t1424 t1429 t1439 false)=some r:=by rw[if_neg (show ¬ (false=true) by decide)] at H;exact H
          clear H
          have H:=H1
          clear H1
          have H':=Aside0.mk H
          clear H
          go_wp2
          go_meet
          case rel=>exact⟨_,(false),(by first|rfl|(simp;done)|(simp[*];done)),H',⟨by have:=HJ2.out;have:=HJ8.out;first|omega|exact Nat.le_refl _⟩,⟨Kd.Rz <| Kd.R_mono HO_5.out (fun _ hk=>⟨hk.1.1.1.1.1.1,⟨hk.1.1.1.1.1.2,hk.1.1.1.1.2⟩⟩)⟩,⟨Kd.Rz <| Kd.R_mono HO_6.out (fun _ hk=>⟨hk.1.1.1.1.1.1,⟨hk.1.1.1.1.1.2,hk.1.1.1.1.2⟩⟩)⟩,⟨Kd.Rz <| Kd.R_mono HO_7.out (fun _ hk=>⟨hk.1.1.1.1.1.1,⟨hk.1.1.1.1.1.2,hk.1.1.1.1.2⟩⟩)⟩,⟨Kd.Rz <| Kd.R_mono HO1442.out (fun _ hk=>⟨hk.1.1.1.1.1.2,⟨hk.1.1.1.1.2,hk.1.1.1.2⟩⟩)⟩,⟨bz⟩⟩
        case rest =>
         clear HC27
         try clear c1
         try clear c2
         try clear p2
         try clear c3
         try clear c4
         try clear c4b0
         try clear c4b1
         try clear c5
         try clear c9
         try clear c15
         try clear c16
         try clear c17
         try clear c21
         try clear c22
         try clear c31
         try clear c32
         try clear c35
         try clear c36
         try clear c37
         try clear p2
         obtain⟨kq,x98_26,rfl,HA,HJ26,HO_5,HO_6,HO_7,HO_11,HB⟩:=hcut
         cases kq with
         | zero=>exact absurd HA.out (by simp[laws_FnOrdAdd.j2])
         | succ kj26 =>
          have H:=HA.out
          clear HA
          simp only[laws_FnOrdAdd.j2] at H
          by_cases c41:x98_26=true
          ·subst c41
           have H1:(some false)=some r:=by rw[if_pos rfl] at H;exact H
           clear H
           have H:=H1
           clear H1
           obtain rfl:=Option.some.inj H
           go_wp2
           go_ret
           exact⟨by first|rfl|(simp[errW_none,errW_some]<;>rfl)|(simp[*,errW_none,errW_some]<;>rfl),bz⟩
          ·replace c41:=Bool.eq_false_iff.mpr c41
           subst c41
           have H1:((impl_OrdAdd.f kj26 t1423 t1439).bind fun bt1458=>(if bt1458.2=true then((spec_OrdValid.f kj26 t1439).bind fun t1462=>(if t1462=true then((impl_OrdCompare.f kj26 bt1458.1 t1429).bind fun t1463=>((impl_OrdCompare.f kj26 t1439 t1424).bind fun t1464=>(laws_FnOrdAdd.j3 kj26 t1423 t1424 t1429 (t1463 != t1464)))) else(laws_FnOrdAdd.j3 kj26 t1423 t1424 t1429 false))) else(laws_FnOrdAdd.j3 kj26 t1423 t1424 t1429 false)))=some r:=by rw[if_neg (show ¬ (false=true) by decide)] at H;exact H
           clear H
           have H:=H1
           clear H1
           replace H:=Option.bind_eq_some_iff.mp H
           obtain⟨⟨t1458,t1459⟩,A420,H⟩:=H
           replace H:(if t1459=true then((spec_OrdValid.f kj26 t1439).bind fun t1462=>(if t1462=true then((impl_OrdCompare.f kj26 t1458 t1429).bind fun t1463=>((impl_OrdCompare.f kj26 t1439 t1424).bind fun t1464=>(laws_FnOrdAdd.j3 kj26 t1423 t1424 t1429 (t1463 != t1464)))) else(laws_FnOrdAdd.j3 kj26 t1423 t1424 t1429 false))) else(laws_FnOrdAdd.j3 kj26 t1423 t1424 t1429 false))=some r:=H
           have A42:=Aside0.mk A420
           clear A420
           have HC43:=Aside0.mk H
           clear H
           go_upto_region 17 with (first|((with_reducible refine gate_callee (f:=17) rfl ?_);refine goesL_ (some 102) rfl rfl Try.func17 (by kernel_rfl) rfl #[.slice Ao11 t1423.length co11,.slice Ao30 t1439.length co30] rfl az ?_;(with_reducible refine(impl_OrdAdd.calls kj26 _ _ t1423 _ _ t1439 t1458 t1459 _ ?side1 ?side2 ?side3 ?side4 A42.out).mono ?_);(case side1=>exact Kd.Cz (Kd.R_reads' HO_5.out).2.2);(case side2=>exact(Kd.R_reads' HO_5.out).2.1);(case side3=>exact Kd.Cz (Kd.R_reads' HO_11.out).2.2);(case side4=>exact(Kd.R_reads' HO_11.out).2.1);rintro e w44 ⟨v1460,rfl,ho0,hb⟩;refine⟨_,rfl,?_⟩;have HO1461:=Aside0.mk (Kd.R_lower (Kd.R_new' (Kd.R_new' (Kd.R_new' (Kd.R_new' ho0 (Kd.R_lt (Kd.Rz HO_5.out))) (Kd.R_lt (Kd.Rz HO_6.out))) (Kd.R_lt (Kd.Rz HO_7.out))) (Kd.R_lt (Kd.Rz HO_11.out))) (below_size bz));replace HO_5:=Aside0.mk (Kd.R_elder' (Kd.Rz HO_5.out) (Kd.R_base ho0) hb);replace HO_6:=Aside0.mk (Kd.R_elder' (Kd.Rz HO_6.out) (Kd.R_base ho0) hb);replace HO_7:=Aside0.mk (Kd.R_elder' (Kd.Rz HO_7.out) (Kd.R_base ho0) hb);replace HO_11:=Aside0.mk (Kd.R_elder' (Kd.Rz HO_11.out) (Kd.R_base ho0) hb);replace HB:=Aside0.mk (below_step bz hb);(try clear hb);(try clear hb2);(try clear hk);(try clear hi);(try clear ho0)))
           (try simp only[Act.put,List.setIfInBounds_toArray,List.set_cons_zero,List.set_cons_succ])
           go_cut [118] (fun v118 wc=>∃ (kq:Nat) (x118_42:Bool),v118=.bool x118_42∧Aside0 (laws_FnOrdAdd.j3 kq t1423 t1424 t1429 x118_42=some r)∧Aside0 (kq≤kj26)∧Aside0 (Kd.R (Kd.int .i64) 3 wc w.heap.size (fun k_=>some k_≠((.slice Ao12 t1424.length co12):Value).ownBlock∧some k_≠((.slice Ao29 t1429.length co29):Value).ownBlock) (.slice Ao11 t1423.length co11) t1423)∧Aside0 (Kd.R (Kd.int .i64) 3 wc w.heap.size (fun k_=>some k_≠((.slice Ao11 t1423.length co11):Value).ownBlock∧some k_≠((.slice Ao29 t1429.length co29):Value).ownBlock) (.slice Ao12 t1424.length co12) t1424)∧Aside0 (Kd.R (Kd.int .i64) 3 wc w.heap.size (fun k_=>some k_≠((.slice Ao11 t1423.length co11):Value).ownBlock∧some k_≠((.slice Ao12 t1424.length co12):Value).ownBlock) (.slice Ao29 t1429.length co29) t1429)∧Aside0 (Below w.heap.size w wc))
           case first =>
            have H:=HC43.out
            clear HC43
            by_cases c45:t1459=true
            ·subst c45
             have H1:((spec_OrdValid.f kj26 t1439).bind fun t1462=>(if t1462=true then((impl_OrdCompare.f kj26 t1458 t1429).bind fun t1463=>((impl_OrdCompare.f kj26 t1439 t1424).bind fun t1464=>(laws_FnOrdAdd.j3 kj26 t1423 t1424 t1429 (t1463 != t1464)))) else(laws_FnOrdAdd.j3 kj26 t1423 t1424 t1429 false)))=some r:=by rw[if_pos rfl] at H;exact H
             clear H
             have H:=H1
             clear H1
             replace H:=Option.bind_eq_some_iff.mp H
             obtain⟨t1462,A460,H⟩:=H
             replace H:(if t1462=true then((impl_OrdCompare.f kj26 t1458 t1429).bind fun t1463=>((impl_OrdCompare.f kj26 t1439 t1424).bind fun t1464=>(laws_FnOrdAdd.j3 kj26 t1423 t1424 t1429 (t1463 != t1464)))) else(laws_FnOrdAdd.j3 kj26 t1423 t1424 t1429 false))=some r:=H
             have A46:=Aside0.mk A460
             clear A460
             by_cases c47:t1462=true
             ·subst c47
              have H1:((impl_OrdCompare.f kj26 t1458 t1429).bind fun t1463=>((impl_OrdCompare.f kj26 t1439 t1424).bind fun t1464=>(laws_FnOrdAdd.j3 kj26 t1423 t1424 t1429 (t1463 != t1464))))=some r:=by rw[if_pos rfl] at H;exact H
              clear H
              have H:=H1
              clear H1
              replace H:=Option.bind_eq_some_iff.mp H
              obtain⟨t1463,A480,H⟩:=H
              replace H:((impl_OrdCompare.f kj26 t1439 t1424).bind fun t1464=>(laws_FnOrdAdd.j3 kj26 t1423 t1424 t1429 (t1463 != t1464)))=some r:=H
              have A48:=Aside0.mk A480
              clear A480
              replace H:=Option.bind_eq_some_iff.mp H
              obtain⟨t1464,A490,H⟩:=H
              replace H:(laws_FnOrdAdd.j3 kj26 t1423 t1424 t1429 (t1463 != t1464))=some r:=H
              have A49:=Aside0.mk A490
              clear A490
              have H':=Aside0.mk H
              clear H
              go_wp2_with (first|(go_at_call 34;(with_reducible refine(spec_OrdValid.calls kj26 _ _ t1439 true _ ?side1 ?side2 A46.out).mono ?_);(case side1=>exact Kd.Cz (Kd.R_reads' HO_11.out).2.2);(case side2=>exact(Kd.R_reads' HO_11.out).2.1);rintro e w50 ⟨rfl,hb⟩;replace HO_5:=Aside0.mk (Kd.R_below (Kd.Rz HO_5.out) hb);replace HO_6:=Aside0.mk (Kd.R_below (Kd.Rz HO_6.out) hb);replace HO_7:=Aside0.mk (Kd.R_below (Kd.Rz HO_7.out) hb);replace HO_11:=Aside0.mk (Kd.R_below (Kd.Rz HO_11.out) hb);replace HO1461:=Aside0.mk (Kd.R_below (Kd.Rz HO1461.out) hb);replace HB:=Aside0.mk (below_step bz hb);(try clear hb);(try clear hb2);(try clear hk);(try clear hi);obtain⟨Ao51,co51,eo51⟩:=Kd.R_slice HO1461.out;subst eo51)|(go_at_call 35;(with_reducible refine(impl_OrdCompare.calls kj26 _ _ t1458 _ _ t1429 t1463 _ ?side1 ?side2 ?side3 ?side4 A48.out).mono ?_);(case side1=>exact Kd.Cz (Kd.R_reads' HO1461.out).2.2);(case side2=>exact(Kd.R_reads' HO1461.out).2.1);(case side3=>exact Kd.Cz (Kd.R_reads' HO_7.out).2.2);(case side4=>exact(Kd.R_reads' HO_7.out).2.1);rintro e w52 ⟨rfl,hb⟩;replace HO_5:=Aside0.mk (Kd.R_below (Kd.Rz HO_5.out) hb);replace HO_6:=Aside0.mk (Kd.R_below (Kd.Rz HO_6.out) hb);replace HO_7:=Aside0.mk (Kd.R_below (Kd.Rz HO_7.out) hb);replace HO_11:=Aside0.mk (Kd.R_below (Kd.Rz HO_11.out) hb);replace HO1461:=Aside0.mk (Kd.R_below (Kd.Rz HO1461.out) hb);replace HB:=Aside0.mk (below_step bz hb);(try clear hb);(try clear hb2);(try clear hk);(try clear hi))|(go_at_call 35;(with_reducible refine(impl_OrdCompare.calls kj26 _ _ t1439 _ _ t1424 t1464 _ ?side1 ?side2 ?side3 ?side4 A49.out).mono ?_);(case side1=>exact Kd.Cz (Kd.R_reads' HO_11.out).2.2);(case side2=>exact(Kd.R_reads' HO_11.out).2.1);(case side3=>exact Kd.Cz (Kd.R_reads' HO_6.out).2.2);(case side4=>exact(Kd.R_reads' HO_6.out).2.1);rintro e w53 ⟨rfl,hb⟩;replace HO_5:=Aside0.mk (Kd.R_below (Kd.Rz HO_5.out) hb);replace HO_6:=Aside0.mk (Kd.R_below (Kd.Rz HO_6.out) hb);replace HO_7:=Aside0.mk (Kd.R_below (Kd.Rz HO_7.out) hb);replace HO_11:=Aside0.mk (Kd.R_below (Kd.Rz HO_11.out) hb);replace HO1461:=Aside0.mk (Kd.R_below (Kd.Rz HO1461.out) hb);replace HB:=Aside0.mk (below_step bz hb);(try clear hb);(try clear hb2);(try clear hk);(try clear hi)))
              go_meet
              case rel=>exact⟨_,((t1463 != t1464)),(by first|rfl|(simp;done)|(simp[*];done)),H',⟨by have:=HJ2.out;have:=HJ8.out;have:=HJ26.out;first|omega|exact Nat.le_refl _⟩,⟨Kd.Rz <| Kd.R_mono HO_5.out (fun _ hk=>⟨hk.1.1,hk.1.2.1⟩)⟩,⟨Kd.Rz <| Kd.R_mono HO_6.out (fun _ hk=>⟨hk.1.1,hk.1.2.1⟩)⟩,⟨Kd.Rz <| Kd.R_mono HO_7.out (fun _ hk=>⟨hk.1.1,hk.1.2.1⟩)⟩,⟨bz⟩⟩
             ·replace c47:=Bool.eq_false_iff.mpr c47
              subst c47
              have H1:(laws_FnOrdAdd.j3 kj26 t1423 t1424 t1429 false)=some r:=by rw[if_neg (show ¬ (false=true) by decide)] at H;exact H
              clear H
              have H:=H1
              clear H1
              have H':=Aside0.mk H
              clear H
              go_wp2_with (first|(go_at_call 34;(with_reducible refine(spec_OrdValid.calls kj26 _ _ t1439 false _ ?side1 ?side2 A46.out).mono ?_);(case side1=>exact Kd.Cz (Kd.R_reads' HO_11.out).2.2);(case side2=>exact(Kd.R_reads' HO_11.out).2.1);rintro e w54 ⟨rfl,hb⟩;replace HO_5:=Aside0.mk (Kd.R_below (Kd.Rz HO_5.out) hb);replace HO_6:=Aside0.mk (Kd.R_below (Kd.Rz HO_6.out) hb);replace HO_7:=Aside0.mk (Kd.R_below (Kd.Rz HO_7.out) hb);replace HO_11:=Aside0.mk (Kd.R_below (Kd.Rz HO_11.out) hb);replace HO1461:=Aside0.mk (Kd.R_below (Kd.Rz HO1461.out) hb);replace HB:=Aside0.mk (below_step bz hb);(try clear hb);(try clear hb2);(try clear hk);(try clear hi)))
              go_meet
              case rel=>exact⟨_,(false),(by first|rfl|(simp;done)|(simp[*];done)),H',⟨by have:=HJ2.out;have:=HJ8.out;have:=HJ26.out;first|omega|exact Nat.le_refl _⟩,⟨Kd.Rz <| Kd.R_mono HO_5.out (fun _ hk=>⟨hk.1.1,hk.1.2.1⟩)⟩,⟨Kd.Rz <| Kd.R_mono HO_6.out (fun _ hk=>⟨hk.1.1,hk.1.2.1⟩)⟩,⟨Kd.Rz <| Kd.R_mono HO_7.out (fun _ hk=>⟨hk.1.1,hk.1.2.1⟩)⟩,⟨bz⟩⟩
            ·replace c45:=Bool.eq_false_iff.mpr c45
             subst c45
             have H1:(laws_FnOrdAdd.j3 kj26 t1423 t1424 t1429 false)=some r:=by rw[if_neg (show ¬ (false=true) by decide)] at H;exact H
             clear H
             have H:=H1
             clear H1
             have H':=Aside0.mk H
             clear H
             go_wp2
             go_meet
             case rel=>exact⟨_,(false),(by first|rfl|(simp;done)|(simp[*];done)),H',⟨by have:=HJ2.out;have:=HJ8.out;have:=HJ26.out;first|omega|exact Nat.le_refl _⟩,⟨Kd.Rz <| Kd.R_mono HO_5.out (fun _ hk=>⟨hk.1.1,hk.1.2.1⟩)⟩,⟨Kd.Rz <| Kd.R_mono HO_6.out (fun _ hk=>⟨hk.1.1,hk.1.2.1⟩)⟩,⟨Kd.Rz <| Kd.R_mono HO_7.out (fun _ hk=>⟨hk.1.1,hk.1.2.1⟩)⟩,⟨bz⟩⟩
           case rest =>
            clear HC43
            try clear c1
            try clear c2
            try clear p2
            try clear c3
            try clear c4
            try clear c4b0
            try clear c4b1
            try clear c5
            try clear c9
            try clear c15
            try clear c16
            try clear c17
            try clear c21
            try clear c22
            try clear c31
            try clear c32
            try clear c35
            try clear c36
            try clear c37
            try clear c41
            try clear c45
            try clear c47
            try clear p2
            obtain⟨kq,x118_42,rfl,HA,HJ42,HO_5,HO_6,HO_7,HB⟩:=hcut
            cases kq with
            | zero=>exact absurd HA.out (by simp[laws_FnOrdAdd.j3])
            | succ kj42 =>
             have H:=HA.out
             clear HA
             simp only[laws_FnOrdAdd.j3] at H
             by_cases c55:x118_42=true
             ·subst c55
              have H1:(some false)=some r:=by rw[if_pos rfl] at H;exact H
              clear H
              have H:=H1
              clear H1
              obtain rfl:=Option.some.inj H
              go_wp2
              go_ret
              exact⟨by first|rfl|(simp[errW_none,errW_some]<;>rfl)|(simp[*,errW_none,errW_some]<;>rfl),bz⟩
             ·replace c55:=Bool.eq_false_iff.mpr c55
              subst c55
              have H1:((impl_OrdValid.f kj42 t1429).bind fun t1465=>(if t1465=true then((impl_OrdCompare.f kj42 t1429 t1423).bind fun t1466=>(if t1466≥0 then((impl_OrdCompare.f kj42 t1429 t1424).bind fun t1467=>(some (decide (t1467≥0)))) else(some false))) else(some false)))=some r:=by rw[if_neg (show ¬ (false=true) by decide)] at H;exact H
              clear H
              have H:=H1
              clear H1
              replace H:=Option.bind_eq_some_iff.mp H
              obtain⟨t1465,A560,H⟩:=H
              replace H:(if t1465=true then((impl_OrdCompare.f kj42 t1429 t1423).bind fun t1466=>(if t1466≥0 then((impl_OrdCompare.f kj42 t1429 t1424).bind fun t1467=>(some (decide (t1467≥0)))) else(some false))) else(some false))=some r:=H
              have A56:=Aside0.mk A560
              clear A560
              by_cases c57:t1465=true
              ·subst c57
               have H1:((impl_OrdCompare.f kj42 t1429 t1423).bind fun t1466=>(if t1466≥0 then((impl_OrdCompare.f kj42 t1429 t1424).bind fun t1467=>(some (decide (t1467≥0)))) else(some false)))=some r:=by rw[if_pos rfl] at H;exact H
               clear H
               have H:=H1
               clear H1
               replace H:=Option.bind_eq_some_iff.mp H
               obtain⟨t1466,A580,H⟩:=H
               replace H:(if t1466≥0 then((impl_OrdCompare.f kj42 t1429 t1424).bind fun t1467=>(some (decide (t1467≥0)))) else(some false))=some r:=H
               have A58:=Aside0.mk A580
               clear A580
               by_cases c59:t1466≥0
               ·rw[if_pos c59] at H
                have c59b0:decide (0≤t1466)=true:=decide_eq_true c59
                clear c59
                replace H:=Option.bind_eq_some_iff.mp H
                obtain⟨t1467,A600,H⟩:=H
                replace H:(some (decide (t1467≥0)))=some r:=H
                have A60:=Aside0.mk A600
                clear A600
                obtain rfl:=Option.some.inj H
                go_wp2_with (first|((with_reducible refine gate_callee (f:=36) rfl ?_);refine goesL_ (some 120) rfl rfl Try.func36 (by kernel_rfl) rfl #[.slice Ao29 t1429.length co29] rfl az ?_;(with_reducible refine(impl_OrdValid.calls kj42 _ _ t1429 true _ ?side1 ?side2 A56.out).mono ?_);(case side1=>exact Kd.Cz (Kd.R_reads' HO_7.out).2.2);(case side2=>exact(Kd.R_reads' HO_7.out).2.1);rintro e w61 ⟨rfl,hb⟩;refine⟨_,rfl,?_⟩;replace HO_5:=Aside0.mk (Kd.R_below (Kd.Rz HO_5.out) hb);replace HO_6:=Aside0.mk (Kd.R_below (Kd.Rz HO_6.out) hb);replace HO_7:=Aside0.mk (Kd.R_below (Kd.Rz HO_7.out) hb);replace HB:=Aside0.mk (below_step bz hb);(try clear hb);(try clear hb2);(try clear hk);(try clear hi))|(go_at_call 35;(with_reducible refine(impl_OrdCompare.calls kj42 _ _ t1429 _ _ t1423 t1466 _ ?side1 ?side2 ?side3 ?side4 A58.out).mono ?_);(case side1=>exact Kd.Cz (Kd.R_reads' HO_7.out).2.2);(case side2=>exact(Kd.R_reads' HO_7.out).2.1);(case side3=>exact Kd.Cz (Kd.R_reads' HO_5.out).2.2);(case side4=>exact(Kd.R_reads' HO_5.out).2.1);rintro e w62 ⟨rfl,hb⟩;replace HO_5:=Aside0.mk (Kd.R_below (Kd.Rz HO_5.out) hb);replace HO_6:=Aside0.mk (Kd.R_below (Kd.Rz HO_6.out) hb);replace HO_7:=Aside0.mk (Kd.R_below (Kd.Rz HO_7.out) hb);replace HB:=Aside0.mk (below_step bz hb);(try clear hb);(try clear hb2);(try clear hk);(try clear hi))|(go_at_call 35;(with_reducible refine(impl_OrdCompare.calls kj42 _ _ t1429 _ _ t1424 t1467 _ ?side1 ?side2 ?side3 ?side4 A60.out).mono ?_);(case side1=>exact Kd.Cz (Kd.R_reads' HO_7.out).2.2);(case side2=>exact(Kd.R_reads' HO_7.out).2.1);(case side3=>exact Kd.Cz (Kd.R_reads' HO_6.out).2.2);(case side4=>exact(Kd.R_reads' HO_6.out).2.1);rintro e w63 ⟨rfl,hb⟩;replace HO_5:=Aside0.mk (Kd.R_below (Kd.Rz HO_5.out) hb);replace HO_6:=Aside0.mk (Kd.R_below (Kd.Rz HO_6.out) hb);replace HO_7:=Aside0.mk (Kd.R_below (Kd.Rz HO_7.out) hb);replace HB:=Aside0.mk (below_step bz hb);(try clear hb);(try clear hb2);(try clear hk);(try clear hi)))
                go_ret
                exact⟨by first|rfl|(simp[errW_none,errW_some]<;>rfl)|(simp[*,errW_none,errW_some]<;>rfl),bz⟩
               ·rw[if_neg c59] at H
                have c59b0:decide (0≤t1466)=false:=decide_eq_false c59
                clear c59
                obtain rfl:=Option.some.inj H
                go_wp2_with (first|((with_reducible refine gate_callee (f:=36) rfl ?_);refine goesL_ (some 120) rfl rfl Try.func36 (by kernel_rfl) rfl #[.slice Ao29 t1429.length co29] rfl az ?_;(with_reducible refine(impl_OrdValid.calls kj42 _ _ t1429 true _ ?side1 ?side2 A56.out).mono ?_);(case side1=>exact Kd.Cz (Kd.R_reads' HO_7.out).2.2);(case side2=>exact(Kd.R_reads' HO_7.out).2.1);rintro e w64 ⟨rfl,hb⟩;refine⟨_,rfl,?_⟩;replace HO_5:=Aside0.mk (Kd.R_below (Kd.Rz HO_5.out) hb);replace HO_6:=Aside0.mk (Kd.R_below (Kd.Rz HO_6.out) hb);replace HO_7:=Aside0.mk (Kd.R_below (Kd.Rz HO_7.out) hb);replace HB:=Aside0.mk (below_step bz hb);(try clear hb);(try clear hb2);(try clear hk);(try clear hi))|(go_at_call 35;(with_reducible refine(impl_OrdCompare.calls kj42 _ _ t1429 _ _ t1423 t1466 _ ?side1 ?side2 ?side3 ?side4 A58.out).mono ?_);(case side1=>exact Kd.Cz (Kd.R_reads' HO_7.out).2.2);(case side2=>exact(Kd.R_reads' HO_7.out).2.1);(case side3=>exact Kd.Cz (Kd.R_reads' HO_5.out).2.2);(case side4=>exact(Kd.R_reads' HO_5.out).2.1);rintro e w65 ⟨rfl,hb⟩;replace HO_5:=Aside0.mk (Kd.R_below (Kd.Rz HO_5.out) hb);replace HO_6:=Aside0.mk (Kd.R_below (Kd.Rz HO_6.out) hb);replace HO_7:=Aside0.mk (Kd.R_below (Kd.Rz HO_7.out) hb);replace HB:=Aside0.mk (below_step bz hb);(try clear hb);(try clear hb2);(try clear hk);(try clear hi)))
                go_ret
                exact⟨by first|rfl|(simp[errW_none,errW_some]<;>rfl)|(simp[*,errW_none,errW_some]<;>rfl),bz⟩
              ·replace c57:=Bool.eq_false_iff.mpr c57
               subst c57
               have H1:(some false)=some r:=by rw[if_neg (show ¬ (false=true) by decide)] at H;exact H
               clear H
               have H:=H1
               clear H1
               obtain rfl:=Option.some.inj H
               go_wp2_with (first|((with_reducible refine gate_callee (f:=36) rfl ?_);refine goesL_ (some 120) rfl rfl Try.func36 (by kernel_rfl) rfl #[.slice Ao29 t1429.length co29] rfl az ?_;(with_reducible refine(impl_OrdValid.calls kj42 _ _ t1429 false _ ?side1 ?side2 A56.out).mono ?_);(case side1=>exact Kd.Cz (Kd.R_reads' HO_7.out).2.2);(case side2=>exact(Kd.R_reads' HO_7.out).2.1);rintro e w66 ⟨rfl,hb⟩;refine⟨_,rfl,?_⟩;replace HO_5:=Aside0.mk (Kd.R_below (Kd.Rz HO_5.out) hb);replace HO_6:=Aside0.mk (Kd.R_below (Kd.Rz HO_6.out) hb);replace HO_7:=Aside0.mk (Kd.R_below (Kd.Rz HO_7.out) hb);replace HB:=Aside0.mk (below_step bz hb);(try clear hb);(try clear hb2);(try clear hk);(try clear hi)))
               go_ret
               exact⟨by first|rfl|(simp[errW_none,errW_some]<;>rfl)|(simp[*,errW_none,errW_some]<;>rfl),bz⟩
       ·replace c22:=Bool.eq_false_iff.mpr c22
        subst c22
        have H1:(if(t1429.length:Int)=0 then((laws_alive.f kj8).bind fun t1438=>(some t1438)) else(some false))=some r:=by rw[if_neg (show ¬ (false=true) by decide)] at H;exact H
        clear H
        have H:=H1
        clear H1
        by_cases c67:(t1429.length:Int)=0
        ·rw[if_pos c67] at H
         have c67b0:((t1429.length:Int) == 0)=true:=beq_iff_eq.mpr c67
         have c67b1:((t1429.length:Int) != 0)=false:=bne_eq_false_iff_eq.mpr c67
         clear c67
         replace H:=Option.bind_eq_some_iff.mp H
         obtain⟨t1438,A680,H⟩:=H
         replace H:(some t1438)=some r:=H
         have A68:=Aside0.mk A680
         clear A680
         obtain rfl:=Option.some.inj H
         obtain⟨Ao69,co69,eo69⟩:=Kd.R_slice HO_7.out
         subst eo69
         go_wp2_with (first|(go_at_call 33;(with_reducible refine(laws_alive.calls kj8  t1438 _ A68.out).mono ?_);rintro e w70 ⟨rfl,hb⟩;replace HO_5:=Aside0.mk (Kd.R_below (Kd.Rz HO_5.out) hb);replace HO_6:=Aside0.mk (Kd.R_below (Kd.Rz HO_6.out) hb);replace HO_7:=Aside0.mk (Kd.R_below (Kd.Rz HO_7.out) hb);replace HB:=Aside0.mk (below_step bz hb);(try clear hb);(try clear hb2);(try clear hk);(try clear hi)))
         go_ret
         exact⟨by first|rfl|(simp[errW_none,errW_some]<;>rfl)|(simp[*,errW_none,errW_some]<;>rfl),bz⟩
        ·rw[if_neg c67] at H
         have c67b0:((t1429.length:Int) == 0)=false:=beq_eq_false_iff_ne.mpr c67
         have c67b1:((t1429.length:Int) != 0)=true:=bne_iff_ne.mpr c67
         have c67b2:¬ (t1429=[]):=fun h_=>c67 (by rw[h_];rfl)
         obtain rfl:=Option.some.inj H
         obtain⟨Ao71,co71,eo71⟩:=Kd.R_slice HO_7.out
         subst eo71
         go_wp2
         go_ret
         exact⟨by first|rfl|(simp[errW_none,errW_some]<;>rfl)|(simp[*,errW_none,errW_some]<;>rfl),bz⟩
/-- THE ONE PURE STATEMENT of laws_FnOrdAdd: yours. -/
def laws_FnOrdAdd.Pure:Prop:=∀ (l0:List Int) (l1:List Int),l0.length≤maxLen→l0.length*1≤140737488351232→(∀ x ∈ l0,(Lit.int .u8 x).wf=true)→l1.length≤maxLen→l1.length*1≤140737488351232→(∀ x ∈ l1,(Lit.int .u8 x).wf=true)→∃ k,laws_FnOrdAdd.f k l0 l1=some true
theorem laws_FnOrdAdd.walk (P:laws_FnOrdAdd.Pure)(a0:Option Addr)(len0 cap0:Nat)(z0:List Int)(a1:Option Addr)(len1 cap1:Nat)(z1:List Int)(w:World)(w0:(a0=none∧len0=0∧cap0=0∧z0=[])∨∃ x,a0=some x∧len0≤cap0∧cap0≤maxLen∧z0.length=cap0∧(∀ i,i<z0.length→w.cell? (x.add i)=some (.int .u8 (z0.getD i 0)))∧∀ n ∈ z0,(Lit.int .u8 n).wf=true)(y0:len0*1≤140737488351232)(w1:(a1=none∧len1=0∧cap1=0∧z1=[])∨∃ x,a1=some x∧len1≤cap1∧cap1≤maxLen∧z1.length=cap1∧(∀ i,i<z1.length→w.cell? (x.add i)=some (.int .u8 (z1.getD i 0)))∧∀ n ∈ z1,(Lit.int .u8 n).wf=true)(y1:len1*1≤140737488351232) :
  Calls Try.prog 9 #[.slice a0 len0 cap0,.slice a1 len1 cap1] w fun e w'=>e=.returned (.bool true)∧Below w.heap.size w w':=by
 obtain⟨l0,rfl,hr0,hm0,hw0,hc0⟩:=ReadsInt.ofRowC w0
 obtain⟨l1,rfl,hr1,hm1,hw1,hc1⟩:=ReadsInt.ofRowC w1
 obtain⟨k,h⟩:=P l0 l1 hm0 y0 hw0 hm1 y1 hw1
 refine(laws_FnOrdAdd.calls k _ _ l0 _ _ l1 true w (Kd.C_of_reads (d:=(0:Int)) (h1:=fun _=>rfl) hr0) hc0 (Kd.C_of_reads (d:=(0:Int)) (h1:=fun _=>rfl) hr1) hc1 h).mono ?_
 rintro e w' ⟨rfl,hd⟩
 exact⟨rfl,hd⟩
end Go.Proofs.Ytfblcanijhnhmaa.P