/- One Go function comes to what its Lean function tells. -/
import Derived.Test.YtfblcanijhnhmaaP0
import Derived.Test.YtfblcanijhnhmaaPimplOrdAdd
import Derived.Test.YtfblcanijhnhmaaPimplOrdOf
import Derived.Test.YtfblcanijhnhmaaPimplOrdTimes
import Derived.Test.YtfblcanijhnhmaaPimplOrdValid
import Derived.Test.YtfblcanijhnhmaaPlawsalive
import Derived.Test.YtfblcanijhnhmaaPlawssameInts
import Derived.Test.YtfblcanijhnhmaaPspecDrawOrdTimes
import Derived.Test.YtfblcanijhnhmaaPspecOrdTimes
namespace Go.Proofs.Ytfblcanijhnhmaa.P
open Go.RowKit YtfblcanijhnhmaaW.PrintWords YtfblcanijhnhmaaW.PrintLast YtfblcanijhnhmaaW.PrintMore
set_option linter.unusedVariables false
set_option linter.unusedSimpArgs false
/-! ### laws_FnOrdTimes: function 10 -/
mutual
def laws_FnOrdTimes.j0:Nat→List Int→List Int→Bool→Option (Bool)
 | 0,_,_,_=>none
 | k+1,x0,x1,x38=>if x38=true then(some true) else((spec_DrawOrdTimes.f k x0).bind fun bt1478=>((impl_OrdTimes.f k bt1478.1 bt1478.2).bind fun bt1484=>((spec_OrdTimes.f k bt1478.1 bt1478.2).bind fun bt1488=>((laws_sameInts.f k bt1484.1 bt1488.1).bind fun t1492=>(if t1492=true then(laws_FnOrdTimes.j1 k x1 bt1478.1 bt1478.2 bt1484.1 bt1484.2 (bt1484.2 != bt1488.2)) else(laws_FnOrdTimes.j1 k x1 bt1478.1 bt1478.2 bt1484.1 bt1484.2 true))))))
def laws_FnOrdTimes.j1:Nat→List Int→List Int→List Int→List Int→Bool→Bool→Option (Bool)
 | 0,_,_,_,_,_,_=>none
 | k+1,x1,x5,x6,x7,x8,x64=>if x64=true then(some false) else(if x8=true then((spec_DrawOrdTimes.f k x1).bind fun bt1494=>((impl_OrdAdd.f k x6 bt1494.1).bind fun bt1500=>((impl_OrdTimes.f k x5 bt1500.1).bind fun bt1504=>((impl_OrdTimes.f k x5 bt1494.1).bind fun bt1508=>((impl_OrdAdd.f k x7 bt1508.1).bind fun bt1512=>(if bt1500.2=true then(if bt1504.2=true then(if bt1508.2=true then(if bt1512.2=true then((laws_sameInts.f k bt1504.1 bt1512.1).bind fun t1516=>(laws_FnOrdTimes.j2 k x5 x6 x7 bt1494.1 (!t1516))) else(laws_FnOrdTimes.j2 k x5 x6 x7 bt1494.1 false)) else(laws_FnOrdTimes.j2 k x5 x6 x7 bt1494.1 false)) else(laws_FnOrdTimes.j2 k x5 x6 x7 bt1494.1 false)) else(laws_FnOrdTimes.j2 k x5 x6 x7 bt1494.1 false))))))) else(if(x7.length:Int)=0 then((laws_alive.f k).bind fun t1493=>(some t1493)) else(some false)))
def laws_FnOrdTimes.j2:Nat→List Int→List Int→List Int→List Int→Bool→Option (Bool)
 | 0,_,_,_,_,_=>none
 | k+1,x5,x6,x7,x11,x117=>if x117=true then(some false) else((impl_OrdTimes.f k x7 x11).bind fun bt1517=>((impl_OrdTimes.f k x6 x11).bind fun bt1521=>((impl_OrdTimes.f k x5 bt1521.1).bind fun bt1525=>(if bt1517.2=true then(if bt1521.2=true then(if bt1525.2=true then((laws_sameInts.f k bt1517.1 bt1525.1).bind fun t1529=>(laws_FnOrdTimes.j3 k x5 x7 (!t1529))) else(laws_FnOrdTimes.j3 k x5 x7 false)) else(laws_FnOrdTimes.j3 k x5 x7 false)) else(laws_FnOrdTimes.j3 k x5 x7 false)))))
def laws_FnOrdTimes.j3:Nat→List Int→List Int→Bool→Option (Bool)
 | 0,_,_,_=>none
 | k+1,x5,x7,x148=>if x148=true then(some false) else((impl_OrdOf.f k 1).bind fun t1530=>((impl_OrdTimes.f k x5 t1530).bind fun bt1533=>((impl_OrdOf.f k 1).bind fun t1537=>((impl_OrdTimes.f k t1537 x5).bind fun bt1540=>((impl_OrdValid.f k x7).bind fun t1544=>(if t1544=true then((laws_sameInts.f k bt1533.1 x5).bind fun t1545=>(if t1545=true then((laws_sameInts.f k bt1540.1 x5).bind fun t1546=>(some t1546)) else(some false))) else(some false)))))))
end
def laws_FnOrdTimes.f (k:Nat)(l0:List Int)(l1:List Int):Option (Bool):=if(l0.length:Int)>1048576 then(laws_FnOrdTimes.j0 k l0 l1 true) else(laws_FnOrdTimes.j0 k l0 l1 (decide ((l1.length:Int)>1048576)))
theorem laws_FnOrdTimes.mono_l:∀ k,(∀ y0 y1 y2,LeO (laws_FnOrdTimes.j0 k y0 y1 y2) (laws_FnOrdTimes.j0 (k+1) y0 y1 y2))∧(∀ y0 y1 y2 y3 y4 y5,LeO (laws_FnOrdTimes.j1 k y0 y1 y2 y3 y4 y5) (laws_FnOrdTimes.j1 (k+1) y0 y1 y2 y3 y4 y5))∧(∀ y0 y1 y2 y3 y4,LeO (laws_FnOrdTimes.j2 k y0 y1 y2 y3 y4) (laws_FnOrdTimes.j2 (k+1) y0 y1 y2 y3 y4))∧(∀ y0 y1 y2,LeO (laws_FnOrdTimes.j3 k y0 y1 y2) (laws_FnOrdTimes.j3 (k+1) y0 y1 y2))
 | 0=>⟨fun _ _ _ r h=>by simp[laws_FnOrdTimes.j0] at h,fun _ _ _ _ _ _ r h=>by simp[laws_FnOrdTimes.j1] at h,fun _ _ _ _ _ r h=>by simp[laws_FnOrdTimes.j2] at h,fun _ _ _ r h=>by simp[laws_FnOrdTimes.j3] at h⟩
 | k+1=>by
  obtain⟨ih0,ih1,ih2,ih3⟩:=laws_FnOrdTimes.mono_l k
  refine⟨?_,?_,?_,?_⟩
  ·intro y0 y1 y2
   unfold laws_FnOrdTimes.j0
   repeat' first|(with_reducible first|exact ih0 _ _ _|exact ih1 _ _ _ _ _ _|exact impl_OrdTimes.mono _ _ _|exact laws_sameInts.mono _ _ _|exact spec_DrawOrdTimes.mono _ _|exact spec_OrdTimes.mono _ _ _|exact LeO.refl _|exact LeO.none _|refine LeO.ite ?_ ?_|refine LeO.bind ?_ (fun _=>?_))|exact ih0 _ _ _|exact ih1 _ _ _ _ _ _|exact impl_OrdTimes.mono _ _ _|exact laws_sameInts.mono _ _ _|exact spec_DrawOrdTimes.mono _ _|exact spec_OrdTimes.mono _ _ _|exact LeO.none _|refine LeO.ite ?_ ?_|refine LeO.bind ?_ (fun _=>?_)
  ·intro y0 y1 y2 y3 y4 y5
   unfold laws_FnOrdTimes.j1
   repeat' first|(with_reducible first|exact ih1 _ _ _ _ _ _|exact ih2 _ _ _ _ _|exact impl_OrdAdd.mono _ _ _|exact impl_OrdTimes.mono _ _ _|exact laws_alive.mono _|exact laws_sameInts.mono _ _ _|exact spec_DrawOrdTimes.mono _ _|exact LeO.refl _|exact LeO.none _|refine LeO.ite ?_ ?_|refine LeO.bind ?_ (fun _=>?_))|exact ih1 _ _ _ _ _ _|exact ih2 _ _ _ _ _|exact impl_OrdAdd.mono _ _ _|exact impl_OrdTimes.mono _ _ _|exact laws_alive.mono _|exact laws_sameInts.mono _ _ _|exact spec_DrawOrdTimes.mono _ _|exact LeO.none _|refine LeO.ite ?_ ?_|refine LeO.bind ?_ (fun _=>?_)
  ·intro y0 y1 y2 y3 y4
   unfold laws_FnOrdTimes.j2
   repeat' first|(with_reducible first|exact ih2 _ _ _ _ _|exact ih3 _ _ _|exact impl_OrdTimes.mono _ _ _|exact laws_sameInts.mono _ _ _|exact LeO.refl _|exact LeO.none _|refine LeO.ite ?_ ?_|refine LeO.bind ?_ (fun _=>?_))|exact ih2 _ _ _ _ _|exact ih3 _ _ _|exact impl_OrdTimes.mono _ _ _|exact laws_sameInts.mono _ _ _|exact LeO.none _|refine LeO.ite ?_ ?_|refine LeO.bind ?_ (fun _=>?_)
  ·intro y0 y1 y2
   unfold laws_FnOrdTimes.j3
   repeat' first|(with_reducible first|exact ih3 _ _ _|exact impl_OrdOf.mono _ _|exact impl_OrdTimes.mono _ _ _|exact impl_OrdValid.mono _ _|exact laws_sameInts.mono _ _ _|exact LeO.refl _|exact LeO.none _|refine LeO.ite ?_ ?_|refine LeO.bind ?_ (fun _=>?_))|exact ih3 _ _ _|exact impl_OrdOf.mono _ _|exact impl_OrdTimes.mono _ _ _|exact impl_OrdValid.mono _ _|exact laws_sameInts.mono _ _ _|exact LeO.none _|refine LeO.ite ?_ ?_|refine LeO.bind ?_ (fun _=>?_)
theorem laws_FnOrdTimes.mono:∀ a0 a1 k,LeO (laws_FnOrdTimes.f k a0 a1) (laws_FnOrdTimes.f (k+1) a0 a1):=by
 intro a0 a1 k
 obtain⟨ih0,ih1,ih2,ih3⟩:=laws_FnOrdTimes.mono_l k
 unfold laws_FnOrdTimes.f
 repeat' first|(with_reducible first|exact ih0 _ _ _|exact ih1 _ _ _ _ _ _|exact ih2 _ _ _ _ _|exact ih3 _ _ _|exact LeO.refl _|exact LeO.none _|refine LeO.ite ?_ ?_|refine LeO.bind ?_ (fun _=>?_))|exact ih0 _ _ _|exact ih1 _ _ _ _ _ _|exact ih2 _ _ _ _ _|exact ih3 _ _ _|exact LeO.none _|refine LeO.ite ?_ ?_|refine LeO.bind ?_ (fun _=>?_)
set_option maxHeartbeats 8000000 in
set_option maxRecDepth 100000 in
theorem laws_FnOrdTimes.calls (k:Nat)(A0:Option Addr)(c0:Nat)(l0:List Int)(A1:Option Addr)(c1:Nat)(l1:List Int)(r:Bool)(w:World)(hr0:Kd.C (Kd.int .u8) w A0 l0.length l0)(hc0:l0.length≤c0)(hr1:Kd.C (Kd.int .u8) w A1 l1.length l1)(hc1:l1.length≤c1)(h:laws_FnOrdTimes.f k l0 l1=some r) :
  Calls Try.prog 10 #[.slice A0 l0.length c0,.slice A1 l1.length c1] w fun e w'=>e=.returned (.bool r)∧Below w.heap.size w w':=by
 have HR0:=Aside0.mk hr0
 have HC0:=Aside0.mk hc0
 clear hr0 hc0
 have HR1:=Aside0.mk hr1
 have HC1:=Aside0.mk hc1
 clear hr1 hc1
 have HB:=Aside0.mk (Below.refl w.heap.size w)
 have H:(if(l0.length:Int)>1048576 then(laws_FnOrdTimes.j0 k l0 l1 true) else(laws_FnOrdTimes.j0 k l0 l1 (decide ((l1.length:Int)>1048576))))=some r:=h
 clear h
 have HC3:=Aside0.mk H
 clear H
 go_enter Try.func10,Try.ntmps10
 go_upto_region 1 with (fail)
 go_cut [38] (fun v38 wc=>∃ (kq:Nat) (x38_2:Bool),v38=.bool x38_2∧Aside0 (laws_FnOrdTimes.j0 kq l0 l1 x38_2=some r)∧Aside0 (kq≤k)∧Aside0 (Below w.heap.size w wc))
 case first =>
  have H:=HC3.out
  clear HC3
  by_cases c4:(l0.length:Int)>1048576
  ·rw[if_pos c4] at H
   have c4b0:decide (1048576<(l0.length:Int))=true:=decide_eq_true c4
   have c4b1:decide (1048576<l0.length)=true:=decide_eq_true (by omega)
   clear c4
   (first|rw[c4b0]|(simp only[i64_w,i32_w];rw[c4b0])|skip)
   have H':=Aside0.mk H
   clear H
   go_wp2
   go_meet
   case rel=>exact⟨_,(true),(by first|rfl|(simp;done)|(simp[*];done)),H',⟨by first|omega|exact Nat.le_refl _⟩,⟨bz⟩⟩
  ·rw[if_neg c4] at H
   have c4b0:decide (1048576<(l0.length:Int))=false:=decide_eq_false c4
   have c4b1:decide (1048576<l0.length)=false:=decide_eq_false (by omega)
   clear c4
   (first|rw[c4b0]|(simp only[i64_w,i32_w];rw[c4b0])|skip)
   have H':=Aside0.mk H
   clear H
   go_wp2
   go_meet
   case rel=>exact⟨_,(decide ((l1.length:Int)>1048576)),(by first|rfl|(simp;done)|(simp[*];done)),H',⟨by first|omega|exact Nat.le_refl _⟩,⟨bz⟩⟩
 case rest =>
  clear HC3
  try clear c1
  try clear p2
  try clear c4
  try clear c4b0
  try clear c4b1
  obtain⟨kq,x38_2,rfl,HA,HJ2,HB⟩:=hcut
  cases kq with
  | zero=>exact absurd HA.out (by simp[laws_FnOrdTimes.j0])
  | succ kj2 =>
   have H:=HA.out
   clear HA
   simp only[laws_FnOrdTimes.j0] at H
   by_cases c5:x38_2=true
   ·subst c5
    have H1:(some true)=some r:=by rw[if_pos rfl] at H;exact H
    clear H
    have H:=H1
    clear H1
    obtain rfl:=Option.some.inj H
    go_wp2
    go_ret
    exact⟨by first|rfl|(simp[errW_none,errW_some]<;>rfl)|(simp[*,errW_none,errW_some]<;>rfl),bz⟩
   ·replace c5:=Bool.eq_false_iff.mpr c5
    subst c5
    have H1:((spec_DrawOrdTimes.f kj2 l0).bind fun bt1478=>((impl_OrdTimes.f kj2 bt1478.1 bt1478.2).bind fun bt1484=>((spec_OrdTimes.f kj2 bt1478.1 bt1478.2).bind fun bt1488=>((laws_sameInts.f kj2 bt1484.1 bt1488.1).bind fun t1492=>(if t1492=true then(laws_FnOrdTimes.j1 kj2 l1 bt1478.1 bt1478.2 bt1484.1 bt1484.2 (bt1484.2 != bt1488.2)) else(laws_FnOrdTimes.j1 kj2 l1 bt1478.1 bt1478.2 bt1484.1 bt1484.2 true))))))=some r:=by rw[if_neg (show ¬ (false=true) by decide)] at H;exact H
    clear H
    have H:=H1
    clear H1
    replace H:=Option.bind_eq_some_iff.mp H
    obtain⟨⟨t1478,t1479⟩,A60,H⟩:=H
    replace H:((impl_OrdTimes.f kj2 t1478 t1479).bind fun bt1484=>((spec_OrdTimes.f kj2 t1478 t1479).bind fun bt1488=>((laws_sameInts.f kj2 bt1484.1 bt1488.1).bind fun t1492=>(if t1492=true then(laws_FnOrdTimes.j1 kj2 l1 t1478 t1479 bt1484.1 bt1484.2 (bt1484.2 != bt1488.2)) else(laws_FnOrdTimes.j1 kj2 l1 t1478 t1479 bt1484.1 bt1484.2 true)))))=some r:=H
    have A6:=Aside0.mk A60
    clear A60
    replace H:=Option.bind_eq_some_iff.mp H
    obtain⟨⟨t1484,t1485⟩,A70,H⟩:=H
    replace H:((spec_OrdTimes.f kj2 t1478 t1479).bind fun bt1488=>((laws_sameInts.f kj2 t1484 bt1488.1).bind fun t1492=>(if t1492=true then(laws_FnOrdTimes.j1 kj2 l1 t1478 t1479 t1484 t1485 (t1485 != bt1488.2)) else(laws_FnOrdTimes.j1 kj2 l1 t1478 t1479 t1484 t1485 true))))=some r:=H
    have A7:=Aside0.mk A70
    clear A70
    replace H:=Option.bind_eq_some_iff.mp H
    obtain⟨⟨t1488,t1489⟩,A80,H⟩:=H
    replace H:((laws_sameInts.f kj2 t1484 t1488).bind fun t1492=>(if t1492=true then(laws_FnOrdTimes.j1 kj2 l1 t1478 t1479 t1484 t1485 (t1485 != t1489)) else(laws_FnOrdTimes.j1 kj2 l1 t1478 t1479 t1484 t1485 true)))=some r:=H
    have A8:=Aside0.mk A80
    clear A80
    have HC9:=Aside0.mk H
    clear H
    go_upto_region 6 with (first|((with_reducible refine gate_callee (f:=37) rfl ?_);refine goesL_ (some 41) rfl rfl Try.func37 (by kernel_rfl) rfl #[.slice A0 l0.length c0] rfl az ?_;(with_reducible refine(spec_DrawOrdTimes.calls kj2 _ _ l0 t1478 t1479 _ ?side1 ?side2 A6.out).mono ?_);(case side1=>exact Kd.Cz (Kd.C_below HR0.out HB.out));(case side2=>exact HC0.out);rintro e w10 ⟨v1480,v1482,rfl,ho0,ho1,hb⟩;refine⟨_,rfl,?_⟩;have HO1481:=Aside0.mk (Kd.R_lower ho0 (below_size bz));have HO1483:=Aside0.mk (Kd.R_lower ho1 (below_size bz));replace HB:=Aside0.mk (below_step bz hb);(try clear hb);(try clear hb2);(try clear hk);(try clear hi);(try clear ho0);(try clear ho1);obtain⟨Ao11,co11,eo11⟩:=Kd.R_slice HO1481.out;subst eo11;obtain⟨Ao12,co12,eo12⟩:=Kd.R_slice HO1483.out;subst eo12)|((with_reducible refine gate_callee (f:=26) rfl ?_);refine goesL_ (some 47) rfl rfl Try.func26 (by kernel_rfl) rfl #[.slice Ao11 t1478.length co11,.slice Ao12 t1479.length co12] rfl az ?_;(with_reducible refine(impl_OrdTimes.calls kj2 _ _ t1478 _ _ t1479 t1484 t1485 _ ?side1 ?side2 ?side3 ?side4 A7.out).mono ?_);(case side1=>exact Kd.Cz (Kd.R_reads' HO1481.out).2.2);(case side2=>exact(Kd.R_reads' HO1481.out).2.1);(case side3=>exact Kd.Cz (Kd.R_reads' HO1483.out).2.2);(case side4=>exact(Kd.R_reads' HO1483.out).2.1);rintro e w13 ⟨v1486,rfl,ho0,hb⟩;refine⟨_,rfl,?_⟩;have HO1487:=Aside0.mk (Kd.R_lower (Kd.R_new' (Kd.R_new' ho0 (Kd.R_lt (Kd.Rz HO1481.out))) (Kd.R_lt (Kd.Rz HO1483.out))) (below_size bz));replace HO1481:=Aside0.mk (Kd.R_elder' (Kd.Rz HO1481.out) (Kd.R_base ho0) hb);replace HO1483:=Aside0.mk (Kd.R_elder' (Kd.Rz HO1483.out) (Kd.R_base ho0) hb);replace HB:=Aside0.mk (below_step bz hb);(try clear hb);(try clear hb2);(try clear hk);(try clear hi);(try clear ho0))|((with_reducible refine gate_callee (f:=25) rfl ?_);refine goesL_ (some 53) rfl rfl Try.func25 (by kernel_rfl) rfl #[.slice Ao11 t1478.length co11,.slice Ao12 t1479.length co12] rfl az ?_;(with_reducible refine(spec_OrdTimes.calls kj2 _ _ t1478 _ _ t1479 t1488 t1489 _ ?side1 ?side2 ?side3 ?side4 A8.out).mono ?_);(case side1=>exact Kd.Cz (Kd.R_reads' HO1481.out).2.2);(case side2=>exact(Kd.R_reads' HO1481.out).2.1);(case side3=>exact Kd.Cz (Kd.R_reads' HO1483.out).2.2);(case side4=>exact(Kd.R_reads' HO1483.out).2.1);rintro e w14 ⟨v1490,rfl,ho0,hb⟩;refine⟨_,rfl,?_⟩;have HO1491:=Aside0.mk (Kd.R_lower (Kd.R_new' (Kd.R_new' (Kd.R_new' ho0 (Kd.R_lt (Kd.Rz HO1481.out))) (Kd.R_lt (Kd.Rz HO1483.out))) (Kd.R_lt (Kd.Rz HO1487.out))) (below_size bz));replace HO1481:=Aside0.mk (Kd.R_elder' (Kd.Rz HO1481.out) (Kd.R_base ho0) hb);replace HO1483:=Aside0.mk (Kd.R_elder' (Kd.Rz HO1483.out) (Kd.R_base ho0) hb);replace HO1487:=Aside0.mk (Kd.R_elder' (Kd.Rz HO1487.out) (Kd.R_base ho0) hb);replace HB:=Aside0.mk (below_step bz hb);(try clear hb);(try clear hb2);(try clear hk);(try clear hi);(try clear ho0)))
    (try simp only[Act.put,List.setIfInBounds_toArray,List.set_cons_zero,List.set_cons_succ])
    go_cut [64] (fun v64 wc=>∃ (kq:Nat) (x64_8:Bool),v64=.bool x64_8∧Aside0 (laws_FnOrdTimes.j1 kq l1 t1478 t1479 t1484 t1485 x64_8=some r)∧Aside0 (kq≤kj2)∧Aside0 (Kd.R (Kd.int .i64) 3 wc w.heap.size (fun k_=>some k_≠((.slice Ao12 t1479.length co12):Value).ownBlock∧some k_≠(v1486:Value).ownBlock) (.slice Ao11 t1478.length co11) t1478)∧Aside0 (Kd.R (Kd.int .i64) 3 wc w.heap.size (fun k_=>some k_≠((.slice Ao11 t1478.length co11):Value).ownBlock∧some k_≠(v1486:Value).ownBlock) (.slice Ao12 t1479.length co12) t1479)∧Aside0 (Kd.R (Kd.int .i64) 3 wc w.heap.size (fun k_=>some k_≠((.slice Ao11 t1478.length co11):Value).ownBlock∧some k_≠((.slice Ao12 t1479.length co12):Value).ownBlock) v1486 t1484)∧Aside0 (Below w.heap.size w wc))
    case first =>
     have H:=HC9.out
     clear HC9
     replace H:=Option.bind_eq_some_iff.mp H
     obtain⟨t1492,A150,H⟩:=H
     replace H:(if t1492=true then(laws_FnOrdTimes.j1 kj2 l1 t1478 t1479 t1484 t1485 (t1485 != t1489)) else(laws_FnOrdTimes.j1 kj2 l1 t1478 t1479 t1484 t1485 true))=some r:=H
     have A15:=Aside0.mk A150
     clear A150
     by_cases c16:t1492=true
     ·subst c16
      have H1:(laws_FnOrdTimes.j1 kj2 l1 t1478 t1479 t1484 t1485 (t1485 != t1489))=some r:=by rw[if_pos rfl] at H;exact H
      clear H
      have H:=H1
      clear H1
      have H':=Aside0.mk H
      clear H
      obtain⟨Ao17,co17,eo17⟩:=Kd.R_slice HO1487.out
      subst eo17
      obtain⟨Ao18,co18,eo18⟩:=Kd.R_slice HO1491.out
      subst eo18
      go_wp2_with (first|((with_reducible refine gate_callee (f:=32) rfl ?_);refine goesL_ (some 58) rfl rfl Try.func32 (by kernel_rfl) rfl #[.slice Ao17 t1484.length co17,.slice Ao18 t1488.length co18] rfl az ?_;(with_reducible refine(laws_sameInts.calls kj2 _ _ t1484 _ _ t1488 true _ ?side1 ?side2 ?side3 ?side4 A15.out).mono ?_);(case side1=>exact Kd.Cz (Kd.R_reads' HO1487.out).2.2);(case side2=>exact(Kd.R_reads' HO1487.out).2.1);(case side3=>exact Kd.Cz (Kd.R_reads' HO1491.out).2.2);(case side4=>exact(Kd.R_reads' HO1491.out).2.1);rintro e w' ⟨rfl,⟨nd,rfl⟩⟩;refine⟨_,rfl,?_⟩))
      go_meet
      case rel=>exact⟨_,((t1485 != t1489)),(by first|rfl|(simp;done)|(simp[*];done)),H',⟨by have:=HJ2.out;first|omega|exact Nat.le_refl _⟩,⟨Kd.Rz <| Kd.R_mono HO1481.out (fun _ hk=>⟨hk.1.1,hk.1.2⟩)⟩,⟨Kd.Rz <| Kd.R_mono HO1483.out (fun _ hk=>⟨hk.1.1,hk.1.2⟩)⟩,⟨Kd.Rz <| Kd.R_mono HO1487.out (fun _ hk=>⟨hk.1.1.2,hk.1.2⟩)⟩,⟨bz⟩⟩
     ·replace c16:=Bool.eq_false_iff.mpr c16
      subst c16
      have H1:(laws_FnOrdTimes.j1 kj2 l1 t1478 t1479 t1484 t1485 true)=some r:=by rw[if_neg (show ¬ (false=true) by decide)] at H;exact H
      clear H
      have H:=H1
      clear H1
      have H':=Aside0.mk H
      clear H
      obtain⟨Ao19,co19,eo19⟩:=Kd.R_slice HO1487.out
      subst eo19
      obtain⟨Ao20,co20,eo20⟩:=Kd.R_slice HO1491.out
      subst eo20
      go_wp2_with (first|((with_reducible refine gate_callee (f:=32) rfl ?_);refine goesL_ (some 58) rfl rfl Try.func32 (by kernel_rfl) rfl #[.slice Ao19 t1484.length co19,.slice Ao20 t1488.length co20] rfl az ?_;(with_reducible refine(laws_sameInts.calls kj2 _ _ t1484 _ _ t1488 false _ ?side1 ?side2 ?side3 ?side4 A15.out).mono ?_);(case side1=>exact Kd.Cz (Kd.R_reads' HO1487.out).2.2);(case side2=>exact(Kd.R_reads' HO1487.out).2.1);(case side3=>exact Kd.Cz (Kd.R_reads' HO1491.out).2.2);(case side4=>exact(Kd.R_reads' HO1491.out).2.1);rintro e w' ⟨rfl,⟨nd,rfl⟩⟩;refine⟨_,rfl,?_⟩))
      go_meet
      case rel=>exact⟨_,(true),(by first|rfl|(simp;done)|(simp[*];done)),H',⟨by have:=HJ2.out;first|omega|exact Nat.le_refl _⟩,⟨Kd.Rz <| Kd.R_mono HO1481.out (fun _ hk=>⟨hk.1.1,hk.1.2⟩)⟩,⟨Kd.Rz <| Kd.R_mono HO1483.out (fun _ hk=>⟨hk.1.1,hk.1.2⟩)⟩,⟨Kd.Rz <| Kd.R_mono HO1487.out (fun _ hk=>⟨hk.1.1.2,hk.1.2⟩)⟩,⟨bz⟩⟩
    case rest =>
     clear HC9
     try clear c1
     try clear c2
     try clear p2
     try clear c3
     try clear c4
     try clear c4b0
     try clear c4b1
     try clear c5
     try clear c10
     try clear c16
     try clear p2
     obtain⟨kq,x64_8,rfl,HA,HJ8,HO_5,HO_6,HO_7,HB⟩:=hcut
     cases kq with
     | zero=>exact absurd HA.out (by simp[laws_FnOrdTimes.j1])
     | succ kj8 =>
      have H:=HA.out
      clear HA
      simp only[laws_FnOrdTimes.j1] at H
      by_cases c21:x64_8=true
      ·subst c21
       have H1:(some false)=some r:=by rw[if_pos rfl] at H;exact H
       clear H
       have H:=H1
       clear H1
       obtain rfl:=Option.some.inj H
       go_wp2
       go_ret
       exact⟨by first|rfl|(simp[errW_none,errW_some]<;>rfl)|(simp[*,errW_none,errW_some]<;>rfl),bz⟩
      ·replace c21:=Bool.eq_false_iff.mpr c21
       subst c21
       have H1:(if t1485=true then((spec_DrawOrdTimes.f kj8 l1).bind fun bt1494=>((impl_OrdAdd.f kj8 t1479 bt1494.1).bind fun bt1500=>((impl_OrdTimes.f kj8 t1478 bt1500.1).bind fun bt1504=>((impl_OrdTimes.f kj8 t1478 bt1494.1).bind fun bt1508=>((impl_OrdAdd.f kj8 t1484 bt1508.1).bind fun bt1512=>(if bt1500.2=true then(if bt1504.2=true then(if bt1508.2=true then(if bt1512.2=true then((laws_sameInts.f kj8 bt1504.1 bt1512.1).bind fun t1516=>(laws_FnOrdTimes.j2 kj8 t1478 t1479 t1484 bt1494.1 (!t1516))) else(laws_FnOrdTimes.j2 kj8 t1478 t1479 t1484 bt1494.1 false)) else(laws_FnOrdTimes.j2 kj8 t1478 t1479 t1484 bt1494.1 false)) else(laws_FnOrdTimes.j2 kj8 t1478 t1479 t1484 bt1494.1 false)) else(laws_FnOrdTimes.j2 kj8 t1478 t1479 t1484 bt1494.1 false))))))) else(if(t1484.length:Int)=0 then((laws_alive.f kj8).bind fun t1493=>(some t1493)) else(some false)))=some r:=by rw[if_neg (show ¬ (false=true) by decide)] at H;exact H
       clear H
       have H:=H1
       clear H1
       by_cases c22:t1485=true
       ·subst c22
        have H1:((spec_DrawOrdTimes.f kj8 l1).bind fun bt1494=>((impl_OrdAdd.f kj8 t1479 bt1494.1).bind fun bt1500=>((impl_OrdTimes.f kj8 t1478 bt1500.1).bind fun bt1504=>((impl_OrdTimes.f kj8 t1478 bt1494.1).bind fun bt1508=>((impl_OrdAdd.f kj8 t1484 bt1508.1).bind fun bt1512=>(if bt1500.2=true then(if bt1504.2=true then(if bt1508.2=true then(if bt1512.2=true then((laws_sameInts.f kj8 bt1504.1 bt1512.1).bind fun t1516=>(laws_FnOrdTimes.j2 kj8 t1478 t1479 t1484 bt1494.1 (!t1516))) else(laws_FnOrdTimes.j2 kj8 t1478 t1479 t1484 bt1494.1 false)) else(laws_FnOrdTimes.j2 kj8 t1478 t1479 t1484 bt1494.1 false)) else(laws_FnOrdTimes.j2 kj8 t1478 t1479 t1484 bt1494.1 false)) else(laws_FnOrdTimes.j2 kj8 t1478 t1479 t1484 bt1494.1 false)))))))=some r:=by rw[if_pos rfl] at H;exact H
        clear H
        have H:=H1
        clear H1
        replace H:=Option.bind_eq_some_iff.mp H
        obtain⟨⟨t1494,t1495⟩,A230,H⟩:=H
        replace H:((impl_OrdAdd.f kj8 t1479 t1494).bind fun bt1500=>((impl_OrdTimes.f kj8 t1478 bt1500.1).bind fun bt1504=>((impl_OrdTimes.f kj8 t1478 t1494).bind fun bt1508=>((impl_OrdAdd.f kj8 t1484 bt1508.1).bind fun bt1512=>(if bt1500.2=true then(if bt1504.2=true then(if bt1508.2=true then(if bt1512.2=true then((laws_sameInts.f kj8 bt1504.1 bt1512.1).bind fun t1516=>(laws_FnOrdTimes.j2 kj8 t1478 t1479 t1484 t1494 (!t1516))) else(laws_FnOrdTimes.j2 kj8 t1478 t1479 t1484 t1494 false)) else(laws_FnOrdTimes.j2 kj8 t1478 t1479 t1484 t1494 false)) else(laws_FnOrdTimes.j2 kj8 t1478 t1479 t1484 t1494 false)) else(laws_FnOrdTimes.j2 kj8 t1478 t1479 t1484 t1494 false))))))=some r:=H
        have A23:=Aside0.mk A230
        clear A230
        replace H:=Option.bind_eq_some_iff.mp H
        obtain⟨⟨t1500,t1501⟩,A240,H⟩:=H
        replace H:((impl_OrdTimes.f kj8 t1478 t1500).bind fun bt1504=>((impl_OrdTimes.f kj8 t1478 t1494).bind fun bt1508=>((impl_OrdAdd.f kj8 t1484 bt1508.1).bind fun bt1512=>(if t1501=true then(if bt1504.2=true then(if bt1508.2=true then(if bt1512.2=true then((laws_sameInts.f kj8 bt1504.1 bt1512.1).bind fun t1516=>(laws_FnOrdTimes.j2 kj8 t1478 t1479 t1484 t1494 (!t1516))) else(laws_FnOrdTimes.j2 kj8 t1478 t1479 t1484 t1494 false)) else(laws_FnOrdTimes.j2 kj8 t1478 t1479 t1484 t1494 false)) else(laws_FnOrdTimes.j2 kj8 t1478 t1479 t1484 t1494 false)) else(laws_FnOrdTimes.j2 kj8 t1478 t1479 t1484 t1494 false)))))=some r:=H
        have A24:=Aside0.mk A240
        clear A240
        replace H:=Option.bind_eq_some_iff.mp H
        obtain⟨⟨t1504,t1505⟩,A250,H⟩:=H
        replace H:((impl_OrdTimes.f kj8 t1478 t1494).bind fun bt1508=>((impl_OrdAdd.f kj8 t1484 bt1508.1).bind fun bt1512=>(if t1501=true then(if t1505=true then(if bt1508.2=true then(if bt1512.2=true then((laws_sameInts.f kj8 t1504 bt1512.1).bind fun t1516=>(laws_FnOrdTimes.j2 kj8 t1478 t1479 t1484 t1494 (!t1516))) else(laws_FnOrdTimes.j2 kj8 t1478 t1479 t1484 t1494 false)) else(laws_FnOrdTimes.j2 kj8 t1478 t1479 t1484 t1494 false)) else(laws_FnOrdTimes.j2 kj8 t1478 t1479 t1484 t1494 false)) else(laws_FnOrdTimes.j2 kj8 t1478 t1479 t1484 t1494 false))))=some r:=H
        have A25:=Aside0.mk A250
        clear A250
        replace H:=Option.bind_eq_some_iff.mp H
        obtain⟨⟨t1508,t1509⟩,A260,H⟩:=H
        replace H:((impl_OrdAdd.f kj8 t1484 t1508).bind fun bt1512=>(if t1501=true then(if t1505=true then(if t1509=true then(if bt1512.2=true then((laws_sameInts.f kj8 t1504 bt1512.1).bind fun t1516=>(laws_FnOrdTimes.j2 kj8 t1478 t1479 t1484 t1494 (!t1516))) else(laws_FnOrdTimes.j2 kj8 t1478 t1479 t1484 t1494 false)) else(laws_FnOrdTimes.j2 kj8 t1478 t1479 t1484 t1494 false)) else(laws_FnOrdTimes.j2 kj8 t1478 t1479 t1484 t1494 false)) else(laws_FnOrdTimes.j2 kj8 t1478 t1479 t1484 t1494 false)))=some r:=H
        have A26:=Aside0.mk A260
        clear A260
        replace H:=Option.bind_eq_some_iff.mp H
        obtain⟨⟨t1512,t1513⟩,A270,H⟩:=H
        replace H:(if t1501=true then(if t1505=true then(if t1509=true then(if t1513=true then((laws_sameInts.f kj8 t1504 t1512).bind fun t1516=>(laws_FnOrdTimes.j2 kj8 t1478 t1479 t1484 t1494 (!t1516))) else(laws_FnOrdTimes.j2 kj8 t1478 t1479 t1484 t1494 false)) else(laws_FnOrdTimes.j2 kj8 t1478 t1479 t1484 t1494 false)) else(laws_FnOrdTimes.j2 kj8 t1478 t1479 t1484 t1494 false)) else(laws_FnOrdTimes.j2 kj8 t1478 t1479 t1484 t1494 false))=some r:=H
        have A27:=Aside0.mk A270
        clear A270
        have HC28:=Aside0.mk H
        clear H
        go_upto_region 15 with (first|((with_reducible refine gate_callee (f:=37) rfl ?_);refine goesL_ (some 75) rfl rfl Try.func37 (by kernel_rfl) rfl #[.slice A1 l1.length c1] rfl az ?_;(with_reducible refine(spec_DrawOrdTimes.calls kj8 _ _ l1 t1494 t1495 _ ?side1 ?side2 A23.out).mono ?_);(case side1=>exact Kd.Cz (Kd.C_below HR1.out HB.out));(case side2=>exact HC1.out);rintro e w29 ⟨v1496,v1498,rfl,ho0,ho1,hb⟩;refine⟨_,rfl,?_⟩;have HO1497:=Aside0.mk (Kd.R_lower (Kd.R_new' (Kd.R_new' (Kd.R_new' ho0 (Kd.R_lt (Kd.Rz HO_5.out))) (Kd.R_lt (Kd.Rz HO_6.out))) (Kd.R_lt (Kd.Rz HO_7.out))) (below_size bz));have HO1499:=Aside0.mk (Kd.R_lower (Kd.R_new' (Kd.R_new' (Kd.R_new' ho1 (Kd.R_lt (Kd.Rz HO_5.out))) (Kd.R_lt (Kd.Rz HO_6.out))) (Kd.R_lt (Kd.Rz HO_7.out))) (below_size bz));replace HO_5:=Aside0.mk (Kd.R_mono (Kd.R_told (Kd.R_told (Kd.R_old (Kd.Rz HO_5.out) hb) (Kd.R_base ho0)) (Kd.R_base ho1)) (fun _ h_=>h_.1));replace HO_6:=Aside0.mk (Kd.R_mono (Kd.R_told (Kd.R_told (Kd.R_old (Kd.Rz HO_6.out) hb) (Kd.R_base ho0)) (Kd.R_base ho1)) (fun _ h_=>h_.1));replace HO_7:=Aside0.mk (Kd.R_mono (Kd.R_told (Kd.R_told (Kd.R_old (Kd.Rz HO_7.out) hb) (Kd.R_base ho0)) (Kd.R_base ho1)) (fun _ h_=>h_.1));replace HB:=Aside0.mk (below_step bz hb);(try clear hb);(try clear hb2);(try clear hk);(try clear hi);(try clear ho0);(try clear ho1);obtain⟨Ao30,co30,eo30⟩:=Kd.R_slice HO1497.out;subst eo30)|((with_reducible refine gate_callee (f:=17) rfl ?_);refine goesL_ (some 81) rfl rfl Try.func17 (by kernel_rfl) rfl #[.slice Ao12 t1479.length co12,.slice Ao30 t1494.length co30] rfl az ?_;(with_reducible refine(impl_OrdAdd.calls kj8 _ _ t1479 _ _ t1494 t1500 t1501 _ ?side1 ?side2 ?side3 ?side4 A24.out).mono ?_);(case side1=>exact Kd.Cz (Kd.R_reads' HO_6.out).2.2);(case side2=>exact(Kd.R_reads' HO_6.out).2.1);(case side3=>exact Kd.Cz (Kd.R_reads' HO1497.out).2.2);(case side4=>exact(Kd.R_reads' HO1497.out).2.1);rintro e w31 ⟨v1502,rfl,ho0,hb⟩;refine⟨_,rfl,?_⟩;have HO1503:=Aside0.mk (Kd.R_lower (Kd.R_new' (Kd.R_new' (Kd.R_new' (Kd.R_new' (Kd.R_new' ho0 (Kd.R_lt (Kd.Rz HO_5.out))) (Kd.R_lt (Kd.Rz HO_6.out))) (Kd.R_lt (Kd.Rz HO_7.out))) (Kd.R_lt (Kd.Rz HO1497.out))) (Kd.R_lt (Kd.Rz HO1499.out))) (below_size bz));replace HO_5:=Aside0.mk (Kd.R_elder' (Kd.Rz HO_5.out) (Kd.R_base ho0) hb);replace HO_6:=Aside0.mk (Kd.R_elder' (Kd.Rz HO_6.out) (Kd.R_base ho0) hb);replace HO_7:=Aside0.mk (Kd.R_elder' (Kd.Rz HO_7.out) (Kd.R_base ho0) hb);replace HO1497:=Aside0.mk (Kd.R_elder' (Kd.Rz HO1497.out) (Kd.R_base ho0) hb);replace HO1499:=Aside0.mk (Kd.R_elder' (Kd.Rz HO1499.out) (Kd.R_base ho0) hb);replace HB:=Aside0.mk (below_step bz hb);(try clear hb);(try clear hb2);(try clear hk);(try clear hi);(try clear ho0);obtain⟨Ao32,co32,eo32⟩:=Kd.R_slice HO1503.out;subst eo32)|((with_reducible refine gate_callee (f:=26) rfl ?_);refine goesL_ (some 87) rfl rfl Try.func26 (by kernel_rfl) rfl #[.slice Ao11 t1478.length co11,.slice Ao32 t1500.length co32] rfl az ?_;(with_reducible refine(impl_OrdTimes.calls kj8 _ _ t1478 _ _ t1500 t1504 t1505 _ ?side1 ?side2 ?side3 ?side4 A25.out).mono ?_);(case side1=>exact Kd.Cz (Kd.R_reads' HO_5.out).2.2);(case side2=>exact(Kd.R_reads' HO_5.out).2.1);(case side3=>exact Kd.Cz (Kd.R_reads' HO1503.out).2.2);(case side4=>exact(Kd.R_reads' HO1503.out).2.1);rintro e w33 ⟨v1506,rfl,ho0,hb⟩;refine⟨_,rfl,?_⟩;have HO1507:=Aside0.mk (Kd.R_lower (Kd.R_new' (Kd.R_new' (Kd.R_new' (Kd.R_new' (Kd.R_new' (Kd.R_new' ho0 (Kd.R_lt (Kd.Rz HO_5.out))) (Kd.R_lt (Kd.Rz HO_6.out))) (Kd.R_lt (Kd.Rz HO_7.out))) (Kd.R_lt (Kd.Rz HO1497.out))) (Kd.R_lt (Kd.Rz HO1499.out))) (Kd.R_lt (Kd.Rz HO1503.out))) (below_size bz));replace HO_5:=Aside0.mk (Kd.R_elder' (Kd.Rz HO_5.out) (Kd.R_base ho0) hb);replace HO_6:=Aside0.mk (Kd.R_elder' (Kd.Rz HO_6.out) (Kd.R_base ho0) hb);replace HO_7:=Aside0.mk (Kd.R_elder' (Kd.Rz HO_7.out) (Kd.R_base ho0) hb);replace HO1497:=Aside0.mk (Kd.R_elder' (Kd.Rz HO1497.out) (Kd.R_base ho0) hb);replace HO1499:=Aside0.mk (Kd.R_elder' (Kd.Rz HO1499.out) (Kd.R_base ho0) hb);replace HO1503:=Aside0.mk (Kd.R_elder' (Kd.Rz HO1503.out) (Kd.R_base ho0) hb);replace HB:=Aside0.mk (below_step bz hb);(try clear hb);(try clear hb2);(try clear hk);(try clear hi);(try clear ho0))|((with_reducible refine gate_callee (f:=26) rfl ?_);refine goesL_ (some 93) rfl rfl Try.func26 (by kernel_rfl) rfl #[.slice Ao11 t1478.length co11,.slice Ao30 t1494.length co30] rfl az ?_;(with_reducible refine(impl_OrdTimes.calls kj8 _ _ t1478 _ _ t1494 t1508 t1509 _ ?side1 ?side2 ?side3 ?side4 A26.out).mono ?_);(case side1=>exact Kd.Cz (Kd.R_reads' HO_5.out).2.2);(case side2=>exact(Kd.R_reads' HO_5.out).2.1);(case side3=>exact Kd.Cz (Kd.R_reads' HO1497.out).2.2);(case side4=>exact(Kd.R_reads' HO1497.out).2.1);rintro e w34 ⟨v1510,rfl,ho0,hb⟩;refine⟨_,rfl,?_⟩;have HO1511:=Aside0.mk (Kd.R_lower (Kd.R_new' (Kd.R_new' (Kd.R_new' (Kd.R_new' (Kd.R_new' (Kd.R_new' (Kd.R_new' ho0 (Kd.R_lt (Kd.Rz HO_5.out))) (Kd.R_lt (Kd.Rz HO_6.out))) (Kd.R_lt (Kd.Rz HO_7.out))) (Kd.R_lt (Kd.Rz HO1497.out))) (Kd.R_lt (Kd.Rz HO1499.out))) (Kd.R_lt (Kd.Rz HO1503.out))) (Kd.R_lt (Kd.Rz HO1507.out))) (below_size bz));replace HO_5:=Aside0.mk (Kd.R_elder' (Kd.Rz HO_5.out) (Kd.R_base ho0) hb);replace HO_6:=Aside0.mk (Kd.R_elder' (Kd.Rz HO_6.out) (Kd.R_base ho0) hb);replace HO_7:=Aside0.mk (Kd.R_elder' (Kd.Rz HO_7.out) (Kd.R_base ho0) hb);replace HO1497:=Aside0.mk (Kd.R_elder' (Kd.Rz HO1497.out) (Kd.R_base ho0) hb);replace HO1499:=Aside0.mk (Kd.R_elder' (Kd.Rz HO1499.out) (Kd.R_base ho0) hb);replace HO1503:=Aside0.mk (Kd.R_elder' (Kd.Rz HO1503.out) (Kd.R_base ho0) hb);replace HO1507:=Aside0.mk (Kd.R_elder' (Kd.Rz HO1507.out) (Kd.R_base ho0) hb);replace HB:=Aside0.mk (below_step bz hb);(try clear hb);(try clear hb2);(try clear hk);(try clear hi);(try clear ho0);obtain⟨Ao35,co35,eo35⟩:=Kd.R_slice HO_7.out;subst eo35;obtain⟨Ao36,co36,eo36⟩:=Kd.R_slice HO1511.out;subst eo36)|((with_reducible refine gate_callee (f:=17) rfl ?_);refine goesL_ (some 99) rfl rfl Try.func17 (by kernel_rfl) rfl #[.slice Ao35 t1484.length co35,.slice Ao36 t1508.length co36] rfl az ?_;(with_reducible refine(impl_OrdAdd.calls kj8 _ _ t1484 _ _ t1508 t1512 t1513 _ ?side1 ?side2 ?side3 ?side4 A27.out).mono ?_);(case side1=>exact Kd.Cz (Kd.R_reads' HO_7.out).2.2);(case side2=>exact(Kd.R_reads' HO_7.out).2.1);(case side3=>exact Kd.Cz (Kd.R_reads' HO1511.out).2.2);(case side4=>exact(Kd.R_reads' HO1511.out).2.1);rintro e w37 ⟨v1514,rfl,ho0,hb⟩;refine⟨_,rfl,?_⟩;have HO1515:=Aside0.mk (Kd.R_lower (Kd.R_new' (Kd.R_new' (Kd.R_new' (Kd.R_new' (Kd.R_new' (Kd.R_new' (Kd.R_new' (Kd.R_new' ho0 (Kd.R_lt (Kd.Rz HO_5.out))) (Kd.R_lt (Kd.Rz HO_6.out))) (Kd.R_lt (Kd.Rz HO_7.out))) (Kd.R_lt (Kd.Rz HO1497.out))) (Kd.R_lt (Kd.Rz HO1499.out))) (Kd.R_lt (Kd.Rz HO1503.out))) (Kd.R_lt (Kd.Rz HO1507.out))) (Kd.R_lt (Kd.Rz HO1511.out))) (below_size bz));replace HO_5:=Aside0.mk (Kd.R_elder' (Kd.Rz HO_5.out) (Kd.R_base ho0) hb);replace HO_6:=Aside0.mk (Kd.R_elder' (Kd.Rz HO_6.out) (Kd.R_base ho0) hb);replace HO_7:=Aside0.mk (Kd.R_elder' (Kd.Rz HO_7.out) (Kd.R_base ho0) hb);replace HO1497:=Aside0.mk (Kd.R_elder' (Kd.Rz HO1497.out) (Kd.R_base ho0) hb);replace HO1499:=Aside0.mk (Kd.R_elder' (Kd.Rz HO1499.out) (Kd.R_base ho0) hb);replace HO1503:=Aside0.mk (Kd.R_elder' (Kd.Rz HO1503.out) (Kd.R_base ho0) hb);replace HO1507:=Aside0.mk (Kd.R_elder' (Kd.Rz HO1507.out) (Kd.R_base ho0) hb);replace HO1511:=Aside0.mk (Kd.R_elder' (Kd.Rz HO1511.out) (Kd.R_base ho0) hb);replace HB:=Aside0.mk (below_step bz hb);(try clear hb);(try clear hb2);(try clear hk);(try clear hi);(try clear ho0)))
        (try simp only[Act.put,List.setIfInBounds_toArray,List.set_cons_zero,List.set_cons_succ])
        go_cut [117] (fun v117 wc=>∃ (kq:Nat) (x117_27:Bool),v117=.bool x117_27∧Aside0 (laws_FnOrdTimes.j2 kq t1478 t1479 t1484 t1494 x117_27=some r)∧Aside0 (kq≤kj8)∧Aside0 (Kd.R (Kd.int .i64) 3 wc w.heap.size (fun k_=>some k_≠((.slice Ao12 t1479.length co12):Value).ownBlock∧some k_≠((.slice Ao35 t1484.length co35):Value).ownBlock∧some k_≠((.slice Ao30 t1494.length co30):Value).ownBlock) (.slice Ao11 t1478.length co11) t1478)∧Aside0 (Kd.R (Kd.int .i64) 3 wc w.heap.size (fun k_=>some k_≠((.slice Ao11 t1478.length co11):Value).ownBlock∧some k_≠((.slice Ao35 t1484.length co35):Value).ownBlock∧some k_≠((.slice Ao30 t1494.length co30):Value).ownBlock) (.slice Ao12 t1479.length co12) t1479)∧Aside0 (Kd.R (Kd.int .i64) 3 wc w.heap.size (fun k_=>some k_≠((.slice Ao11 t1478.length co11):Value).ownBlock∧some k_≠((.slice Ao12 t1479.length co12):Value).ownBlock∧some k_≠((.slice Ao30 t1494.length co30):Value).ownBlock) (.slice Ao35 t1484.length co35) t1484)∧Aside0 (Kd.R (Kd.int .i64) 3 wc w.heap.size (fun k_=>some k_≠((.slice Ao11 t1478.length co11):Value).ownBlock∧some k_≠((.slice Ao12 t1479.length co12):Value).ownBlock∧some k_≠((.slice Ao35 t1484.length co35):Value).ownBlock) (.slice Ao30 t1494.length co30) t1494)∧Aside0 (Below w.heap.size w wc))
        case first =>
         have H:=HC28.out
         clear HC28
         by_cases c38:t1501=true
         ·subst c38
          have H1:(if t1505=true then(if t1509=true then(if t1513=true then((laws_sameInts.f kj8 t1504 t1512).bind fun t1516=>(laws_FnOrdTimes.j2 kj8 t1478 t1479 t1484 t1494 (!t1516))) else(laws_FnOrdTimes.j2 kj8 t1478 t1479 t1484 t1494 false)) else(laws_FnOrdTimes.j2 kj8 t1478 t1479 t1484 t1494 false)) else(laws_FnOrdTimes.j2 kj8 t1478 t1479 t1484 t1494 false))=some r:=by rw[if_pos rfl] at H;exact H
          clear H
          have H:=H1
          clear H1
          by_cases c39:t1505=true
          ·subst c39
           have H1:(if t1509=true then(if t1513=true then((laws_sameInts.f kj8 t1504 t1512).bind fun t1516=>(laws_FnOrdTimes.j2 kj8 t1478 t1479 t1484 t1494 (!t1516))) else(laws_FnOrdTimes.j2 kj8 t1478 t1479 t1484 t1494 false)) else(laws_FnOrdTimes.j2 kj8 t1478 t1479 t1484 t1494 false))=some r:=by rw[if_pos rfl] at H;exact H
           clear H
           have H:=H1
           clear H1
           by_cases c40:t1509=true
           ·subst c40
            have H1:(if t1513=true then((laws_sameInts.f kj8 t1504 t1512).bind fun t1516=>(laws_FnOrdTimes.j2 kj8 t1478 t1479 t1484 t1494 (!t1516))) else(laws_FnOrdTimes.j2 kj8 t1478 t1479 t1484 t1494 false))=some r:=by rw[if_pos rfl] at H;exact H
            clear H
            have H:=H1
            clear H1
            by_cases c41:t1513=true
            ·subst c41
             have H1:((laws_sameInts.f kj8 t1504 t1512).bind fun t1516=>(laws_FnOrdTimes.j2 kj8 t1478 t1479 t1484 t1494 (!t1516)))=some r:=by rw[if_pos rfl] at H;exact H
             clear H
             have H:=H1
             clear H1
             replace H:=Option.bind_eq_some_iff.mp H
             obtain⟨t1516,A420,H⟩:=H
             replace H:(laws_FnOrdTimes.j2 kj8 t1478 t1479 t1484 t1494 (!t1516))=some r:=H
             have A42:=Aside0.mk A420
             clear A420
             have H':=Aside0.mk H
             clear H
             obtain⟨Ao43,co43,eo43⟩:=Kd.R_slice HO1507.out
             subst eo43
             obtain⟨Ao44,co44,eo44⟩:=Kd.R_slice HO1515.out
             subst eo44
             go_wp2_with (first|(go_at_call 32;(with_reducible refine(laws_sameInts.calls kj8 _ _ t1504 _ _ t1512 t1516 _ ?side1 ?side2 ?side3 ?side4 A42.out).mono ?_);(case side1=>exact Kd.Cz (Kd.R_reads' HO1507.out).2.2);(case side2=>exact(Kd.R_reads' HO1507.out).2.1);(case side3=>exact Kd.Cz (Kd.R_reads' HO1515.out).2.2);(case side4=>exact(Kd.R_reads' HO1515.out).2.1);rintro e w' ⟨rfl,⟨nd,rfl⟩⟩))
             go_meet
             case rel=>exact⟨_,(!t1516),(by first|rfl|(simp;done)|(simp[*];done)),H',⟨by have:=HJ2.out;have:=HJ8.out;first|omega|exact Nat.le_refl _⟩,⟨Kd.Rz <| Kd.R_mono HO_5.out (fun _ hk=>⟨hk.1.1.1.1.1.1.1,⟨hk.1.1.1.1.1.1.2,hk.1.1.1.1.1.2⟩⟩)⟩,⟨Kd.Rz <| Kd.R_mono HO_6.out (fun _ hk=>⟨hk.1.1.1.1.1.1.1,⟨hk.1.1.1.1.1.1.2,hk.1.1.1.1.1.2⟩⟩)⟩,⟨Kd.Rz <| Kd.R_mono HO_7.out (fun _ hk=>⟨hk.1.1.1.1.1.1.1,⟨hk.1.1.1.1.1.1.2,hk.1.1.1.1.1.2⟩⟩)⟩,⟨Kd.Rz <| Kd.R_mono HO1497.out (fun _ hk=>⟨hk.1.1.1.1.1.1.2,⟨hk.1.1.1.1.1.2,hk.1.1.1.1.2⟩⟩)⟩,⟨bz⟩⟩
            ·replace c41:=Bool.eq_false_iff.mpr c41
             subst c41
             have H1:(laws_FnOrdTimes.j2 kj8 t1478 t1479 t1484 t1494 false)=some r:=by rw[if_neg (show ¬ (false=true) by decide)] at H;exact H
             clear H
             have H:=H1
             clear H1
             have H':=Aside0.mk H
             clear H
             go_wp2
             go_meet
             case rel=>exact⟨_,(false),(by first|rfl|(simp;done)|(simp[*];done)),H',⟨by have:=HJ2.out;have:=HJ8.out;first|omega|exact Nat.le_refl _⟩,⟨Kd.Rz <| Kd.R_mono HO_5.out (fun _ hk=>⟨hk.1.1.1.1.1.1.1,⟨hk.1.1.1.1.1.1.2,hk.1.1.1.1.1.2⟩⟩)⟩,⟨Kd.Rz <| Kd.R_mono HO_6.out (fun _ hk=>⟨hk.1.1.1.1.1.1.1,⟨hk.1.1.1.1.1.1.2,hk.1.1.1.1.1.2⟩⟩)⟩,⟨Kd.Rz <| Kd.R_mono HO_7.out (fun _ hk=>⟨hk.1.1.1.1.1.1.1,⟨hk.1.1.1.1.1.1.2,hk.1.1.1.1.1.2⟩⟩)⟩,⟨Kd.Rz <| Kd.R_mono HO1497.out (fun _ hk=>⟨hk.1.1.1.1.1.1.2,⟨hk.1.1.1.1.1.2,hk.1.1.1.1.2⟩⟩)⟩,⟨bz⟩⟩
           ·replace c40:=Bool.eq_false_iff.mpr c40
            subst c40
            have H1:(laws_FnOrdTimes.j2 kj8 t1478 t1479 t1484 t1494 false)=some r:=by rw[if_neg (show ¬ (false=true) by decide)] at H;exact H
            clear H
            have H:=H1
            clear H1
            have H':=Aside0.mk H
            clear H
            go_wp2
            go_meet
            case rel=>exact⟨_,(false),(by first|rfl|(simp;done)|(simp[*];done)),H',⟨by have:=HJ2.out;have:=HJ8.out;first|omega|exact Nat.le_refl _⟩,⟨Kd.Rz <| Kd.R_mono HO_5.out (fun _ hk=>⟨hk.1.1.1.1.1.1.1,⟨hk.1.1.1.1.1.1.2,hk.1.1.1.1.1.2⟩⟩)⟩,⟨Kd.Rz <| Kd.R_mono HO_6.out (fun _ hk=>⟨hk.1.1.1.1.1.1.1,⟨hk.1.1.1.1.1.1.2,hk.1.1.1.1.1.2⟩⟩)⟩,⟨Kd.Rz <| Kd.R_mono HO_7.out (fun _ hk=>⟨hk.1.1.1.1.1.1.1,⟨hk.1.1.1.1.1.1.2,hk.1.1.1.1.1.2⟩⟩)⟩,⟨Kd.Rz <| Kd.R_mono HO1497.out (fun _ hk=>⟨hk.1.1.1.1.1.1.2,⟨hk.1.1.1.1.1.2,hk.1.1.1.1.2⟩⟩)⟩,⟨bz⟩⟩
          ·replace c39:=Bool.eq_false_iff.mpr c39
           subst c39
           have H1:(laws_FnOrdTimes.j2 kj8 t1478 t1479 t1484 t1494 false)=some r:=by rw[if_neg (show ¬ (false=true) by decide)] at H;exact H
           clear H
           have H:=H1
           clear H1
           have H':=Aside0.mk H
           clear H
           go_wp2
           go_meet
           case rel=>exact⟨_,(false),(by first|rfl|(simp;done)|(simp[*];done)),H',⟨by have:=HJ2.out;have:=HJ8.out;first|omega|exact Nat.le_refl _⟩,⟨Kd.Rz <| Kd.R_mono HO_5.out (fun _ hk=>⟨hk.1.1.1.1.1.1.1,⟨hk.1.1.1.1.1.1.2,hk.1.1.1.1.1.2⟩⟩)⟩,⟨Kd.Rz <| Kd.R_mono HO_6.out (fun _ hk=>⟨hk.1.1.1.1.1.1.1,⟨hk.1.1.1.1.1.1.2,hk.1.1.1.1.1.2⟩⟩)⟩,⟨Kd.Rz <| Kd.R_mono HO_7.out (fun _ hk=>⟨hk.1.1.1.1.1.1.1,⟨hk.1.1.1.1.1.1.2,hk.1.1.1.1.1.2⟩⟩)⟩,⟨Kd.Rz <| Kd.R_mono HO1497.out (fun _ hk=>⟨hk.1.1.1.1.1.1.2,⟨hk.1.1.1.1.1.2,hk.1.1.1.1.2⟩⟩)⟩,⟨bz⟩⟩
         ·replace c38:=Bool.eq_false_iff.mpr c38
          subst c38
          have H1:(laws_FnOrdTimes.j2 kj8 t1478 t1479 t1484 t1494 false)=some r:=by rw[if_neg (show ¬ (false=true) by decide)] at H;exact H
          clear H
          have H:=H1
          clear H1
          have H':=Aside0.mk H
          clear H
          go_wp2
          go_meet
          case rel=>exact⟨_,(false),(by first|rfl|(simp;done)|(simp[*];done)),H',⟨by have:=HJ2.out;have:=HJ8.out;first|omega|exact Nat.le_refl _⟩,⟨Kd.Rz <| Kd.R_mono HO_5.out (fun _ hk=>⟨hk.1.1.1.1.1.1.1,⟨hk.1.1.1.1.1.1.2,hk.1.1.1.1.1.2⟩⟩)⟩,⟨Kd.Rz <| Kd.R_mono HO_6.out (fun _ hk=>⟨hk.1.1.1.1.1.1.1,⟨hk.1.1.1.1.1.1.2,hk.1.1.1.1.1.2⟩⟩)⟩,⟨Kd.Rz <| Kd.R_mono HO_7.out (fun _ hk=>⟨hk.1.1.1.1.1.1.1,⟨hk.1.1.1.1.1.1.2,hk.1.1.1.1.1.2⟩⟩)⟩,⟨Kd.Rz <| Kd.R_mono HO1497.out (fun _ hk=>⟨hk.1.1.1.1.1.1.2,⟨hk.1.1.1.1.1.2,hk.1.1.1.1.2⟩⟩)⟩,⟨bz⟩⟩
        case rest =>
         clear HC28
         try clear c1
         try clear c2
         try clear p2
         try clear c3
         try clear c4
         try clear c4b0
         try clear c4b1
         try clear c5
         try clear c10
         try clear c16
         try clear c17
         try clear c21
         try clear c22
         try clear c25
         try clear c26
         try clear c32
         try clear c37
         try clear c38
         try clear c39
         try clear c40
         try clear c41
         try clear p2
         obtain⟨kq,x117_27,rfl,HA,HJ27,HO_5,HO_6,HO_7,HO_11,HB⟩:=hcut
         cases kq with
         | zero=>exact absurd HA.out (by simp[laws_FnOrdTimes.j2])
         | succ kj27 =>
          have H:=HA.out
          clear HA
          simp only[laws_FnOrdTimes.j2] at H
          by_cases c45:x117_27=true
          ·subst c45
           have H1:(some false)=some r:=by rw[if_pos rfl] at H;exact H
           clear H
           have H:=H1
           clear H1
           obtain rfl:=Option.some.inj H
           go_wp2
           go_ret
           exact⟨by first|rfl|(simp[errW_none,errW_some]<;>rfl)|(simp[*,errW_none,errW_some]<;>rfl),bz⟩
          ·replace c45:=Bool.eq_false_iff.mpr c45
           subst c45
           have H1:((impl_OrdTimes.f kj27 t1484 t1494).bind fun bt1517=>((impl_OrdTimes.f kj27 t1479 t1494).bind fun bt1521=>((impl_OrdTimes.f kj27 t1478 bt1521.1).bind fun bt1525=>(if bt1517.2=true then(if bt1521.2=true then(if bt1525.2=true then((laws_sameInts.f kj27 bt1517.1 bt1525.1).bind fun t1529=>(laws_FnOrdTimes.j3 kj27 t1478 t1484 (!t1529))) else(laws_FnOrdTimes.j3 kj27 t1478 t1484 false)) else(laws_FnOrdTimes.j3 kj27 t1478 t1484 false)) else(laws_FnOrdTimes.j3 kj27 t1478 t1484 false)))))=some r:=by rw[if_neg (show ¬ (false=true) by decide)] at H;exact H
           clear H
           have H:=H1
           clear H1
           replace H:=Option.bind_eq_some_iff.mp H
           obtain⟨⟨t1517,t1518⟩,A460,H⟩:=H
           replace H:((impl_OrdTimes.f kj27 t1479 t1494).bind fun bt1521=>((impl_OrdTimes.f kj27 t1478 bt1521.1).bind fun bt1525=>(if t1518=true then(if bt1521.2=true then(if bt1525.2=true then((laws_sameInts.f kj27 t1517 bt1525.1).bind fun t1529=>(laws_FnOrdTimes.j3 kj27 t1478 t1484 (!t1529))) else(laws_FnOrdTimes.j3 kj27 t1478 t1484 false)) else(laws_FnOrdTimes.j3 kj27 t1478 t1484 false)) else(laws_FnOrdTimes.j3 kj27 t1478 t1484 false))))=some r:=H
           have A46:=Aside0.mk A460
           clear A460
           replace H:=Option.bind_eq_some_iff.mp H
           obtain⟨⟨t1521,t1522⟩,A470,H⟩:=H
           replace H:((impl_OrdTimes.f kj27 t1478 t1521).bind fun bt1525=>(if t1518=true then(if t1522=true then(if bt1525.2=true then((laws_sameInts.f kj27 t1517 bt1525.1).bind fun t1529=>(laws_FnOrdTimes.j3 kj27 t1478 t1484 (!t1529))) else(laws_FnOrdTimes.j3 kj27 t1478 t1484 false)) else(laws_FnOrdTimes.j3 kj27 t1478 t1484 false)) else(laws_FnOrdTimes.j3 kj27 t1478 t1484 false)))=some r:=H
           have A47:=Aside0.mk A470
           clear A470
           replace H:=Option.bind_eq_some_iff.mp H
           obtain⟨⟨t1525,t1526⟩,A480,H⟩:=H
           replace H:(if t1518=true then(if t1522=true then(if t1526=true then((laws_sameInts.f kj27 t1517 t1525).bind fun t1529=>(laws_FnOrdTimes.j3 kj27 t1478 t1484 (!t1529))) else(laws_FnOrdTimes.j3 kj27 t1478 t1484 false)) else(laws_FnOrdTimes.j3 kj27 t1478 t1484 false)) else(laws_FnOrdTimes.j3 kj27 t1478 t1484 false))=some r:=H
           have A48:=Aside0.mk A480
           clear A480
           have HC49:=Aside0.mk H
           clear H
           go_upto_region 20 with (first|((with_reducible refine gate_callee (f:=26) rfl ?_);refine goesL_ (some 121) rfl rfl Try.func26 (by kernel_rfl) rfl #[.slice Ao35 t1484.length co35,.slice Ao30 t1494.length co30] rfl az ?_;(with_reducible refine(impl_OrdTimes.calls kj27 _ _ t1484 _ _ t1494 t1517 t1518 _ ?side1 ?side2 ?side3 ?side4 A46.out).mono ?_);(case side1=>exact Kd.Cz (Kd.R_reads' HO_7.out).2.2);(case side2=>exact(Kd.R_reads' HO_7.out).2.1);(case side3=>exact Kd.Cz (Kd.R_reads' HO_11.out).2.2);(case side4=>exact(Kd.R_reads' HO_11.out).2.1);rintro e w50 ⟨v1519,rfl,ho0,hb⟩;refine⟨_,rfl,?_⟩;have HO1520:=Aside0.mk (Kd.R_lower (Kd.R_new' (Kd.R_new' (Kd.R_new' (Kd.R_new' ho0 (Kd.R_lt (Kd.Rz HO_5.out))) (Kd.R_lt (Kd.Rz HO_6.out))) (Kd.R_lt (Kd.Rz HO_7.out))) (Kd.R_lt (Kd.Rz HO_11.out))) (below_size bz));replace HO_5:=Aside0.mk (Kd.R_elder' (Kd.Rz HO_5.out) (Kd.R_base ho0) hb);replace HO_6:=Aside0.mk (Kd.R_elder' (Kd.Rz HO_6.out) (Kd.R_base ho0) hb);replace HO_7:=Aside0.mk (Kd.R_elder' (Kd.Rz HO_7.out) (Kd.R_base ho0) hb);replace HO_11:=Aside0.mk (Kd.R_elder' (Kd.Rz HO_11.out) (Kd.R_base ho0) hb);replace HB:=Aside0.mk (below_step bz hb);(try clear hb);(try clear hb2);(try clear hk);(try clear hi);(try clear ho0))|((with_reducible refine gate_callee (f:=26) rfl ?_);refine goesL_ (some 127) rfl rfl Try.func26 (by kernel_rfl) rfl #[.slice Ao12 t1479.length co12,.slice Ao30 t1494.length co30] rfl az ?_;(with_reducible refine(impl_OrdTimes.calls kj27 _ _ t1479 _ _ t1494 t1521 t1522 _ ?side1 ?side2 ?side3 ?side4 A47.out).mono ?_);(case side1=>exact Kd.Cz (Kd.R_reads' HO_6.out).2.2);(case side2=>exact(Kd.R_reads' HO_6.out).2.1);(case side3=>exact Kd.Cz (Kd.R_reads' HO_11.out).2.2);(case side4=>exact(Kd.R_reads' HO_11.out).2.1);rintro e w51 ⟨v1523,rfl,ho0,hb⟩;refine⟨_,rfl,?_⟩;have HO1524:=Aside0.mk (Kd.R_lower (Kd.R_new' (Kd.R_new' (Kd.R_new' (Kd.R_new' (Kd.R_new' ho0 (Kd.R_lt (Kd.Rz HO_5.out))) (Kd.R_lt (Kd.Rz HO_6.out))) (Kd.R_lt (Kd.Rz HO_7.out))) (Kd.R_lt (Kd.Rz HO_11.out))) (Kd.R_lt (Kd.Rz HO1520.out))) (below_size bz));replace HO_5:=Aside0.mk (Kd.R_elder' (Kd.Rz HO_5.out) (Kd.R_base ho0) hb);replace HO_6:=Aside0.mk (Kd.R_elder' (Kd.Rz HO_6.out) (Kd.R_base ho0) hb);replace HO_7:=Aside0.mk (Kd.R_elder' (Kd.Rz HO_7.out) (Kd.R_base ho0) hb);replace HO_11:=Aside0.mk (Kd.R_elder' (Kd.Rz HO_11.out) (Kd.R_base ho0) hb);replace HO1520:=Aside0.mk (Kd.R_elder' (Kd.Rz HO1520.out) (Kd.R_base ho0) hb);replace HB:=Aside0.mk (below_step bz hb);(try clear hb);(try clear hb2);(try clear hk);(try clear hi);(try clear ho0);obtain⟨Ao52,co52,eo52⟩:=Kd.R_slice HO1524.out;subst eo52)|((with_reducible refine gate_callee (f:=26) rfl ?_);refine goesL_ (some 133) rfl rfl Try.func26 (by kernel_rfl) rfl #[.slice Ao11 t1478.length co11,.slice Ao52 t1521.length co52] rfl az ?_;(with_reducible refine(impl_OrdTimes.calls kj27 _ _ t1478 _ _ t1521 t1525 t1526 _ ?side1 ?side2 ?side3 ?side4 A48.out).mono ?_);(case side1=>exact Kd.Cz (Kd.R_reads' HO_5.out).2.2);(case side2=>exact(Kd.R_reads' HO_5.out).2.1);(case side3=>exact Kd.Cz (Kd.R_reads' HO1524.out).2.2);(case side4=>exact(Kd.R_reads' HO1524.out).2.1);rintro e w53 ⟨v1527,rfl,ho0,hb⟩;refine⟨_,rfl,?_⟩;have HO1528:=Aside0.mk (Kd.R_lower (Kd.R_new' (Kd.R_new' (Kd.R_new' (Kd.R_new' (Kd.R_new' (Kd.R_new' ho0 (Kd.R_lt (Kd.Rz HO_5.out))) (Kd.R_lt (Kd.Rz HO_6.out))) (Kd.R_lt (Kd.Rz HO_7.out))) (Kd.R_lt (Kd.Rz HO_11.out))) (Kd.R_lt (Kd.Rz HO1520.out))) (Kd.R_lt (Kd.Rz HO1524.out))) (below_size bz));replace HO_5:=Aside0.mk (Kd.R_elder' (Kd.Rz HO_5.out) (Kd.R_base ho0) hb);replace HO_6:=Aside0.mk (Kd.R_elder' (Kd.Rz HO_6.out) (Kd.R_base ho0) hb);replace HO_7:=Aside0.mk (Kd.R_elder' (Kd.Rz HO_7.out) (Kd.R_base ho0) hb);replace HO_11:=Aside0.mk (Kd.R_elder' (Kd.Rz HO_11.out) (Kd.R_base ho0) hb);replace HO1520:=Aside0.mk (Kd.R_elder' (Kd.Rz HO1520.out) (Kd.R_base ho0) hb);replace HO1524:=Aside0.mk (Kd.R_elder' (Kd.Rz HO1524.out) (Kd.R_base ho0) hb);replace HB:=Aside0.mk (below_step bz hb);(try clear hb);(try clear hb2);(try clear hk);(try clear hi);(try clear ho0)))
           (try simp only[Act.put,List.setIfInBounds_toArray,List.set_cons_zero,List.set_cons_succ])
           go_cut [148] (fun v148 wc=>∃ (kq:Nat) (x148_48:Bool),v148=.bool x148_48∧Aside0 (laws_FnOrdTimes.j3 kq t1478 t1484 x148_48=some r)∧Aside0 (kq≤kj27)∧Aside0 (Kd.R (Kd.int .i64) 3 wc w.heap.size (fun k_=>some k_≠((.slice Ao35 t1484.length co35):Value).ownBlock) (.slice Ao11 t1478.length co11) t1478)∧Aside0 (Kd.R (Kd.int .i64) 3 wc w.heap.size (fun k_=>some k_≠((.slice Ao11 t1478.length co11):Value).ownBlock) (.slice Ao35 t1484.length co35) t1484)∧Aside0 (Below w.heap.size w wc))
           case first =>
            have H:=HC49.out
            clear HC49
            by_cases c54:t1518=true
            ·subst c54
             have H1:(if t1522=true then(if t1526=true then((laws_sameInts.f kj27 t1517 t1525).bind fun t1529=>(laws_FnOrdTimes.j3 kj27 t1478 t1484 (!t1529))) else(laws_FnOrdTimes.j3 kj27 t1478 t1484 false)) else(laws_FnOrdTimes.j3 kj27 t1478 t1484 false))=some r:=by rw[if_pos rfl] at H;exact H
             clear H
             have H:=H1
             clear H1
             by_cases c55:t1522=true
             ·subst c55
              have H1:(if t1526=true then((laws_sameInts.f kj27 t1517 t1525).bind fun t1529=>(laws_FnOrdTimes.j3 kj27 t1478 t1484 (!t1529))) else(laws_FnOrdTimes.j3 kj27 t1478 t1484 false))=some r:=by rw[if_pos rfl] at H;exact H
              clear H
              have H:=H1
              clear H1
              by_cases c56:t1526=true
              ·subst c56
               have H1:((laws_sameInts.f kj27 t1517 t1525).bind fun t1529=>(laws_FnOrdTimes.j3 kj27 t1478 t1484 (!t1529)))=some r:=by rw[if_pos rfl] at H;exact H
               clear H
               have H:=H1
               clear H1
               replace H:=Option.bind_eq_some_iff.mp H
               obtain⟨t1529,A570,H⟩:=H
               replace H:(laws_FnOrdTimes.j3 kj27 t1478 t1484 (!t1529))=some r:=H
               have A57:=Aside0.mk A570
               clear A570
               have H':=Aside0.mk H
               clear H
               obtain⟨Ao58,co58,eo58⟩:=Kd.R_slice HO1520.out
               subst eo58
               obtain⟨Ao59,co59,eo59⟩:=Kd.R_slice HO1528.out
               subst eo59
               go_wp2_with (first|(go_at_call 32;(with_reducible refine(laws_sameInts.calls kj27 _ _ t1517 _ _ t1525 t1529 _ ?side1 ?side2 ?side3 ?side4 A57.out).mono ?_);(case side1=>exact Kd.Cz (Kd.R_reads' HO1520.out).2.2);(case side2=>exact(Kd.R_reads' HO1520.out).2.1);(case side3=>exact Kd.Cz (Kd.R_reads' HO1528.out).2.2);(case side4=>exact(Kd.R_reads' HO1528.out).2.1);rintro e w' ⟨rfl,⟨nd,rfl⟩⟩))
               go_meet
               case rel=>exact⟨_,(!t1529),(by first|rfl|(simp;done)|(simp[*];done)),H',⟨by have:=HJ2.out;have:=HJ8.out;have:=HJ27.out;first|omega|exact Nat.le_refl _⟩,⟨Kd.Rz <| Kd.R_mono HO_5.out (fun _ hk=>hk.1.1.1.2.1)⟩,⟨Kd.Rz <| Kd.R_mono HO_7.out (fun _ hk=>hk.1.1.1.1)⟩,⟨bz⟩⟩
              ·replace c56:=Bool.eq_false_iff.mpr c56
               subst c56
               have H1:(laws_FnOrdTimes.j3 kj27 t1478 t1484 false)=some r:=by rw[if_neg (show ¬ (false=true) by decide)] at H;exact H
               clear H
               have H:=H1
               clear H1
               have H':=Aside0.mk H
               clear H
               go_wp2
               go_meet
               case rel=>exact⟨_,(false),(by first|rfl|(simp;done)|(simp[*];done)),H',⟨by have:=HJ2.out;have:=HJ8.out;have:=HJ27.out;first|omega|exact Nat.le_refl _⟩,⟨Kd.Rz <| Kd.R_mono HO_5.out (fun _ hk=>hk.1.1.1.2.1)⟩,⟨Kd.Rz <| Kd.R_mono HO_7.out (fun _ hk=>hk.1.1.1.1)⟩,⟨bz⟩⟩
             ·replace c55:=Bool.eq_false_iff.mpr c55
              subst c55
              have H1:(laws_FnOrdTimes.j3 kj27 t1478 t1484 false)=some r:=by rw[if_neg (show ¬ (false=true) by decide)] at H;exact H
              clear H
              have H:=H1
              clear H1
              have H':=Aside0.mk H
              clear H
              go_wp2
              go_meet
              case rel=>exact⟨_,(false),(by first|rfl|(simp;done)|(simp[*];done)),H',⟨by have:=HJ2.out;have:=HJ8.out;have:=HJ27.out;first|omega|exact Nat.le_refl _⟩,⟨Kd.Rz <| Kd.R_mono HO_5.out (fun _ hk=>hk.1.1.1.2.1)⟩,⟨Kd.Rz <| Kd.R_mono HO_7.out (fun _ hk=>hk.1.1.1.1)⟩,⟨bz⟩⟩
            ·replace c54:=Bool.eq_false_iff.mpr c54
             subst c54
             have H1:(laws_FnOrdTimes.j3 kj27 t1478 t1484 false)=some r:=by rw[if_neg (show ¬ (false=true) by decide)] at H;exact H
             clear H
             have H:=H1
             clear H1
             have H':=Aside0.mk H
             clear H
             go_wp2
             go_meet
             case rel=>exact⟨_,(false),(by first|rfl|(simp;done)|(simp[*];done)),H',⟨by have:=HJ2.out;have:=HJ8.out;have:=HJ27.out;first|omega|exact Nat.le_refl _⟩,⟨Kd.Rz <| Kd.R_mono HO_5.out (fun _ hk=>hk.1.1.1.2.1)⟩,⟨Kd.Rz <| Kd.R_mono HO_7.out (fun _ hk=>hk.1.1.1.1)⟩,⟨bz⟩⟩
           case rest =>
            clear HC49
            try clear c1
            try clear c2
            try clear p2
            try clear c3
            try clear c4
            try clear c4b0
            try clear c4b1
            try clear c5
            try clear c10
            try clear c16
            try clear c17
            try clear c21
            try clear c22
            try clear c25
            try clear c26
            try clear c32
            try clear c37
            try clear c38
            try clear c39
            try clear c40
            try clear c41
            try clear c45
            try clear c54
            try clear c55
            try clear c56
            try clear p2
            obtain⟨kq,x148_48,rfl,HA,HJ48,HO_5,HO_7,HB⟩:=hcut
            cases kq with
            | zero=>exact absurd HA.out (by simp[laws_FnOrdTimes.j3])
            | succ kj48 =>
             have H:=HA.out
             clear HA
             simp only[laws_FnOrdTimes.j3] at H
             by_cases c60:x148_48=true
             ·subst c60
              have H1:(some false)=some r:=by rw[if_pos rfl] at H;exact H
              clear H
              have H:=H1
              clear H1
              obtain rfl:=Option.some.inj H
              go_wp2
              go_ret
              exact⟨by first|rfl|(simp[errW_none,errW_some]<;>rfl)|(simp[*,errW_none,errW_some]<;>rfl),bz⟩
             ·replace c60:=Bool.eq_false_iff.mpr c60
              subst c60
              have H1:((impl_OrdOf.f kj48 1).bind fun t1530=>((impl_OrdTimes.f kj48 t1478 t1530).bind fun bt1533=>((impl_OrdOf.f kj48 1).bind fun t1537=>((impl_OrdTimes.f kj48 t1537 t1478).bind fun bt1540=>((impl_OrdValid.f kj48 t1484).bind fun t1544=>(if t1544=true then((laws_sameInts.f kj48 bt1533.1 t1478).bind fun t1545=>(if t1545=true then((laws_sameInts.f kj48 bt1540.1 t1478).bind fun t1546=>(some t1546)) else(some false))) else(some false)))))))=some r:=by rw[if_neg (show ¬ (false=true) by decide)] at H;exact H
              clear H
              have H:=H1
              clear H1
              replace H:=Option.bind_eq_some_iff.mp H
              obtain⟨t1530,A610,H⟩:=H
              replace H:((impl_OrdTimes.f kj48 t1478 t1530).bind fun bt1533=>((impl_OrdOf.f kj48 1).bind fun t1537=>((impl_OrdTimes.f kj48 t1537 t1478).bind fun bt1540=>((impl_OrdValid.f kj48 t1484).bind fun t1544=>(if t1544=true then((laws_sameInts.f kj48 bt1533.1 t1478).bind fun t1545=>(if t1545=true then((laws_sameInts.f kj48 bt1540.1 t1478).bind fun t1546=>(some t1546)) else(some false))) else(some false))))))=some r:=H
              have A61:=Aside0.mk A610
              clear A610
              replace H:=Option.bind_eq_some_iff.mp H
              obtain⟨⟨t1533,t1534⟩,A620,H⟩:=H
              replace H:((impl_OrdOf.f kj48 1).bind fun t1537=>((impl_OrdTimes.f kj48 t1537 t1478).bind fun bt1540=>((impl_OrdValid.f kj48 t1484).bind fun t1544=>(if t1544=true then((laws_sameInts.f kj48 t1533 t1478).bind fun t1545=>(if t1545=true then((laws_sameInts.f kj48 bt1540.1 t1478).bind fun t1546=>(some t1546)) else(some false))) else(some false)))))=some r:=H
              have A62:=Aside0.mk A620
              clear A620
              replace H:=Option.bind_eq_some_iff.mp H
              obtain⟨t1537,A630,H⟩:=H
              replace H:((impl_OrdTimes.f kj48 t1537 t1478).bind fun bt1540=>((impl_OrdValid.f kj48 t1484).bind fun t1544=>(if t1544=true then((laws_sameInts.f kj48 t1533 t1478).bind fun t1545=>(if t1545=true then((laws_sameInts.f kj48 bt1540.1 t1478).bind fun t1546=>(some t1546)) else(some false))) else(some false))))=some r:=H
              have A63:=Aside0.mk A630
              clear A630
              replace H:=Option.bind_eq_some_iff.mp H
              obtain⟨⟨t1540,t1541⟩,A640,H⟩:=H
              replace H:((impl_OrdValid.f kj48 t1484).bind fun t1544=>(if t1544=true then((laws_sameInts.f kj48 t1533 t1478).bind fun t1545=>(if t1545=true then((laws_sameInts.f kj48 t1540 t1478).bind fun t1546=>(some t1546)) else(some false))) else(some false)))=some r:=H
              have A64:=Aside0.mk A640
              clear A640
              replace H:=Option.bind_eq_some_iff.mp H
              obtain⟨t1544,A650,H⟩:=H
              replace H:(if t1544=true then((laws_sameInts.f kj48 t1533 t1478).bind fun t1545=>(if t1545=true then((laws_sameInts.f kj48 t1540 t1478).bind fun t1546=>(some t1546)) else(some false))) else(some false))=some r:=H
              have A65:=Aside0.mk A650
              clear A650
              by_cases c66:t1544=true
              ·subst c66
               have H1:((laws_sameInts.f kj48 t1533 t1478).bind fun t1545=>(if t1545=true then((laws_sameInts.f kj48 t1540 t1478).bind fun t1546=>(some t1546)) else(some false)))=some r:=by rw[if_pos rfl] at H;exact H
               clear H
               have H:=H1
               clear H1
               replace H:=Option.bind_eq_some_iff.mp H
               obtain⟨t1545,A670,H⟩:=H
               replace H:(if t1545=true then((laws_sameInts.f kj48 t1540 t1478).bind fun t1546=>(some t1546)) else(some false))=some r:=H
               have A67:=Aside0.mk A670
               clear A670
               by_cases c68:t1545=true
               ·subst c68
                have H1:((laws_sameInts.f kj48 t1540 t1478).bind fun t1546=>(some t1546))=some r:=by rw[if_pos rfl] at H;exact H
                clear H
                have H:=H1
                clear H1
                replace H:=Option.bind_eq_some_iff.mp H
                obtain⟨t1546,A690,H⟩:=H
                replace H:(some t1546)=some r:=H
                have A69:=Aside0.mk A690
                clear A690
                obtain rfl:=Option.some.inj H
                go_wp2_with (first|((with_reducible refine gate_callee (f:=38) rfl ?_);refine goesL_ (some 151) rfl rfl Try.func38 (by kernel_rfl) rfl #[.int .i64 1] rfl az ?_;(with_reducible refine(impl_OrdOf.calls kj48 1 t1530 _ A61.out).mono ?_);rintro e w70 ⟨v1531,rfl,ho0,hb⟩;refine⟨_,rfl,?_⟩;have HO1532:=Aside0.mk (Kd.R_lower (Kd.R_new' (Kd.R_new' ho0 (Kd.R_lt (Kd.Rz HO_5.out))) (Kd.R_lt (Kd.Rz HO_7.out))) (below_size bz));replace HO_5:=Aside0.mk (Kd.R_elder' (Kd.Rz HO_5.out) (Kd.R_base ho0) hb);replace HO_7:=Aside0.mk (Kd.R_elder' (Kd.Rz HO_7.out) (Kd.R_base ho0) hb);replace HB:=Aside0.mk (below_step bz hb);(try clear hb);(try clear hb2);(try clear hk);(try clear hi);(try clear ho0);obtain⟨Ao71,co71,eo71⟩:=Kd.R_slice HO1532.out;subst eo71)|((with_reducible refine gate_callee (f:=26) rfl ?_);refine goesL_ (some 152) rfl rfl Try.func26 (by kernel_rfl) rfl #[.slice Ao11 t1478.length co11,.slice Ao71 t1530.length co71] rfl az ?_;(with_reducible refine(impl_OrdTimes.calls kj48 _ _ t1478 _ _ t1530 t1533 t1534 _ ?side1 ?side2 ?side3 ?side4 A62.out).mono ?_);(case side1=>exact Kd.Cz (Kd.R_reads' HO_5.out).2.2);(case side2=>exact(Kd.R_reads' HO_5.out).2.1);(case side3=>exact Kd.Cz (Kd.R_reads' HO1532.out).2.2);(case side4=>exact(Kd.R_reads' HO1532.out).2.1);rintro e w72 ⟨v1535,rfl,ho0,hb⟩;refine⟨_,rfl,?_⟩;have HO1536:=Aside0.mk (Kd.R_lower (Kd.R_new' (Kd.R_new' (Kd.R_new' ho0 (Kd.R_lt (Kd.Rz HO_5.out))) (Kd.R_lt (Kd.Rz HO_7.out))) (Kd.R_lt (Kd.Rz HO1532.out))) (below_size bz));replace HO_5:=Aside0.mk (Kd.R_elder' (Kd.Rz HO_5.out) (Kd.R_base ho0) hb);replace HO_7:=Aside0.mk (Kd.R_elder' (Kd.Rz HO_7.out) (Kd.R_base ho0) hb);replace HO1532:=Aside0.mk (Kd.R_elder' (Kd.Rz HO1532.out) (Kd.R_base ho0) hb);replace HB:=Aside0.mk (below_step bz hb);(try clear hb);(try clear hb2);(try clear hk);(try clear hi);(try clear ho0))|((with_reducible refine gate_callee (f:=38) rfl ?_);refine goesL_ (some 156) rfl rfl Try.func38 (by kernel_rfl) rfl #[.int .i64 1] rfl az ?_;(with_reducible refine(impl_OrdOf.calls kj48 1 t1537 _ A63.out).mono ?_);rintro e w73 ⟨v1538,rfl,ho0,hb⟩;refine⟨_,rfl,?_⟩;have HO1539:=Aside0.mk (Kd.R_lower (Kd.R_new' (Kd.R_new' (Kd.R_new' (Kd.R_new' ho0 (Kd.R_lt (Kd.Rz HO_5.out))) (Kd.R_lt (Kd.Rz HO_7.out))) (Kd.R_lt (Kd.Rz HO1532.out))) (Kd.R_lt (Kd.Rz HO1536.out))) (below_size bz));replace HO_5:=Aside0.mk (Kd.R_elder' (Kd.Rz HO_5.out) (Kd.R_base ho0) hb);replace HO_7:=Aside0.mk (Kd.R_elder' (Kd.Rz HO_7.out) (Kd.R_base ho0) hb);replace HO1532:=Aside0.mk (Kd.R_elder' (Kd.Rz HO1532.out) (Kd.R_base ho0) hb);replace HO1536:=Aside0.mk (Kd.R_elder' (Kd.Rz HO1536.out) (Kd.R_base ho0) hb);replace HB:=Aside0.mk (below_step bz hb);(try clear hb);(try clear hb2);(try clear hk);(try clear hi);(try clear ho0);obtain⟨Ao74,co74,eo74⟩:=Kd.R_slice HO1539.out;subst eo74)|((with_reducible refine gate_callee (f:=26) rfl ?_);refine goesL_ (some 158) rfl rfl Try.func26 (by kernel_rfl) rfl #[.slice Ao74 t1537.length co74,.slice Ao11 t1478.length co11] rfl az ?_;(with_reducible refine(impl_OrdTimes.calls kj48 _ _ t1537 _ _ t1478 t1540 t1541 _ ?side1 ?side2 ?side3 ?side4 A64.out).mono ?_);(case side1=>exact Kd.Cz (Kd.R_reads' HO1539.out).2.2);(case side2=>exact(Kd.R_reads' HO1539.out).2.1);(case side3=>exact Kd.Cz (Kd.R_reads' HO_5.out).2.2);(case side4=>exact(Kd.R_reads' HO_5.out).2.1);rintro e w75 ⟨v1542,rfl,ho0,hb⟩;refine⟨_,rfl,?_⟩;have HO1543:=Aside0.mk (Kd.R_lower (Kd.R_new' (Kd.R_new' (Kd.R_new' (Kd.R_new' (Kd.R_new' ho0 (Kd.R_lt (Kd.Rz HO_5.out))) (Kd.R_lt (Kd.Rz HO_7.out))) (Kd.R_lt (Kd.Rz HO1532.out))) (Kd.R_lt (Kd.Rz HO1536.out))) (Kd.R_lt (Kd.Rz HO1539.out))) (below_size bz));replace HO_5:=Aside0.mk (Kd.R_elder' (Kd.Rz HO_5.out) (Kd.R_base ho0) hb);replace HO_7:=Aside0.mk (Kd.R_elder' (Kd.Rz HO_7.out) (Kd.R_base ho0) hb);replace HO1532:=Aside0.mk (Kd.R_elder' (Kd.Rz HO1532.out) (Kd.R_base ho0) hb);replace HO1536:=Aside0.mk (Kd.R_elder' (Kd.Rz HO1536.out) (Kd.R_base ho0) hb);replace HO1539:=Aside0.mk (Kd.R_elder' (Kd.Rz HO1539.out) (Kd.R_base ho0) hb);replace HB:=Aside0.mk (below_step bz hb);(try clear hb);(try clear hb2);(try clear hk);(try clear hi);(try clear ho0))|((with_reducible refine gate_callee (f:=36) rfl ?_);refine goesL_ (some 162) rfl rfl Try.func36 (by kernel_rfl) rfl #[.slice Ao35 t1484.length co35] rfl az ?_;(with_reducible refine(impl_OrdValid.calls kj48 _ _ t1484 true _ ?side1 ?side2 A65.out).mono ?_);(case side1=>exact Kd.Cz (Kd.R_reads' HO_7.out).2.2);(case side2=>exact(Kd.R_reads' HO_7.out).2.1);rintro e w76 ⟨rfl,hb⟩;refine⟨_,rfl,?_⟩;replace HO_5:=Aside0.mk (Kd.R_below (Kd.Rz HO_5.out) hb);replace HO_7:=Aside0.mk (Kd.R_below (Kd.Rz HO_7.out) hb);replace HO1532:=Aside0.mk (Kd.R_below (Kd.Rz HO1532.out) hb);replace HO1536:=Aside0.mk (Kd.R_below (Kd.Rz HO1536.out) hb);replace HO1539:=Aside0.mk (Kd.R_below (Kd.Rz HO1539.out) hb);replace HO1543:=Aside0.mk (Kd.R_below (Kd.Rz HO1543.out) hb);replace HB:=Aside0.mk (below_step bz hb);(try clear hb);(try clear hb2);(try clear hk);(try clear hi);obtain⟨Ao77,co77,eo77⟩:=Kd.R_slice HO1536.out;subst eo77)|(go_at_call 32;(with_reducible refine(laws_sameInts.calls kj48 _ _ t1533 _ _ t1478 true _ ?side1 ?side2 ?side3 ?side4 A67.out).mono ?_);(case side1=>exact Kd.Cz (Kd.R_reads' HO1536.out).2.2);(case side2=>exact(Kd.R_reads' HO1536.out).2.1);(case side3=>exact Kd.Cz (Kd.R_reads' HO_5.out).2.2);(case side4=>exact(Kd.R_reads' HO_5.out).2.1);rintro e w' ⟨rfl,⟨nd,rfl⟩⟩;obtain⟨Ao78,co78,eo78⟩:=Kd.R_slice HO1543.out;subst eo78)|(go_at_call 32;(with_reducible refine(laws_sameInts.calls kj48 _ _ t1540 _ _ t1478 t1546 _ ?side1 ?side2 ?side3 ?side4 A69.out).mono ?_);(case side1=>exact Kd.Cz (Kd.R_reads' HO1543.out).2.2);(case side2=>exact(Kd.R_reads' HO1543.out).2.1);(case side3=>exact Kd.Cz (Kd.R_reads' HO_5.out).2.2);(case side4=>exact(Kd.R_reads' HO_5.out).2.1);rintro e w' ⟨rfl,⟨nd,rfl⟩⟩))
                go_ret
                exact⟨by first|rfl|(simp[errW_none,errW_some]<;>rfl)|(simp[*,errW_none,errW_some]<;>rfl),bz⟩
               ·replace c68:=Bool.eq_false_iff.mpr c68
                subst c68
                have H1:(some false)=some r:=by rw[if_neg (show ¬ (false=true) by decide)] at H;exact H
                clear H
                have H:=H1
                clear H1
                obtain rfl:=Option.some.inj H
                go_wp2_with (first|((with_reducible refine gate_callee (f:=38) rfl ?_);refine goesL_ (some 151) rfl rfl Try.func38 (by kernel_rfl) rfl #[.int .i64 1] rfl az ?_;(with_reducible refine(impl_OrdOf.calls kj48 1 t1530 _ A61.out).mono ?_);rintro e w79 ⟨v1531,rfl,ho0,hb⟩;refine⟨_,rfl,?_⟩;have HO1532:=Aside0.mk (Kd.R_lower (Kd.R_new' (Kd.R_new' ho0 (Kd.R_lt (Kd.Rz HO_5.out))) (Kd.R_lt (Kd.Rz HO_7.out))) (below_size bz));replace HO_5:=Aside0.mk (Kd.R_elder' (Kd.Rz HO_5.out) (Kd.R_base ho0) hb);replace HO_7:=Aside0.mk (Kd.R_elder' (Kd.Rz HO_7.out) (Kd.R_base ho0) hb);replace HB:=Aside0.mk (below_step bz hb);(try clear hb);(try clear hb2);(try clear hk);(try clear hi);(try clear ho0);obtain⟨Ao80,co80,eo80⟩:=Kd.R_slice HO1532.out;subst eo80)|((with_reducible refine gate_callee (f:=26) rfl ?_);refine goesL_ (some 152) rfl rfl Try.func26 (by kernel_rfl) rfl #[.slice Ao11 t1478.length co11,.slice Ao80 t1530.length co80] rfl az ?_;(with_reducible refine(impl_OrdTimes.calls kj48 _ _ t1478 _ _ t1530 t1533 t1534 _ ?side1 ?side2 ?side3 ?side4 A62.out).mono ?_);(case side1=>exact Kd.Cz (Kd.R_reads' HO_5.out).2.2);(case side2=>exact(Kd.R_reads' HO_5.out).2.1);(case side3=>exact Kd.Cz (Kd.R_reads' HO1532.out).2.2);(case side4=>exact(Kd.R_reads' HO1532.out).2.1);rintro e w81 ⟨v1535,rfl,ho0,hb⟩;refine⟨_,rfl,?_⟩;have HO1536:=Aside0.mk (Kd.R_lower (Kd.R_new' (Kd.R_new' (Kd.R_new' ho0 (Kd.R_lt (Kd.Rz HO_5.out))) (Kd.R_lt (Kd.Rz HO_7.out))) (Kd.R_lt (Kd.Rz HO1532.out))) (below_size bz));replace HO_5:=Aside0.mk (Kd.R_elder' (Kd.Rz HO_5.out) (Kd.R_base ho0) hb);replace HO_7:=Aside0.mk (Kd.R_elder' (Kd.Rz HO_7.out) (Kd.R_base ho0) hb);replace HO1532:=Aside0.mk (Kd.R_elder' (Kd.Rz HO1532.out) (Kd.R_base ho0) hb);replace HB:=Aside0.mk (below_step bz hb);(try clear hb);(try clear hb2);(try clear hk);(try clear hi);(try clear ho0))|((with_reducible refine gate_callee (f:=38) rfl ?_);refine goesL_ (some 156) rfl rfl Try.func38 (by kernel_rfl) rfl #[.int .i64 1] rfl az ?_;(with_reducible refine(impl_OrdOf.calls kj48 1 t1537 _ A63.out).mono ?_);rintro e w82 ⟨v1538,rfl,ho0,hb⟩;refine⟨_,rfl,?_⟩;have HO1539:=Aside0.mk (Kd.R_lower (Kd.R_new' (Kd.R_new' (Kd.R_new' (Kd.R_new' ho0 (Kd.R_lt (Kd.Rz HO_5.out))) (Kd.R_lt (Kd.Rz HO_7.out))) (Kd.R_lt (Kd.Rz HO1532.out))) (Kd.R_lt (Kd.Rz HO1536.out))) (below_size bz));replace HO_5:=Aside0.mk (Kd.R_elder' (Kd.Rz HO_5.out) (Kd.R_base ho0) hb);replace HO_7:=Aside0.mk (Kd.R_elder' (Kd.Rz HO_7.out) (Kd.R_base ho0) hb);replace HO1532:=Aside0.mk (Kd.R_elder' (Kd.Rz HO1532.out) (Kd.R_base ho0) hb);replace HO1536:=Aside0.mk (Kd.R_elder' (Kd.Rz HO1536.out) (Kd.R_base ho0) hb);replace HB:=Aside0.mk (below_step bz hb);(try clear hb);(try clear hb2);(try clear hk);(try clear hi);(try clear ho0);obtain⟨Ao83,co83,eo83⟩:=Kd.R_slice HO1539.out;subst eo83)|((with_reducible refine gate_callee (f:=26) rfl ?_);refine goesL_ (some 158) rfl rfl Try.func26 (by kernel_rfl) rfl #[.slice Ao83 t1537.length co83,.slice Ao11 t1478.length co11] rfl az ?_;(with_reducible refine(impl_OrdTimes.calls kj48 _ _ t1537 _ _ t1478 t1540 t1541 _ ?side1 ?side2 ?side3 ?side4 A64.out).mono ?_);(case side1=>exact Kd.Cz (Kd.R_reads' HO1539.out).2.2);(case side2=>exact(Kd.R_reads' HO1539.out).2.1);(case side3=>exact Kd.Cz (Kd.R_reads' HO_5.out).2.2);(case side4=>exact(Kd.R_reads' HO_5.out).2.1);rintro e w84 ⟨v1542,rfl,ho0,hb⟩;refine⟨_,rfl,?_⟩;have HO1543:=Aside0.mk (Kd.R_lower (Kd.R_new' (Kd.R_new' (Kd.R_new' (Kd.R_new' (Kd.R_new' ho0 (Kd.R_lt (Kd.Rz HO_5.out))) (Kd.R_lt (Kd.Rz HO_7.out))) (Kd.R_lt (Kd.Rz HO1532.out))) (Kd.R_lt (Kd.Rz HO1536.out))) (Kd.R_lt (Kd.Rz HO1539.out))) (below_size bz));replace HO_5:=Aside0.mk (Kd.R_elder' (Kd.Rz HO_5.out) (Kd.R_base ho0) hb);replace HO_7:=Aside0.mk (Kd.R_elder' (Kd.Rz HO_7.out) (Kd.R_base ho0) hb);replace HO1532:=Aside0.mk (Kd.R_elder' (Kd.Rz HO1532.out) (Kd.R_base ho0) hb);replace HO1536:=Aside0.mk (Kd.R_elder' (Kd.Rz HO1536.out) (Kd.R_base ho0) hb);replace HO1539:=Aside0.mk (Kd.R_elder' (Kd.Rz HO1539.out) (Kd.R_base ho0) hb);replace HB:=Aside0.mk (below_step bz hb);(try clear hb);(try clear hb2);(try clear hk);(try clear hi);(try clear ho0))|((with_reducible refine gate_callee (f:=36) rfl ?_);refine goesL_ (some 162) rfl rfl Try.func36 (by kernel_rfl) rfl #[.slice Ao35 t1484.length co35] rfl az ?_;(with_reducible refine(impl_OrdValid.calls kj48 _ _ t1484 true _ ?side1 ?side2 A65.out).mono ?_);(case side1=>exact Kd.Cz (Kd.R_reads' HO_7.out).2.2);(case side2=>exact(Kd.R_reads' HO_7.out).2.1);rintro e w85 ⟨rfl,hb⟩;refine⟨_,rfl,?_⟩;replace HO_5:=Aside0.mk (Kd.R_below (Kd.Rz HO_5.out) hb);replace HO_7:=Aside0.mk (Kd.R_below (Kd.Rz HO_7.out) hb);replace HO1532:=Aside0.mk (Kd.R_below (Kd.Rz HO1532.out) hb);replace HO1536:=Aside0.mk (Kd.R_below (Kd.Rz HO1536.out) hb);replace HO1539:=Aside0.mk (Kd.R_below (Kd.Rz HO1539.out) hb);replace HO1543:=Aside0.mk (Kd.R_below (Kd.Rz HO1543.out) hb);replace HB:=Aside0.mk (below_step bz hb);(try clear hb);(try clear hb2);(try clear hk);(try clear hi);obtain⟨Ao86,co86,eo86⟩:=Kd.R_slice HO1536.out;subst eo86)|(go_at_call 32;(with_reducible refine(laws_sameInts.calls kj48 _ _ t1533 _ _ t1478 false _ ?side1 ?side2 ?side3 ?side4 A67.out).mono ?_);(case side1=>exact Kd.Cz (Kd.R_reads' HO1536.out).2.2);(case side2=>exact(Kd.R_reads' HO1536.out).2.1);(case side3=>exact Kd.Cz (Kd.R_reads' HO_5.out).2.2);(case side4=>exact(Kd.R_reads' HO_5.out).2.1);rintro e w' ⟨rfl,⟨nd,rfl⟩⟩))
                go_ret
                exact⟨by first|rfl|(simp[errW_none,errW_some]<;>rfl)|(simp[*,errW_none,errW_some]<;>rfl),bz⟩
              ·replace c66:=Bool.eq_false_iff.mpr c66
               subst c66
               have H1:(some false)=some r:=by rw[if_neg (show ¬ (false=true) by decide)] at H;exact H
               clear H
               have H:=H1
               clear H1
               obtain rfl:=Option.some.inj H
               go_wp2_with (first|((with_reducible refine gate_callee (f:=38) rfl ?_);refine goesL_ (some 151) rfl rfl Try.func38 (by kernel_rfl) rfl #[.int .i64 1] rfl az ?_;(with_reducible refine(impl_OrdOf.calls kj48 1 t1530 _ A61.out).mono ?_);rintro e w87 ⟨v1531,rfl,ho0,hb⟩;refine⟨_,rfl,?_⟩;have HO1532:=Aside0.mk (Kd.R_lower (Kd.R_new' (Kd.R_new' ho0 (Kd.R_lt (Kd.Rz HO_5.out))) (Kd.R_lt (Kd.Rz HO_7.out))) (below_size bz));replace HO_5:=Aside0.mk (Kd.R_elder' (Kd.Rz HO_5.out) (Kd.R_base ho0) hb);replace HO_7:=Aside0.mk (Kd.R_elder' (Kd.Rz HO_7.out) (Kd.R_base ho0) hb);replace HB:=Aside0.mk (below_step bz hb);(try clear hb);(try clear hb2);(try clear hk);(try clear hi);(try clear ho0);obtain⟨Ao88,co88,eo88⟩:=Kd.R_slice HO1532.out;subst eo88)|((with_reducible refine gate_callee (f:=26) rfl ?_);refine goesL_ (some 152) rfl rfl Try.func26 (by kernel_rfl) rfl #[.slice Ao11 t1478.length co11,.slice Ao88 t1530.length co88] rfl az ?_;(with_reducible refine(impl_OrdTimes.calls kj48 _ _ t1478 _ _ t1530 t1533 t1534 _ ?side1 ?side2 ?side3 ?side4 A62.out).mono ?_);(case side1=>exact Kd.Cz (Kd.R_reads' HO_5.out).2.2);(case side2=>exact(Kd.R_reads' HO_5.out).2.1);(case side3=>exact Kd.Cz (Kd.R_reads' HO1532.out).2.2);(case side4=>exact(Kd.R_reads' HO1532.out).2.1);rintro e w89 ⟨v1535,rfl,ho0,hb⟩;refine⟨_,rfl,?_⟩;have HO1536:=Aside0.mk (Kd.R_lower (Kd.R_new' (Kd.R_new' (Kd.R_new' ho0 (Kd.R_lt (Kd.Rz HO_5.out))) (Kd.R_lt (Kd.Rz HO_7.out))) (Kd.R_lt (Kd.Rz HO1532.out))) (below_size bz));replace HO_5:=Aside0.mk (Kd.R_elder' (Kd.Rz HO_5.out) (Kd.R_base ho0) hb);replace HO_7:=Aside0.mk (Kd.R_elder' (Kd.Rz HO_7.out) (Kd.R_base ho0) hb);replace HO1532:=Aside0.mk (Kd.R_elder' (Kd.Rz HO1532.out) (Kd.R_base ho0) hb);replace HB:=Aside0.mk (below_step bz hb);(try clear hb);(try clear hb2);(try clear hk);(try clear hi);(try clear ho0))|((with_reducible refine gate_callee (f:=38) rfl ?_);refine goesL_ (some 156) rfl rfl Try.func38 (by kernel_rfl) rfl #[.int .i64 1] rfl az ?_;(with_reducible refine(impl_OrdOf.calls kj48 1 t1537 _ A63.out).mono ?_);rintro e w90 ⟨v1538,rfl,ho0,hb⟩;refine⟨_,rfl,?_⟩;have HO1539:=Aside0.mk (Kd.R_lower (Kd.R_new' (Kd.R_new' (Kd.R_new' (Kd.R_new' ho0 (Kd.R_lt (Kd.Rz HO_5.out))) (Kd.R_lt (Kd.Rz HO_7.out))) (Kd.R_lt (Kd.Rz HO1532.out))) (Kd.R_lt (Kd.Rz HO1536.out))) (below_size bz));replace HO_5:=Aside0.mk (Kd.R_elder' (Kd.Rz HO_5.out) (Kd.R_base ho0) hb);replace HO_7:=Aside0.mk (Kd.R_elder' (Kd.Rz HO_7.out) (Kd.R_base ho0) hb);replace HO1532:=Aside0.mk (Kd.R_elder' (Kd.Rz HO1532.out) (Kd.R_base ho0) hb);replace HO1536:=Aside0.mk (Kd.R_elder' (Kd.Rz HO1536.out) (Kd.R_base ho0) hb);replace HB:=Aside0.mk (below_step bz hb);(try clear hb);(try clear hb2);(try clear hk);(try clear hi);(try clear ho0);obtain⟨Ao91,co91,eo91⟩:=Kd.R_slice HO1539.out;subst eo91)|((with_reducible refine gate_callee (f:=26) rfl ?_);refine goesL_ (some 158) rfl rfl Try.func26 (by kernel_rfl) rfl #[.slice Ao91 t1537.length co91,.slice Ao11 t1478.length co11] rfl az ?_;(with_reducible refine(impl_OrdTimes.calls kj48 _ _ t1537 _ _ t1478 t1540 t1541 _ ?side1 ?side2 ?side3 ?side4 A64.out).mono ?_);(case side1=>exact Kd.Cz (Kd.R_reads' HO1539.out).2.2);(case side2=>exact(Kd.R_reads' HO1539.out).2.1);(case side3=>exact Kd.Cz (Kd.R_reads' HO_5.out).2.2);(case side4=>exact(Kd.R_reads' HO_5.out).2.1);rintro e w92 ⟨v1542,rfl,ho0,hb⟩;refine⟨_,rfl,?_⟩;have HO1543:=Aside0.mk (Kd.R_lower (Kd.R_new' (Kd.R_new' (Kd.R_new' (Kd.R_new' (Kd.R_new' ho0 (Kd.R_lt (Kd.Rz HO_5.out))) (Kd.R_lt (Kd.Rz HO_7.out))) (Kd.R_lt (Kd.Rz HO1532.out))) (Kd.R_lt (Kd.Rz HO1536.out))) (Kd.R_lt (Kd.Rz HO1539.out))) (below_size bz));replace HO_5:=Aside0.mk (Kd.R_elder' (Kd.Rz HO_5.out) (Kd.R_base ho0) hb);replace HO_7:=Aside0.mk (Kd.R_elder' (Kd.Rz HO_7.out) (Kd.R_base ho0) hb);replace HO1532:=Aside0.mk (Kd.R_elder' (Kd.Rz HO1532.out) (Kd.R_base ho0) hb);replace HO1536:=Aside0.mk (Kd.R_elder' (Kd.Rz HO1536.out) (Kd.R_base ho0) hb);replace HO1539:=Aside0.mk (Kd.R_elder' (Kd.Rz HO1539.out) (Kd.R_base ho0) hb);replace HB:=Aside0.mk (below_step bz hb);(try clear hb);(try clear hb2);(try clear hk);(try clear hi);(try clear ho0))|((with_reducible refine gate_callee (f:=36) rfl ?_);refine goesL_ (some 162) rfl rfl Try.func36 (by kernel_rfl) rfl #[.slice Ao35 t1484.length co35] rfl az ?_;(with_reducible refine(impl_OrdValid.calls kj48 _ _ t1484 false _ ?side1 ?side2 A65.out).mono ?_);(case side1=>exact Kd.Cz (Kd.R_reads' HO_7.out).2.2);(case side2=>exact(Kd.R_reads' HO_7.out).2.1);rintro e w93 ⟨rfl,hb⟩;refine⟨_,rfl,?_⟩;replace HO_5:=Aside0.mk (Kd.R_below (Kd.Rz HO_5.out) hb);replace HO_7:=Aside0.mk (Kd.R_below (Kd.Rz HO_7.out) hb);replace HO1532:=Aside0.mk (Kd.R_below (Kd.Rz HO1532.out) hb);replace HO1536:=Aside0.mk (Kd.R_below (Kd.Rz HO1536.out) hb);replace HO1539:=Aside0.mk (Kd.R_below (Kd.Rz HO1539.out) hb);replace HO1543:=Aside0.mk (Kd.R_below (Kd.Rz HO1543.out) hb);replace HB:=Aside0.mk (below_step bz hb);(try clear hb);(try clear hb2);(try clear hk);(try clear hi)))
               go_ret
               exact⟨by first|rfl|(simp[errW_none,errW_some]<;>rfl)|(simp[*,errW_none,errW_some]<;>rfl),bz⟩
       ·replace c22:=Bool.eq_false_iff.mpr c22
        subst c22
        have H1:(if(t1484.length:Int)=0 then((laws_alive.f kj8).bind fun t1493=>(some t1493)) else(some false))=some r:=by rw[if_neg (show ¬ (false=true) by decide)] at H;exact H
        clear H
        have H:=H1
        clear H1
        by_cases c94:(t1484.length:Int)=0
        ·rw[if_pos c94] at H
         have c94b0:((t1484.length:Int) == 0)=true:=beq_iff_eq.mpr c94
         have c94b1:((t1484.length:Int) != 0)=false:=bne_eq_false_iff_eq.mpr c94
         clear c94
         replace H:=Option.bind_eq_some_iff.mp H
         obtain⟨t1493,A950,H⟩:=H
         replace H:(some t1493)=some r:=H
         have A95:=Aside0.mk A950
         clear A950
         obtain rfl:=Option.some.inj H
         obtain⟨Ao96,co96,eo96⟩:=Kd.R_slice HO_7.out
         subst eo96
         go_wp2_with (first|(go_at_call 33;(with_reducible refine(laws_alive.calls kj8  t1493 _ A95.out).mono ?_);rintro e w97 ⟨rfl,hb⟩;replace HO_5:=Aside0.mk (Kd.R_below (Kd.Rz HO_5.out) hb);replace HO_6:=Aside0.mk (Kd.R_below (Kd.Rz HO_6.out) hb);replace HO_7:=Aside0.mk (Kd.R_below (Kd.Rz HO_7.out) hb);replace HB:=Aside0.mk (below_step bz hb);(try clear hb);(try clear hb2);(try clear hk);(try clear hi)))
         go_ret
         exact⟨by first|rfl|(simp[errW_none,errW_some]<;>rfl)|(simp[*,errW_none,errW_some]<;>rfl),bz⟩
        ·rw[if_neg c94] at H
         have c94b0:((t1484.length:Int) == 0)=false:=beq_eq_false_iff_ne.mpr c94
         have c94b1:((t1484.length:Int) != 0)=true:=bne_iff_ne.mpr c94
         have c94b2:¬ (t1484=[]):=fun h_=>c94 (by rw[h_];rfl)
         obtain rfl:=Option.some.inj H
         obtain⟨Ao98,co98,eo98⟩:=Kd.R_slice HO_7.out
         subst eo98
         go_wp2
         go_ret
         exact⟨by first|rfl|(simp[errW_none,errW_some]<;>rfl)|(simp[*,errW_none,errW_some]<;>rfl),bz⟩
/-- THE ONE PURE STATEMENT of laws_FnOrdTimes: yours. -/
def laws_FnOrdTimes.Pure:Prop:=∀ (l0:List Int) (l1:List Int),l0.length≤maxLen→l0.length*1≤140737488351232→(∀ x ∈ l0,(Lit.int .u8 x).wf=true)→l1.length≤maxLen→l1.length*1≤140737488351232→(∀ x ∈ l1,(Lit.int .u8 x).wf=true)→∃ k,laws_FnOrdTimes.f k l0 l1=some true
theorem laws_FnOrdTimes.walk (P:laws_FnOrdTimes.Pure)(a0:Option Addr)(len0 cap0:Nat)(z0:List Int)(a1:Option Addr)(len1 cap1:Nat)(z1:List Int)(w:World)(w0:(a0=none∧len0=0∧cap0=0∧z0=[])∨∃ x,a0=some x∧len0≤cap0∧cap0≤maxLen∧z0.length=cap0∧(∀ i,i<z0.length→w.cell? (x.add i)=some (.int .u8 (z0.getD i 0)))∧∀ n ∈ z0,(Lit.int .u8 n).wf=true)(y0:len0*1≤140737488351232)(w1:(a1=none∧len1=0∧cap1=0∧z1=[])∨∃ x,a1=some x∧len1≤cap1∧cap1≤maxLen∧z1.length=cap1∧(∀ i,i<z1.length→w.cell? (x.add i)=some (.int .u8 (z1.getD i 0)))∧∀ n ∈ z1,(Lit.int .u8 n).wf=true)(y1:len1*1≤140737488351232) :
  Calls Try.prog 10 #[.slice a0 len0 cap0,.slice a1 len1 cap1] w fun e w'=>e=.returned (.bool true)∧Below w.heap.size w w':=by
 obtain⟨l0,rfl,hr0,hm0,hw0,hc0⟩:=ReadsInt.ofRowC w0
 obtain⟨l1,rfl,hr1,hm1,hw1,hc1⟩:=ReadsInt.ofRowC w1
 obtain⟨k,h⟩:=P l0 l1 hm0 y0 hw0 hm1 y1 hw1
 refine(laws_FnOrdTimes.calls k _ _ l0 _ _ l1 true w (Kd.C_of_reads (d:=(0:Int)) (h1:=fun _=>rfl) hr0) hc0 (Kd.C_of_reads (d:=(0:Int)) (h1:=fun _=>rfl) hr1) hc1 h).mono ?_
 rintro e w' ⟨rfl,hd⟩
 exact⟨rfl,hd⟩
end Go.Proofs.Ytfblcanijhnhmaa.P