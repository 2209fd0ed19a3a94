/- One Go function comes to what its Lean function tells. -/
import Derived.Test.YtfblcanijhnhmaaP0
import Derived.Test.YtfblcanijhnhmaaPspecl1Make
import Derived.Test.YtfblcanijhnhmaaPspecl1Same
import Derived.Test.YtfblcanijhnhmaaPspecl1Terms
namespace Go.Proofs.Ytfblcanijhnhmaa.P
open Go.RowKit YtfblcanijhnhmaaW.PrintWords YtfblcanijhnhmaaW.PrintLast YtfblcanijhnhmaaW.PrintMore
set_option linter.unusedVariables false
set_option linter.unusedSimpArgs false
/-! ### spec_l2Minus: function 49 -/
mutual
def spec_l2Minus.j1:Nat→List Int→List (List Int)→List Int→List (List Int)→Int→Option (List Int)
 | 0,_,_,_,_,_=>none
 | k+1,x5,x6,x7,x8,x9=>(some (([]:List Int):List Int)).bind fun y494=>(if 0≤x9 then(if x9≤(x5.length:Int) then((some (x5.drop (x9:Int).toNat:List Int)).bind fun y497=>(if y494.length+y497.length<17592186044416 then((some (y494++y497:List Int)).bind fun y502=>(if x9<(x5.length:Int) then(if x9<(x7.length:Int) then(if x9<(x6.length:Int) then(if x9<(x8.length:Int) then((spec_l1Same.f k (rd_L1 x6 x9) (rd_L1 x8 x9)).bind fun t507=>(if t507=true then(if 0<(y502.length:Int) then(if x9≤(x6.length:Int) then((spec_l1Make.f k (y502.set (0:Int).toNat (wrap64 ((rd x5 x9)-(rd x7 x9)))) (x6.drop (x9:Int).toNat)).bind fun t516=>(some t516)) else(none)) else(none)) else(if x9≤(x6.length:Int) then((spec_l1Make.f k y502 (x6.drop (x9:Int).toNat)).bind fun t524=>(some t524)) else(none)))) else(none)) else(none)) else(if x9≤(x6.length:Int) then((spec_l1Make.f k y502 (x6.drop (x9:Int).toNat)).bind fun t532=>(some t532)) else(none))) else(if x9≤(x6.length:Int) then((spec_l1Make.f k y502 (x6.drop (x9:Int).toNat)).bind fun t540=>(some t540)) else(none)))) else(none))) else(none)) else(none))
def spec_l2Minus.l0:Nat→List Int→List (List Int)→List Int→List (List Int)→Int→Option (List Int)
 | 0,_,_,_,_,_=>none
 | k+1,x5,x6,x7,x8,x9=>if x9<(x5.length:Int) then(if x9<(x7.length:Int) then(if 0≤x9 then(if(rd x5 x9)=(rd x7 x9) then(if x9<(x6.length:Int) then(if x9<(x8.length:Int) then((spec_l1Same.f k (rd_L1 x6 x9) (rd_L1 x8 x9)).bind fun t493=>(if t493=true then(spec_l2Minus.l0 k x5 x6 x7 x8 (wrap64 (x9+1))) else(spec_l2Minus.j1 k x5 x6 x7 x8 x9))) else(none)) else(none)) else(spec_l2Minus.j1 k x5 x6 x7 x8 x9)) else(none)) else(spec_l2Minus.j1 k x5 x6 x7 x8 x9)) else(spec_l2Minus.j1 k x5 x6 x7 x8 x9)
end
def spec_l2Minus.f (k:Nat)(l0:List Int)(l1:List Int):Option (List Int):=(spec_l1Terms.f k l0).bind fun bt477=>((spec_l1Terms.f k l1).bind fun bt483=>(spec_l2Minus.l0 k bt477.1 bt477.2 bt483.1 bt483.2 0))
theorem spec_l2Minus.mono_l:∀ k,(∀ y0 y1 y2 y3 y4,LeO (spec_l2Minus.j1 k y0 y1 y2 y3 y4) (spec_l2Minus.j1 (k+1) y0 y1 y2 y3 y4))∧(∀ y0 y1 y2 y3 y4,LeO (spec_l2Minus.l0 k y0 y1 y2 y3 y4) (spec_l2Minus.l0 (k+1) y0 y1 y2 y3 y4))
 | 0=>⟨fun _ _ _ _ _ r h=>by simp[spec_l2Minus.j1] at h,fun _ _ _ _ _ r h=>by simp[spec_l2Minus.l0] at h⟩
 | k+1=>by
  obtain⟨ih0,ih1⟩:=spec_l2Minus.mono_l k
  refine⟨?_,?_⟩
  ·intro y0 y1 y2 y3 y4
   unfold spec_l2Minus.j1
   repeat' first|(with_reducible first|exact ih0 _ _ _ _ _|exact spec_l1Make.mono _ _ _|exact spec_l1Same.mono _ _ _|exact LeO.refl _|exact LeO.none _|refine LeO.ite ?_ ?_|refine LeO.bind ?_ (fun _=>?_))|exact ih0 _ _ _ _ _|exact spec_l1Make.mono _ _ _|exact spec_l1Same.mono _ _ _|exact LeO.none _|refine LeO.ite ?_ ?_|refine LeO.bind ?_ (fun _=>?_)
  ·intro y0 y1 y2 y3 y4
   unfold spec_l2Minus.l0
   repeat' first|(with_reducible first|exact ih0 _ _ _ _ _|exact ih1 _ _ _ _ _|exact spec_l1Same.mono _ _ _|exact LeO.refl _|exact LeO.none _|refine LeO.ite ?_ ?_|refine LeO.bind ?_ (fun _=>?_))|exact ih0 _ _ _ _ _|exact ih1 _ _ _ _ _|exact spec_l1Same.mono _ _ _|exact LeO.none _|refine LeO.ite ?_ ?_|refine LeO.bind ?_ (fun _=>?_)
theorem spec_l2Minus.mono:∀ a0 a1 k,LeO (spec_l2Minus.f k a0 a1) (spec_l2Minus.f (k+1) a0 a1):=by
 intro a0 a1 k
 obtain⟨ih0,ih1⟩:=spec_l2Minus.mono_l k
 unfold spec_l2Minus.f
 repeat' first|(with_reducible first|exact ih0 _ _ _ _ _|exact ih1 _ _ _ _ _|exact spec_l1Terms.mono _ _|exact LeO.refl _|exact LeO.none _|refine LeO.ite ?_ ?_|refine LeO.bind ?_ (fun _=>?_))|exact ih0 _ _ _ _ _|exact ih1 _ _ _ _ _|exact spec_l1Terms.mono _ _|exact LeO.none _|refine LeO.ite ?_ ?_|refine LeO.bind ?_ (fun _=>?_)
def spec_l2Minus.T4:Bool × List (List Nat × List Nat):=(true,[([],[]),([],[]),([1],[1]),([0,2],[0,2]),([3],[3]),([4],[4]),([4],[4]),([6,4],[4,6]),([5,7,4],[4,5,7]),([4,8],[4,8]),([9,4],[9]),([10],[10]),([10],[10]),([11,12,10],[10,11,12]),([13,10],[10,13]),([10],[10]),([10],[10]),([15,16,10],[10,15,16]),([17,10],[10,17]),([14,18,10],[10,14,18]),([10,19],[10,19]),([20,10],[20]),([21],[21]),([21],[21]),([22,23,21],[21,22,23]),([24,21],[21,24]),([21],[21]),([21],[21]),([26,27,21],[21,26,27]),([28,21],[21,28]),([25,29,21,21],[21,25,29]),([21,30],[21,30])])
def spec_l2Minus.B4:List Nat:=[0,0,2,7,15,31,31,95,255,511,1023,2047,2047,8191,16383,2047,2047,100351,231423,524287,1048575,2097151,4194303,4194303,16777215,33554431,4194303,4194303,205520895,473956351,1073741823,2147483647]
theorem spec_l2Minus.tab4:rtab .any (opsOf Try.f49 4)=spec_l2Minus.T4:=by kernel_rfl
theorem spec_l2Minus.bits4:waitsOk spec_l2Minus.T4.2 spec_l2Minus.B4=true:=by kernel_rfl
def spec_l2Minus.T7:Bool × List (List Nat × List Nat):=(true,[([],[]),([],[]),([1],[1]),([0,2],[0,2]),([3],[3]),([4],[4]),([4],[4]),([6,4],[4,6]),([5,7,4],[4,5,7]),([4,8],[4,8]),([9,4],[9]),([10],[10]),([10],[10]),([11,12,10],[10,11,12]),([13,10],[10,13]),([10],[10]),([10],[10]),([15,16,10],[10,15,16]),([17,10],[10,17]),([14,18,10,10],[10,14,18]),([10,19],[10,19])])
def spec_l2Minus.B7:List Nat:=[0,0,2,7,15,31,31,95,255,511,1023,2047,2047,8191,16383,2047,2047,100351,231423,524287,1048575]
theorem spec_l2Minus.tab7:rtab .any (opsOf Try.f49 7)=spec_l2Minus.T7:=by kernel_rfl
theorem spec_l2Minus.bits7:waitsOk spec_l2Minus.T7.2 spec_l2Minus.B7=true:=by kernel_rfl
def spec_l2Minus.T8:Bool × List (List Nat × List Nat):=(true,[([],[]),([],[]),([],[]),([1,2],[1,2]),([3],[3]),([],[]),([],[]),([5,6],[5,6]),([7],[7]),([4,8],[4,8]),([0,0,1,2,3,4,5,6,7,8,9],[0]),([10,9,0,1,2,3,4,5,6,7,8,9],[9,10])])
def spec_l2Minus.B8:List Nat:=[0,0,0,6,14,0,0,96,224,510,1023,2047]
theorem spec_l2Minus.tab8:rtab .any (opsOf Try.f49 8)=spec_l2Minus.T8:=by kernel_rfl
theorem spec_l2Minus.bits8:waitsOk spec_l2Minus.T8.2 spec_l2Minus.B8=true:=by kernel_rfl
set_option maxHeartbeats 8000000 in
set_option maxRecDepth 100000 in
theorem spec_l2Minus.calls (k:Nat)(A0:Option Addr)(c0:Nat)(l0:List Int)(A1:Option Addr)(c1:Nat)(l1:List Int)(r:List Int)(w:World)(hr0:Kd.C (Kd.int .i64) w A0 l0.length l0)(hc0:l0.length≤c0)(hr1:Kd.C (Kd.int .i64) w A1 l1.length l1)(hc1:l1.length≤c1)(h:spec_l2Minus.f k l0 l1=some r) :
  Calls Try.prog 49 #[.slice A0 l0.length c0,.slice A1 l1.length c1] w fun e w'=>∃ v0_:Value,e=.returned (v0_)∧Kd.R (Kd.int .i64) 3 w' w.heap.size (fun _=>True) v0_ r∧Below w.heap.size w w':=by
 have HR0:=Sd.mk hr0
 have HC0:=Sd.mk hc0
 clear hr0 hc0
 have HR1:=Sd.mk hr1
 have HC1:=Sd.mk hc1
 clear hr1 hc1
 have HB:=Sd.mk (Below.refl w.heap.size w)
 have H:((spec_l1Terms.f k l0).bind fun bt477=>((spec_l1Terms.f k l1).bind fun bt483=>(spec_l2Minus.l0 k bt477.1 bt477.2 bt483.1 bt483.2 0)))=some r:=h
 clear h
 replace H:=Option.bind_eq_some_iff.mp H
 obtain⟨⟨t477,t480⟩,A30,H⟩:=H
 replace H:((spec_l1Terms.f k l1).bind fun bt483=>(spec_l2Minus.l0 k t477 t480 bt483.1 bt483.2 0))=some r:=H
 have A3:=Sd.mk A30
 clear A30
 replace H:=Option.bind_eq_some_iff.mp H
 obtain⟨⟨t483,t486⟩,A40,H⟩:=H
 replace H:(spec_l2Minus.l0 k t477 t480 t483 t486 0)=some r:=H
 have A4:=Sd.mk A40
 clear A40
 have HC5:=Sd.mk H
 clear H
 go_enter Try.func49,Try.ntmps49
 go_upto_block 0 with (first|((with_reducible refine gate_callee (f:=52) rfl ?_);refine goesL_ (some 13) rfl rfl Try.func52 (by kernel_rfl) rfl #[.slice A0 l0.length c0] rfl az ?_;(with_reducible refine(spec_l1Terms.calls k (fun k_=>k_<w.heap.size) _ _ l0 t477 t480 _ ?side1 A3.out).mono ?_);(case side1=>exact Kd.V_mk HC0.out (Kd.F_below (Kd.C_F (Kd.heap_int .i64) HR0.out) bz));rintro e w6 ⟨v478,v481,rfl,ho0,ho1,hb⟩;refine⟨_,rfl,?_⟩;have HO479:=Sd.mk (Kd.R_lower (Kd.R_mono (ok':=fun k_=>True) ho0 (fun _ hk_=>trivial)) (below_size bz));have HO482:=Sd.mk (Kd.N_lower (Kd.N_mono (ok':=fun k_=>some k_≠(v478:Value).ownBlock) ho1 (fun k_ hk_=>hk_.2)) (below_size bz));replace HB:=Sd.mk (below_step bz hb);(try clear hb);(try clear hb2);(try clear hk);(try clear hi);(try clear ho0);(try clear ho1))|((with_reducible refine gate_callee (f:=52) rfl ?_);refine goesL_ (some 18) rfl rfl Try.func52 (by kernel_rfl) rfl #[.slice A1 l1.length c1] rfl az ?_;(with_reducible refine(spec_l1Terms.calls k (fun k_=>k_<w.heap.size) _ _ l1 t483 t486 _ ?side1 A4.out).mono ?_);(case side1=>exact Kd.V_mk HC1.out (Kd.F_below (Kd.C_F (Kd.heap_int .i64) HR1.out) bz));rintro e w7 ⟨v484,v487,rfl,ho0,ho1,hb⟩;refine⟨_,rfl,?_⟩;have HO485:=Sd.mk (Kd.R_lower (Kd.R_new' (Kd.R_mono (ok':=fun k_=>True) ho0 (fun _ hk_=>trivial)) (Kd.R_lt (Kd.Rz HO479.out))) (below_size bz));have HO488:=Sd.mk (Kd.N_lower (Kd.N_mono (ok':=fun k_=>some k_≠(v484:Value).ownBlock∧some k_≠(v478:Value).ownBlock∧some k_≠(v481:Value).ownBlock) ho1 (fun k_ hk_=>⟨hk_.2,Or.elim hk_.1 (fun hs_=>fun e_=>Nat.not_le.2 hs_ (Kd.R_base HO479.out k_ e_.symm)) (fun hn_=>(Kd.fresh' (Kd.R_lt (Kd.Rz HO479.out)) k_ hn_)),Or.elim hk_.1 (fun hs_=>fun e_=>Nat.not_le.2 hs_ (Kd.N_base HO482.out k_ e_.symm)) (fun hn_=>(Kd.fresh' (Kd.N_lt (Kd.Nz HO482.out)) k_ hn_))⟩)) (below_size bz));replace HO479:=Sd.mk (Kd.R_elder' (Kd.Rz HO479.out) (Kd.R_base ho0) hb);replace HO482:=Sd.mk (Kd.N_mono (Kd.N_told (Kd.N_told (Kd.N_old (Kd.Nz HO482.out) hb) (Kd.R_base ho0)) (Kd.N_base ho1)) (fun _ h_=>h_.1));replace HB:=Sd.mk (below_step bz hb);(try clear hb);(try clear hb2);(try clear hk);(try clear hi);(try clear ho0);(try clear ho1)))
 (try simp only[Act.put,List.setIfInBounds_toArray,List.set_cons_zero,List.set_cons_succ])
 go_cut [9] (fun v9 wc=>∃ (kq:Nat) (x9_4:Int),v9=.int .i64 x9_4∧Sd (spec_l2Minus.j1 kq t477 t480 t483 t486 x9_4=some r)∧Sd (kq≤k)∧Sd (Kd.R (Kd.int .i64) 3 wc w.heap.size (fun k_=>some k_≠(v484:Value).ownBlock) v478 t477)∧Sd (Kd.N (Kd.slice 3 (Kd.int .i64)) 22 wc w.heap.size (fun k_=>some k_≠(v478:Value).ownBlock∧some k_≠(v484:Value).ownBlock∧some k_≠(v487:Value).ownBlock) v481 t480)∧Sd (Kd.R (Kd.int .i64) 3 wc w.heap.size (fun k_=>some k_≠(v478:Value).ownBlock) v484 t483)∧Sd (Kd.N (Kd.slice 3 (Kd.int .i64)) 22 wc w.heap.size (fun k_=>some k_≠(v478:Value).ownBlock∧some k_≠(v481:Value).ownBlock∧some k_≠(v484:Value).ownBlock) v487 t486)∧Sd (Below w.heap.size w wc))
 case first =>
  have H:=HC5.out
  clear HC5
  have H':=Sd.mk H
  clear H
  go_wp2
  go_loopg [9] k (fun kq v9 w'=>∃ (x9_1:Int),v9=.int .i64 x9_1∧Sd (spec_l2Minus.l0 kq t477 t480 t483 t486 x9_1=some r)∧Sd (kq≤k)∧Sd (Kd.R (Kd.int .i64) 3 w' w.heap.size (fun k_=>some k_≠(v484:Value).ownBlock) v478 t477)∧Sd (Kd.N (Kd.slice 3 (Kd.int .i64)) 22 w' w.heap.size (fun k_=>some k_≠(v478:Value).ownBlock∧some k_≠(v484:Value).ownBlock∧some k_≠(v487:Value).ownBlock) v481 t480)∧Sd (Kd.R (Kd.int .i64) 3 w' w.heap.size (fun k_=>some k_≠(v478:Value).ownBlock) v484 t483)∧Sd (Kd.N (Kd.slice 3 (Kd.int .i64)) 22 w' w.heap.size (fun k_=>some k_≠(v478:Value).ownBlock∧some k_≠(v481:Value).ownBlock∧some k_≠(v484:Value).ownBlock) v487 t486)∧Sd (Below w.heap.size w w'))
  case atStart=>exact⟨(0),(by first|rfl|(simp;done)|(simp[*];done)),H',⟨Nat.le_refl _⟩,⟨Kd.Rz <| Kd.R_mono HO479.out (fun _ hk=>hk.2)⟩,⟨Kd.Nz <| Kd.N_mono HO482.out (fun _ hk=>⟨hk.1.1,⟨hk.1.2,hk.2⟩⟩)⟩,⟨Kd.Rz <| Kd.R_mono HO485.out (fun _ hk=>hk.2)⟩,⟨Kd.Nz <| Kd.N_mono HO488.out (fun _ hk=>⟨hk.2.1,⟨hk.2.2,hk.1⟩⟩)⟩,⟨bz⟩⟩
  case round =>
   clear H'
   try clear c1
   try clear p2
   try clear c4
   try clear c5
   obtain⟨x9_1,rfl,HA,HK1,HO_5,HO_6,HO_7,HO_8,HB⟩:=hrel
   cases gk with
   | zero=>exact absurd HA.out (by simp[spec_l2Minus.l0])
   | succ k1 =>
    have H:=HA.out
    clear HA
    simp only[spec_l2Minus.l0] at H
    by_cases c8:x9_1<(t477.length:Int)
    ·rw[if_pos c8] at H
     have c8b0:decide (x9_1<(t477.length:Int))=true:=decide_eq_true c8
     clear c8
     (first|rw[c8b0]|(simp only[i64_w,i32_w];rw[c8b0])|skip)
     by_cases c9:x9_1<(t483.length:Int)
     ·rw[if_pos c9] at H
      have c9b0:decide (x9_1<(t483.length:Int))=true:=decide_eq_true c9
      clear c9
      by_cases c10:0≤x9_1
      ·rw[if_pos c10] at H
       have c10b0:decide (0≤x9_1)=true:=decide_eq_true c10
       clear c10
       by_cases c11:(rd t477 x9_1)=(rd t483 x9_1)
       ·rw[if_pos c11] at H
        have c11b0:((rd t477 x9_1) == (rd t483 x9_1))=true:=beq_iff_eq.mpr c11
        have c11b1:((rd t477 x9_1) != (rd t483 x9_1))=false:=bne_eq_false_iff_eq.mpr c11
        clear c11
        by_cases c12:x9_1<(t480.length:Int)
        ·rw[if_pos c12] at H
         have c12b0:decide (x9_1<(t480.length:Int))=true:=decide_eq_true c12
         clear c12
         by_cases c13:x9_1<(t486.length:Int)
         ·rw[if_pos c13] at H
          have c13b0:decide (x9_1<(t486.length:Int))=true:=decide_eq_true c13
          clear c13
          replace H:=Option.bind_eq_some_iff.mp H
          obtain⟨t493,A140,H⟩:=H
          replace H:(if t493=true then(spec_l2Minus.l0 k1 t477 t480 t483 t486 (wrap64 (x9_1+1))) else(spec_l2Minus.j1 k1 t477 t480 t483 t486 x9_1))=some r:=H
          have A14:=Sd.mk A140
          clear A140
          by_cases c15:t493=true
          ·subst c15
           have H1:(spec_l2Minus.l0 k1 t477 t480 t483 t486 (wrap64 (x9_1+1)))=some r:=by rw[if_pos rfl] at H;exact H
           clear H
           have H:=H1
           clear H1
           have H':=Sd.mk H
           clear H
           try go_wp2
           have n0_:=Sd.mk (Kd.R_drew HO_5.out)
           have n1_:=Sd.mk (Kd.N_drew HO_6.out)
           have n2_:=Sd.mk (Kd.R_drew HO_7.out)
           have n3_:=Sd.mk (Kd.N_drew HO_8.out)
           have n4_:=Sd.mk (below_drew1 HB.out)
           clear HO_5
           clear HO_6
           clear HO_7
           clear HO_8
           clear HB
           have HO_5:=n0_
           have HO_6:=n1_
           have HO_7:=n2_
           have HO_8:=n3_
           have HB:=n4_
           clear n0_ n1_ n2_ n3_ n4_
           obtain⟨Ao17,co17,eo17⟩:=Kd.R_slice HO_5.out
           (first|subst eo17|(injection eo17 with f1_ f2_ f3_;have f4_:=f1_.symm;have f5_:=f3_.symm;clear f1_ f2_ f3_;subst f4_;subst f5_))
           obtain⟨Ao18,co18,eo18⟩:=Kd.R_slice HO_7.out
           (first|subst eo18|(injection eo18 with f1_ f2_ f3_;have f4_:=f1_.symm;have f5_:=f3_.symm;clear f1_ f2_ f3_;subst f4_;subst f5_))
           have p489:0≤(x9_1:Int):=dz
           have q489:x9_1<(t477.length:Int):=dz
           obtain⟨ad489,e489,hx489_0⟩:=Kd.at_int (Kd.R_reads' HO_5.out).2.2 x9_1 p489 q489
           cases e489
           replace p489:=eq_true p489
           replace q489:=eq_true q489
           have p490:0≤(x9_1:Int):=dz
           have q490:x9_1<(t483.length:Int):=dz
           obtain⟨ad490,e490,hx490_0⟩:=Kd.at_int (Kd.R_reads' HO_7.out).2.2 x9_1 p490 q490
           cases e490
           replace p490:=eq_true p490
           replace q490:=eq_true q490
           obtain⟨Ao19,co19,eo19⟩:=Kd.N_slice HO_6.out
           (first|subst eo19|(injection eo19 with f1_ f2_ f3_;have f4_:=f1_.symm;have f5_:=f3_.symm;clear f1_ f2_ f3_;subst f4_;subst f5_))
           have p491:0≤(x9_1:Int):=dz
           have q491:x9_1<(t480.length:Int):=dz
           obtain⟨ad491,A491_0,c491_0,e491,hx491_0,hl491_0,hi491_0⟩:=at_L1 (Kd.N_reads' HO_6.out).2.2 x9_1 p491 q491
           cases e491
           obtain⟨ce491,hce491,hMe491,hcc491⟩:=Kd.N_get HO_6.out [] x9_1 p491 (by first|exact q491|exact dz|(have e_:=(Kd.N_reads' HO_6.out).1;omega))
           obtain⟨ua491_0,uc491_0,rfl,ul491_0,ge491_0⟩:=Kd.FK_slice_open hMe491
           have hv491_0:=hcc491 0 _ rfl
           rw[Nat.add_zero,show ((Kd.slice 3 (Kd.int .i64))).sz=1 from rfl,Nat.mul_one] at hv491_0
           replace hv491_0:=Option.some.inj (hv491_0.symm.trans hx491_0)
           injection hv491_0 with hva_ hvn_ hvc_
           rw[hva_] at ge491_0
           rw[hvc_] at ul491_0
           have HL491_0:=Sd.mk (show Kd.V (Kd.int .i64) 3 _ w.heap.size _ _ (rd_L1 t480 x9_1) from Kd.V_mk ul491_0 ge491_0)
           clear hva_ hvn_ hvc_ ge491_0 ul491_0
           clear hcc491 hce491
           have HR491_0:=Sd.mk hi491_0
           have HC491_0:=Sd.mk hl491_0
           clear hi491_0 hl491_0
           replace p491:=eq_true p491
           replace q491:=eq_true q491
           obtain⟨Ao20,co20,eo20⟩:=Kd.N_slice HO_8.out
           (first|subst eo20|(injection eo20 with f1_ f2_ f3_;have f4_:=f1_.symm;have f5_:=f3_.symm;clear f1_ f2_ f3_;subst f4_;subst f5_))
           have p492:0≤(x9_1:Int):=dz
           have q492:x9_1<(t486.length:Int):=dz
           obtain⟨ad492,A492_0,c492_0,e492,hx492_0,hl492_0,hi492_0⟩:=at_L1 (Kd.N_reads' HO_8.out).2.2 x9_1 p492 q492
           cases e492
           obtain⟨ce492,hce492,hMe492,hcc492⟩:=Kd.N_get HO_8.out [] x9_1 p492 (by first|exact q492|exact dz|(have e_:=(Kd.N_reads' HO_8.out).1;omega))
           obtain⟨ua492_0,uc492_0,rfl,ul492_0,ge492_0⟩:=Kd.FK_slice_open hMe492
           have hv492_0:=hcc492 0 _ rfl
           rw[Nat.add_zero,show ((Kd.slice 3 (Kd.int .i64))).sz=1 from rfl,Nat.mul_one] at hv492_0
           replace hv492_0:=Option.some.inj (hv492_0.symm.trans hx492_0)
           injection hv492_0 with hva_ hvn_ hvc_
           rw[hva_] at ge492_0
           rw[hvc_] at ul492_0
           have HL492_0:=Sd.mk (show Kd.V (Kd.int .i64) 3 _ w.heap.size _ _ (rd_L1 t486 x9_1) from Kd.V_mk ul492_0 ge492_0)
           clear hva_ hvn_ hvc_ ge492_0 ul492_0
           clear hcc492 hce492
           have HR492_0:=Sd.mk hi492_0
           have HC492_0:=Sd.mk hl492_0
           clear hi492_0 hl492_0
           replace p492:=eq_true p492
           replace q492:=eq_true q492
           refine start_ (n:=32) (S:=fun w'=>w'.cell? (ad489.add (x9_1).toNat)=some (.int .i64 (rd t477 x9_1))∧w'.cell? (ad490.add (x9_1).toNat)=some (.int .i64 (rd t483 x9_1))∧w'.cell? (ad491.add (x9_1).toNat)=some (.slice A491_0 (rd_L1 t480 x9_1).length c491_0)∧w'.cell? (ad492.add (x9_1).toNat)=some (.slice A492_0 (rd_L1 t486 x9_1).length c492_0)) (ds:=[]) #[F,F,F,F,F,F,F,F,F,F,F,F,F,F,F,F,F,F,F,F,F,F,F,F,F,F,F,F,F,F,F,F] (by kernel_rfl) rfl rfl ⟨hx489_0,hx490_0,hx491_0,hx492_0⟩ (fun hHeld=>?_);refine with_tabW spec_l2Minus.tab4 spec_l2Minus.bits4 (fun HT_ HW_=>?_)
           generalize wr.drew=w16 at HO_5 HO_6 HO_7 HO_8 HB HL491_0 HL492_0 HR491_0 HR492_0 hx489_0 hx490_0 hx491_0 hx492_0 hHeld ⊢
           refine pq 0 (some 21) HT_.out rfl rfl ?_
           refine pq 1 (some 22) HT_.out rfl rfl ?_
           refine pq 2 (some 23) HT_.out rfl rfl ?_
           refine pq 3 (some 24) HT_.out rfl rfl ?_
           refine pq 4 (some 25) HT_.out rfl rfl ?_
           refine pq 5 (some 26) HT_.out rfl rfl ?_
           refine pq 6 (some 27) HT_.out rfl rfl ?_
           refine pq 7 (some 28) HT_.out rfl rfl ?_
           refine pq 8 (some 29) HT_.out rfl rfl ?_
           refine pq 9 (some 30) HT_.out rfl rfl ?_
           refine pq 10 (some 31) HT_.out rfl rfl ?_
           refine pq 11 (some 32) HT_.out rfl rfl ?_
           refine pq 12 (some 33) HT_.out rfl rfl ?_
           refine pq 13 (some 34) HT_.out rfl rfl ?_
           refine pq 15 (some 36) HT_.out rfl rfl ?_
           refine pq 16 (some 37) HT_.out rfl rfl ?_
           refine pq 17 (some 38) HT_.out rfl rfl ?_
           refine take_ (i:=14) (N:=some 35) (v:=?_) (a':=?_) #[T,T,T,T,T,T,T,T,T,T,T,T,T,T,T,T,T,T,F,F,F,F,F,F,F,F,F,F,F,F,F,F] rfl rfl (take_ofW HT_.out HW_.out (by kernel_rfl)) (fun _ _ _ h=>h) (Or.inl ⟨by rfl,?_⟩) hHeld ?_ ?_
           rotate_left;(· rintro w' ⟨s0,s1,s2,s3⟩;go_simp;with_reducible rfl);rotate_left;(· simp only[Act.put,s1,s2,s3,i64_w,i32_w];rfl)
           refine take_ (i:=18) (N:=some 39) (v:=?_) (a':=?_) #[T,T,T,T,T,T,T,T,T,T,T,T,T,T,T,T,T,T,T,F,F,F,F,F,F,F,F,F,F,F,F,F] rfl rfl (take_ofW HT_.out HW_.out (by kernel_rfl)) (fun _ _ _ h=>h) (Or.inl ⟨by rfl,?_⟩) hHeld ?_ ?_
           rotate_left;(· rintro w' ⟨s0,s1,s2,s3⟩;go_simp;with_reducible rfl);rotate_left;(· simp only[Act.put,s1,s2,s3,i64_w,i32_w];rfl)
           refine pq 19 (some 40) HT_.out rfl rfl ?_
           refine pq 20 (some 41) HT_.out rfl rfl ?_
           refine pq 21 (some 42) HT_.out rfl rfl ?_
           refine pq 22 (some 43) HT_.out rfl rfl ?_
           refine pq 23 (some 44) HT_.out rfl rfl ?_
           refine pq 24 (some 45) HT_.out rfl rfl ?_
           refine pq 26 (some 47) HT_.out rfl rfl ?_
           refine pq 27 (some 48) HT_.out rfl rfl ?_
           refine pq 28 (some 49) HT_.out rfl rfl ?_
           refine take_ (i:=25) (N:=some 46) (v:=?_) (a':=?_) #[T,T,T,T,T,T,T,T,T,T,T,T,T,T,T,T,T,T,T,T,T,T,T,T,T,T,T,T,T,F,F,F] rfl rfl (take_ofW HT_.out HW_.out (by kernel_rfl)) (fun _ _ _ h=>h) (Or.inl ⟨by rfl,?_⟩) hHeld ?_ ?_
           rotate_left;(· rintro w' ⟨s0,s1,s2,s3⟩;go_simp;with_reducible rfl);rotate_left;(· simp only[Act.put,s1,s2,s3,i64_w,i32_w];rfl)
           refine take_ (i:=29) (N:=some 50) (v:=?_) (a':=?_) #[T,T,T,T,T,T,T,T,T,T,T,T,T,T,T,T,T,T,T,T,T,T,T,T,T,T,T,T,T,T,F,F] rfl rfl (take_ofW HT_.out HW_.out (by kernel_rfl)) (fun _ _ _ h=>h) (Or.inl ⟨by rfl,?_⟩) hHeld ?_ ?_
           rotate_left;(· rintro w' ⟨s0,s1,s2,s3⟩;go_simp;with_reducible rfl);rotate_left;(· simp only[Act.put,s1,s2,s3,i64_w,i32_w];rfl)
           refine one_ (i:=30) (N:=some 51) #[T,T,T,T,T,T,T,T,T,T,T,T,T,T,T,T,T,T,T,T,T,T,T,T,T,T,T,T,T,T,T,F] rfl rfl (one_of HT_.out (by kernel_rfl)) (by decide) (fun K hK=>?_)
           refine goes_ Try.func61 (by kernel_rfl) rfl #[.slice A491_0 (rd_L1 t480 x9_1).length c491_0,.slice A492_0 (rd_L1 t486 x9_1).length c492_0] (by rfl) rfl rfl az ?_
           with_reducible refine(spec_l1Same.calls k1 _ _ (rd_L1 t480 x9_1) _ _ (rd_L1 t486 x9_1) true _ ?side1 ?side2 ?side3 ?side4 A14.out).mono ?_
           (case side1=>exact(Kd.Cz HR491_0.out))
           (case side2=>exact HC491_0.out)
           (case side3=>exact(Kd.Cz HR492_0.out))
           (case side4=>exact HC492_0.out)
           rintro e w' ⟨rfl,⟨nd,rfl⟩⟩
           refine⟨_,rfl,?_⟩
           refine hK.out _ _ ⟨hHeld.1,hHeld.2.1,hHeld.2.2.1,hHeld.2.2.2⟩ (fun hHeld=>?_)
           clear hK K
           refine norm_ (a':=?_) ?_ ?_
           rotate_left
           ·show Act.put _ (some 51) _=_
            simp only[Act.put,s1,s2,s3,i64_w,i32_w]
            rfl
           refine pq 31 (some 52) HT_.out rfl rfl ?_
           refine done_ (done_of HT_.out (by kernel_rfl)) ?_
           try go_wp2
           go_roundg k1
           case measure=>have:=HK1.out;omega
           case rel=>exact⟨(wrap64 (x9_1+1)),(by first|rfl|(simp;done)|(simp[*];done)),H',⟨by have:=HK1.out;omega⟩,⟨by(with_reducible repeat (first|apply Kd.R_alloc|apply Kd.R_drewN|apply Kd.R_drew));exact HO_5.out⟩,⟨by(with_reducible repeat (first|apply Kd.N_alloc|apply Kd.N_drewN|apply Kd.N_drew));exact HO_6.out⟩,⟨by(with_reducible repeat (first|apply Kd.R_alloc|apply Kd.R_drewN|apply Kd.R_drew));exact HO_7.out⟩,⟨by(with_reducible repeat (first|apply Kd.N_alloc|apply Kd.N_drewN|apply Kd.N_drew));exact HO_8.out⟩,⟨bz⟩⟩
          ·replace c15:=Bool.eq_false_iff.mpr c15
           subst c15
           have H1:(spec_l2Minus.j1 k1 t477 t480 t483 t486 x9_1)=some r:=by rw[if_neg (show ¬ (false=true) by decide)] at H;exact H
           clear H
           have H:=H1
           clear H1
           have H':=Sd.mk H
           clear H
           try go_wp2
           have n0_:=Sd.mk (Kd.R_drew HO_5.out)
           have n1_:=Sd.mk (Kd.N_drew HO_6.out)
           have n2_:=Sd.mk (Kd.R_drew HO_7.out)
           have n3_:=Sd.mk (Kd.N_drew HO_8.out)
           have n4_:=Sd.mk (below_drew1 HB.out)
           clear HO_5
           clear HO_6
           clear HO_7
           clear HO_8
           clear HB
           have HO_5:=n0_
           have HO_6:=n1_
           have HO_7:=n2_
           have HO_8:=n3_
           have HB:=n4_
           clear n0_ n1_ n2_ n3_ n4_
           obtain⟨Ao22,co22,eo22⟩:=Kd.R_slice HO_5.out
           (first|subst eo22|(injection eo22 with f1_ f2_ f3_;have f4_:=f1_.symm;have f5_:=f3_.symm;clear f1_ f2_ f3_;subst f4_;subst f5_))
           obtain⟨Ao23,co23,eo23⟩:=Kd.R_slice HO_7.out
           (first|subst eo23|(injection eo23 with f1_ f2_ f3_;have f4_:=f1_.symm;have f5_:=f3_.symm;clear f1_ f2_ f3_;subst f4_;subst f5_))
           have p489:0≤(x9_1:Int):=dz
           have q489:x9_1<(t477.length:Int):=dz
           obtain⟨ad489,e489,hx489_0⟩:=Kd.at_int (Kd.R_reads' HO_5.out).2.2 x9_1 p489 q489
           cases e489
           replace p489:=eq_true p489
           replace q489:=eq_true q489
           have p490:0≤(x9_1:Int):=dz
           have q490:x9_1<(t483.length:Int):=dz
           obtain⟨ad490,e490,hx490_0⟩:=Kd.at_int (Kd.R_reads' HO_7.out).2.2 x9_1 p490 q490
           cases e490
           replace p490:=eq_true p490
           replace q490:=eq_true q490
           obtain⟨Ao24,co24,eo24⟩:=Kd.N_slice HO_6.out
           (first|subst eo24|(injection eo24 with f1_ f2_ f3_;have f4_:=f1_.symm;have f5_:=f3_.symm;clear f1_ f2_ f3_;subst f4_;subst f5_))
           have p491:0≤(x9_1:Int):=dz
           have q491:x9_1<(t480.length:Int):=dz
           obtain⟨ad491,A491_0,c491_0,e491,hx491_0,hl491_0,hi491_0⟩:=at_L1 (Kd.N_reads' HO_6.out).2.2 x9_1 p491 q491
           cases e491
           obtain⟨ce491,hce491,hMe491,hcc491⟩:=Kd.N_get HO_6.out [] x9_1 p491 (by first|exact q491|exact dz|(have e_:=(Kd.N_reads' HO_6.out).1;omega))
           obtain⟨ua491_0,uc491_0,rfl,ul491_0,ge491_0⟩:=Kd.FK_slice_open hMe491
           have hv491_0:=hcc491 0 _ rfl
           rw[Nat.add_zero,show ((Kd.slice 3 (Kd.int .i64))).sz=1 from rfl,Nat.mul_one] at hv491_0
           replace hv491_0:=Option.some.inj (hv491_0.symm.trans hx491_0)
           injection hv491_0 with hva_ hvn_ hvc_
           rw[hva_] at ge491_0
           rw[hvc_] at ul491_0
           have HL491_0:=Sd.mk (show Kd.V (Kd.int .i64) 3 _ w.heap.size _ _ (rd_L1 t480 x9_1) from Kd.V_mk ul491_0 ge491_0)
           clear hva_ hvn_ hvc_ ge491_0 ul491_0
           clear hcc491 hce491
           have HR491_0:=Sd.mk hi491_0
           have HC491_0:=Sd.mk hl491_0
           clear hi491_0 hl491_0
           replace p491:=eq_true p491
           replace q491:=eq_true q491
           obtain⟨Ao25,co25,eo25⟩:=Kd.N_slice HO_8.out
           (first|subst eo25|(injection eo25 with f1_ f2_ f3_;have f4_:=f1_.symm;have f5_:=f3_.symm;clear f1_ f2_ f3_;subst f4_;subst f5_))
           have p492:0≤(x9_1:Int):=dz
           have q492:x9_1<(t486.length:Int):=dz
           obtain⟨ad492,A492_0,c492_0,e492,hx492_0,hl492_0,hi492_0⟩:=at_L1 (Kd.N_reads' HO_8.out).2.2 x9_1 p492 q492
           cases e492
           obtain⟨ce492,hce492,hMe492,hcc492⟩:=Kd.N_get HO_8.out [] x9_1 p492 (by first|exact q492|exact dz|(have e_:=(Kd.N_reads' HO_8.out).1;omega))
           obtain⟨ua492_0,uc492_0,rfl,ul492_0,ge492_0⟩:=Kd.FK_slice_open hMe492
           have hv492_0:=hcc492 0 _ rfl
           rw[Nat.add_zero,show ((Kd.slice 3 (Kd.int .i64))).sz=1 from rfl,Nat.mul_one] at hv492_0
           replace hv492_0:=Option.some.inj (hv492_0.symm.trans hx492_0)
           injection hv492_0 with hva_ hvn_ hvc_
           rw[hva_] at ge492_0
           rw[hvc_] at ul492_0
           have HL492_0:=Sd.mk (show Kd.V (Kd.int .i64) 3 _ w.heap.size _ _ (rd_L1 t486 x9_1) from Kd.V_mk ul492_0 ge492_0)
           clear hva_ hvn_ hvc_ ge492_0 ul492_0
           clear hcc492 hce492
           have HR492_0:=Sd.mk hi492_0
           have HC492_0:=Sd.mk hl492_0
           clear hi492_0 hl492_0
           replace p492:=eq_true p492
           replace q492:=eq_true q492
           refine start_ (n:=32) (S:=fun w'=>w'.cell? (ad489.add (x9_1).toNat)=some (.int .i64 (rd t477 x9_1))∧w'.cell? (ad490.add (x9_1).toNat)=some (.int .i64 (rd t483 x9_1))∧w'.cell? (ad491.add (x9_1).toNat)=some (.slice A491_0 (rd_L1 t480 x9_1).length c491_0)∧w'.cell? (ad492.add (x9_1).toNat)=some (.slice A492_0 (rd_L1 t486 x9_1).length c492_0)) (ds:=[]) #[F,F,F,F,F,F,F,F,F,F,F,F,F,F,F,F,F,F,F,F,F,F,F,F,F,F,F,F,F,F,F,F] (by kernel_rfl) rfl rfl ⟨hx489_0,hx490_0,hx491_0,hx492_0⟩ (fun hHeld=>?_);refine with_tabW spec_l2Minus.tab4 spec_l2Minus.bits4 (fun HT_ HW_=>?_)
           generalize wr.drew=w21 at HO_5 HO_6 HO_7 HO_8 HB HL491_0 HL492_0 HR491_0 HR492_0 hx489_0 hx490_0 hx491_0 hx492_0 hHeld ⊢
           refine pq 0 (some 21) HT_.out rfl rfl ?_
           refine pq 1 (some 22) HT_.out rfl rfl ?_
           refine pq 2 (some 23) HT_.out rfl rfl ?_
           refine pq 3 (some 24) HT_.out rfl rfl ?_
           refine pq 4 (some 25) HT_.out rfl rfl ?_
           refine pq 5 (some 26) HT_.out rfl rfl ?_
           refine pq 6 (some 27) HT_.out rfl rfl ?_
           refine pq 7 (some 28) HT_.out rfl rfl ?_
           refine pq 8 (some 29) HT_.out rfl rfl ?_
           refine pq 9 (some 30) HT_.out rfl rfl ?_
           refine pq 10 (some 31) HT_.out rfl rfl ?_
           refine pq 11 (some 32) HT_.out rfl rfl ?_
           refine pq 12 (some 33) HT_.out rfl rfl ?_
           refine pq 13 (some 34) HT_.out rfl rfl ?_
           refine pq 15 (some 36) HT_.out rfl rfl ?_
           refine pq 16 (some 37) HT_.out rfl rfl ?_
           refine pq 17 (some 38) HT_.out rfl rfl ?_
           refine take_ (i:=14) (N:=some 35) (v:=?_) (a':=?_) #[T,T,T,T,T,T,T,T,T,T,T,T,T,T,T,T,T,T,F,F,F,F,F,F,F,F,F,F,F,F,F,F] rfl rfl (take_ofW HT_.out HW_.out (by kernel_rfl)) (fun _ _ _ h=>h) (Or.inl ⟨by rfl,?_⟩) hHeld ?_ ?_
           rotate_left;(· rintro w' ⟨s0,s1,s2,s3⟩;go_simp;with_reducible rfl);rotate_left;(· simp only[Act.put,s1,s2,s3,i64_w,i32_w];rfl)
           refine take_ (i:=18) (N:=some 39) (v:=?_) (a':=?_) #[T,T,T,T,T,T,T,T,T,T,T,T,T,T,T,T,T,T,T,F,F,F,F,F,F,F,F,F,F,F,F,F] rfl rfl (take_ofW HT_.out HW_.out (by kernel_rfl)) (fun _ _ _ h=>h) (Or.inl ⟨by rfl,?_⟩) hHeld ?_ ?_
           rotate_left;(· rintro w' ⟨s0,s1,s2,s3⟩;go_simp;with_reducible rfl);rotate_left;(· simp only[Act.put,s1,s2,s3,i64_w,i32_w];rfl)
           refine pq 19 (some 40) HT_.out rfl rfl ?_
           refine pq 20 (some 41) HT_.out rfl rfl ?_
           refine pq 21 (some 42) HT_.out rfl rfl ?_
           refine pq 22 (some 43) HT_.out rfl rfl ?_
           refine pq 23 (some 44) HT_.out rfl rfl ?_
           refine pq 24 (some 45) HT_.out rfl rfl ?_
           refine pq 26 (some 47) HT_.out rfl rfl ?_
           refine pq 27 (some 48) HT_.out rfl rfl ?_
           refine pq 28 (some 49) HT_.out rfl rfl ?_
           refine take_ (i:=25) (N:=some 46) (v:=?_) (a':=?_) #[T,T,T,T,T,T,T,T,T,T,T,T,T,T,T,T,T,T,T,T,T,T,T,T,T,T,T,T,T,F,F,F] rfl rfl (take_ofW HT_.out HW_.out (by kernel_rfl)) (fun _ _ _ h=>h) (Or.inl ⟨by rfl,?_⟩) hHeld ?_ ?_
           rotate_left;(· rintro w' ⟨s0,s1,s2,s3⟩;go_simp;with_reducible rfl);rotate_left;(· simp only[Act.put,s1,s2,s3,i64_w,i32_w];rfl)
           refine take_ (i:=29) (N:=some 50) (v:=?_) (a':=?_) #[T,T,T,T,T,T,T,T,T,T,T,T,T,T,T,T,T,T,T,T,T,T,T,T,T,T,T,T,T,T,F,F] rfl rfl (take_ofW HT_.out HW_.out (by kernel_rfl)) (fun _ _ _ h=>h) (Or.inl ⟨by rfl,?_⟩) hHeld ?_ ?_
           rotate_left;(· rintro w' ⟨s0,s1,s2,s3⟩;go_simp;with_reducible rfl);rotate_left;(· simp only[Act.put,s1,s2,s3,i64_w,i32_w];rfl)
           refine one_ (i:=30) (N:=some 51) #[T,T,T,T,T,T,T,T,T,T,T,T,T,T,T,T,T,T,T,T,T,T,T,T,T,T,T,T,T,T,T,F] rfl rfl (one_of HT_.out (by kernel_rfl)) (by decide) (fun K hK=>?_)
           refine goes_ Try.func61 (by kernel_rfl) rfl #[.slice A491_0 (rd_L1 t480 x9_1).length c491_0,.slice A492_0 (rd_L1 t486 x9_1).length c492_0] (by rfl) rfl rfl az ?_
           with_reducible refine(spec_l1Same.calls k1 _ _ (rd_L1 t480 x9_1) _ _ (rd_L1 t486 x9_1) false _ ?side1 ?side2 ?side3 ?side4 A14.out).mono ?_
           (case side1=>exact(Kd.Cz HR491_0.out))
           (case side2=>exact HC491_0.out)
           (case side3=>exact(Kd.Cz HR492_0.out))
           (case side4=>exact HC492_0.out)
           rintro e w' ⟨rfl,⟨nd,rfl⟩⟩
           refine⟨_,rfl,?_⟩
           refine hK.out _ _ ⟨hHeld.1,hHeld.2.1,hHeld.2.2.1,hHeld.2.2.2⟩ (fun hHeld=>?_)
           clear hK K
           refine norm_ (a':=?_) ?_ ?_
           rotate_left
           ·show Act.put _ (some 51) _=_
            simp only[Act.put,s1,s2,s3,i64_w,i32_w]
            rfl
           refine pq 31 (some 52) HT_.out rfl rfl ?_
           refine done_ (done_of HT_.out (by kernel_rfl)) ?_
           try go_wp2
           go_meet
           case rel=>exact⟨_,(x9_1),(by first|rfl|(simp;done)|(simp[*];done)),H',⟨by have:=HK1.out;first|omega|exact Nat.le_refl _⟩,⟨by(with_reducible repeat (first|apply Kd.R_alloc|apply Kd.R_drewN|apply Kd.R_drew));exact HO_5.out⟩,⟨by(with_reducible repeat (first|apply Kd.N_alloc|apply Kd.N_drewN|apply Kd.N_drew));exact HO_6.out⟩,⟨by(with_reducible repeat (first|apply Kd.R_alloc|apply Kd.R_drewN|apply Kd.R_drew));exact HO_7.out⟩,⟨by(with_reducible repeat (first|apply Kd.N_alloc|apply Kd.N_drewN|apply Kd.N_drew));exact HO_8.out⟩,⟨bz⟩⟩
         ·rw[if_neg c13] at H
          exact absurd H (by simp)
        ·rw[if_neg c12] at H
         exact absurd H (by simp)
       ·rw[if_neg c11] at H
        have c11b0:((rd t477 x9_1) == (rd t483 x9_1))=false:=beq_eq_false_iff_ne.mpr c11
        have c11b1:((rd t477 x9_1) != (rd t483 x9_1))=true:=bne_iff_ne.mpr c11
        have H':=Sd.mk H
        clear H
        try go_wp2
        have n0_:=Sd.mk (Kd.R_drew HO_5.out)
        have n1_:=Sd.mk (Kd.N_drew HO_6.out)
        have n2_:=Sd.mk (Kd.R_drew HO_7.out)
        have n3_:=Sd.mk (Kd.N_drew HO_8.out)
        have n4_:=Sd.mk (below_drew1 HB.out)
        clear HO_5
        clear HO_6
        clear HO_7
        clear HO_8
        clear HB
        have HO_5:=n0_
        have HO_6:=n1_
        have HO_7:=n2_
        have HO_8:=n3_
        have HB:=n4_
        clear n0_ n1_ n2_ n3_ n4_
        obtain⟨Ao27,co27,eo27⟩:=Kd.R_slice HO_5.out
        (first|subst eo27|(injection eo27 with f1_ f2_ f3_;have f4_:=f1_.symm;have f5_:=f3_.symm;clear f1_ f2_ f3_;subst f4_;subst f5_))
        obtain⟨Ao28,co28,eo28⟩:=Kd.R_slice HO_7.out
        (first|subst eo28|(injection eo28 with f1_ f2_ f3_;have f4_:=f1_.symm;have f5_:=f3_.symm;clear f1_ f2_ f3_;subst f4_;subst f5_))
        have p489:0≤(x9_1:Int):=dz
        have q489:x9_1<(t477.length:Int):=dz
        obtain⟨ad489,e489,hx489_0⟩:=Kd.at_int (Kd.R_reads' HO_5.out).2.2 x9_1 p489 q489
        cases e489
        replace p489:=eq_true p489
        replace q489:=eq_true q489
        have p490:0≤(x9_1:Int):=dz
        have q490:x9_1<(t483.length:Int):=dz
        obtain⟨ad490,e490,hx490_0⟩:=Kd.at_int (Kd.R_reads' HO_7.out).2.2 x9_1 p490 q490
        cases e490
        replace p490:=eq_true p490
        replace q490:=eq_true q490
        refine start_ (n:=32) (S:=fun w'=>w'.cell? (ad489.add (x9_1).toNat)=some (.int .i64 (rd t477 x9_1))∧w'.cell? (ad490.add (x9_1).toNat)=some (.int .i64 (rd t483 x9_1))) (ds:=[]) #[F,F,F,F,F,F,F,F,F,F,F,F,F,F,F,F,F,F,F,F,F,F,F,F,F,F,F,F,F,F,F,F] (by kernel_rfl) rfl rfl ⟨hx489_0,hx490_0⟩ (fun hHeld=>?_);refine with_tabW spec_l2Minus.tab4 spec_l2Minus.bits4 (fun HT_ HW_=>?_)
        generalize wr.drew=w26 at HO_5 HO_6 HO_7 HO_8 HB hx489_0 hx490_0 hHeld ⊢
        refine pq 0 (some 21) HT_.out rfl rfl ?_
        refine pq 1 (some 22) HT_.out rfl rfl ?_
        refine pq 2 (some 23) HT_.out rfl rfl ?_
        refine pq 3 (some 24) HT_.out rfl rfl ?_
        refine pq 4 (some 25) HT_.out rfl rfl ?_
        refine pq 5 (some 26) HT_.out rfl rfl ?_
        refine pq 6 (some 27) HT_.out rfl rfl ?_
        refine pq 7 (some 28) HT_.out rfl rfl ?_
        refine pq 8 (some 29) HT_.out rfl rfl ?_
        refine pq 9 (some 30) HT_.out rfl rfl ?_
        refine pq 10 (some 31) HT_.out rfl rfl ?_
        refine pq 11 (some 32) HT_.out rfl rfl ?_
        refine pq 12 (some 33) HT_.out rfl rfl ?_
        refine pq 13 (some 34) HT_.out rfl rfl ?_
        refine pq 15 (some 36) HT_.out rfl rfl ?_
        refine pq 16 (some 37) HT_.out rfl rfl ?_
        refine pq 17 (some 38) HT_.out rfl rfl ?_
        refine take_ (i:=14) (N:=some 35) (v:=?_) (a':=?_) #[T,T,T,T,T,T,T,T,T,T,T,T,T,T,T,T,T,T,F,F,F,F,F,F,F,F,F,F,F,F,F,F] rfl rfl (take_ofW HT_.out HW_.out (by kernel_rfl)) (fun _ _ _ h=>h) (Or.inl ⟨by rfl,?_⟩) hHeld ?_ ?_
        rotate_left;(· rintro w' ⟨s0,s1⟩;go_simp;with_reducible rfl);rotate_left;(· simp only[Act.put,s1,s2,s3,i64_w,i32_w];rfl)
        refine take_ (i:=18) (N:=some 39) (v:=?_) (a':=?_) #[T,T,T,T,T,T,T,T,T,T,T,T,T,T,T,T,T,T,T,F,F,F,F,F,F,F,F,F,F,F,F,F] rfl rfl (take_ofW HT_.out HW_.out (by kernel_rfl)) (fun _ _ _ h=>h) (Or.inl ⟨by rfl,?_⟩) hHeld ?_ ?_
        rotate_left;(· rintro w' ⟨s0,s1⟩;go_simp;with_reducible rfl);rotate_left;(· simp only[Act.put,s1,s2,s3,i64_w,i32_w];rfl)
        refine pq 19 (some 40) HT_.out rfl rfl ?_
        refine pq 20 (some 41) HT_.out rfl rfl ?_
        refine pq 21 (some 42) HT_.out rfl rfl ?_
        refine pu 22 (some 43) HT_.out rfl rfl ?_
        refine pu 23 (some 44) HT_.out rfl rfl ?_
        refine pu 24 (some 45) HT_.out rfl rfl ?_
        refine pu 25 (some 46) HT_.out rfl rfl ?_
        refine pu 26 (some 47) HT_.out rfl rfl ?_
        refine pu 27 (some 48) HT_.out rfl rfl ?_
        refine pu 28 (some 49) HT_.out rfl rfl ?_
        refine pu 29 (some 50) HT_.out rfl rfl ?_
        refine pu 30 (some 51) HT_.out rfl rfl ?_
        refine pq 31 (some 52) HT_.out rfl rfl ?_
        refine done_ (done_of HT_.out (by kernel_rfl)) ?_
        try go_wp2
        go_meet
        case rel=>exact⟨_,(x9_1),(by first|rfl|(simp;done)|(simp[*];done)),H',⟨by have:=HK1.out;first|omega|exact Nat.le_refl _⟩,⟨by(with_reducible repeat (first|apply Kd.R_alloc|apply Kd.R_drewN|apply Kd.R_drew));exact HO_5.out⟩,⟨by(with_reducible repeat (first|apply Kd.N_alloc|apply Kd.N_drewN|apply Kd.N_drew));exact HO_6.out⟩,⟨by(with_reducible repeat (first|apply Kd.R_alloc|apply Kd.R_drewN|apply Kd.R_drew));exact HO_7.out⟩,⟨by(with_reducible repeat (first|apply Kd.N_alloc|apply Kd.N_drewN|apply Kd.N_drew));exact HO_8.out⟩,⟨bz⟩⟩
      ·rw[if_neg c10] at H
       exact absurd H (by simp)
     ·rw[if_neg c9] at H
      have c9b0:decide (x9_1<(t483.length:Int))=false:=decide_eq_false c9
      clear c9
      have H':=Sd.mk H
      clear H
      try go_wp2
      have n0_:=Sd.mk (Kd.R_drew HO_5.out)
      have n1_:=Sd.mk (Kd.N_drew HO_6.out)
      have n2_:=Sd.mk (Kd.R_drew HO_7.out)
      have n3_:=Sd.mk (Kd.N_drew HO_8.out)
      have n4_:=Sd.mk (below_drew1 HB.out)
      clear HO_5
      clear HO_6
      clear HO_7
      clear HO_8
      clear HB
      have HO_5:=n0_
      have HO_6:=n1_
      have HO_7:=n2_
      have HO_8:=n3_
      have HB:=n4_
      clear n0_ n1_ n2_ n3_ n4_
      obtain⟨Ao30,co30,eo30⟩:=Kd.R_slice HO_5.out
      (first|subst eo30|(injection eo30 with f1_ f2_ f3_;have f4_:=f1_.symm;have f5_:=f3_.symm;clear f1_ f2_ f3_;subst f4_;subst f5_))
      obtain⟨Ao31,co31,eo31⟩:=Kd.R_slice HO_7.out
      (first|subst eo31|(injection eo31 with f1_ f2_ f3_;have f4_:=f1_.symm;have f5_:=f3_.symm;clear f1_ f2_ f3_;subst f4_;subst f5_))
      refine start_ (n:=32) (S:=fun w'=>True) (ds:=[]) #[F,F,F,F,F,F,F,F,F,F,F,F,F,F,F,F,F,F,F,F,F,F,F,F,F,F,F,F,F,F,F,F] (by kernel_rfl) rfl rfl trivial (fun hHeld=>?_);refine with_tabW spec_l2Minus.tab4 spec_l2Minus.bits4 (fun HT_ HW_=>?_)
      generalize wr.drew=w29 at HO_5 HO_6 HO_7 HO_8 HB hHeld ⊢
      refine pq 0 (some 21) HT_.out rfl rfl ?_
      refine pq 1 (some 22) HT_.out rfl rfl ?_
      refine pq 2 (some 23) HT_.out rfl rfl ?_
      refine pq 3 (some 24) HT_.out rfl rfl ?_
      refine pq 4 (some 25) HT_.out rfl rfl ?_
      refine pq 5 (some 26) HT_.out rfl rfl ?_
      refine pq 6 (some 27) HT_.out rfl rfl ?_
      refine pq 7 (some 28) HT_.out rfl rfl ?_
      refine pq 8 (some 29) HT_.out rfl rfl ?_
      refine pq 9 (some 30) HT_.out rfl rfl ?_
      refine pq 10 (some 31) HT_.out rfl rfl ?_
      refine pu 11 (some 32) HT_.out rfl rfl ?_
      refine pu 12 (some 33) HT_.out rfl rfl ?_
      refine pu 13 (some 34) HT_.out rfl rfl ?_
      refine pu 14 (some 35) HT_.out rfl rfl ?_
      refine pu 15 (some 36) HT_.out rfl rfl ?_
      refine pu 16 (some 37) HT_.out rfl rfl ?_
      refine pu 17 (some 38) HT_.out rfl rfl ?_
      refine pu 18 (some 39) HT_.out rfl rfl ?_
      refine pu 19 (some 40) HT_.out rfl rfl ?_
      refine pq 20 (some 41) HT_.out rfl rfl ?_
      refine pq 21 (some 42) HT_.out rfl rfl ?_
      refine pu 22 (some 43) HT_.out rfl rfl ?_
      refine pu 23 (some 44) HT_.out rfl rfl ?_
      refine pu 24 (some 45) HT_.out rfl rfl ?_
      refine pu 25 (some 46) HT_.out rfl rfl ?_
      refine pu 26 (some 47) HT_.out rfl rfl ?_
      refine pu 27 (some 48) HT_.out rfl rfl ?_
      refine pu 28 (some 49) HT_.out rfl rfl ?_
      refine pu 29 (some 50) HT_.out rfl rfl ?_
      refine pu 30 (some 51) HT_.out rfl rfl ?_
      refine pq 31 (some 52) HT_.out rfl rfl ?_
      refine done_ (done_of HT_.out (by kernel_rfl)) ?_
      try go_wp2
      go_meet
      case rel=>exact⟨_,(x9_1),(by first|rfl|(simp;done)|(simp[*];done)),H',⟨by have:=HK1.out;first|omega|exact Nat.le_refl _⟩,⟨by(with_reducible repeat (first|apply Kd.R_alloc|apply Kd.R_drewN|apply Kd.R_drew));exact HO_5.out⟩,⟨by(with_reducible repeat (first|apply Kd.N_alloc|apply Kd.N_drewN|apply Kd.N_drew));exact HO_6.out⟩,⟨by(with_reducible repeat (first|apply Kd.R_alloc|apply Kd.R_drewN|apply Kd.R_drew));exact HO_7.out⟩,⟨by(with_reducible repeat (first|apply Kd.N_alloc|apply Kd.N_drewN|apply Kd.N_drew));exact HO_8.out⟩,⟨bz⟩⟩
    ·rw[if_neg c8] at H
     have c8b0:decide (x9_1<(t477.length:Int))=false:=decide_eq_false c8
     clear c8
     (first|rw[c8b0]|(simp only[i64_w,i32_w];rw[c8b0])|skip)
     have H':=Sd.mk H
     clear H
     try go_wp2
     have n0_:=Sd.mk (Kd.R_drew HO_5.out)
     have n1_:=Sd.mk (Kd.N_drew HO_6.out)
     have n2_:=Sd.mk (Kd.R_drew HO_7.out)
     have n3_:=Sd.mk (Kd.N_drew HO_8.out)
     have n4_:=Sd.mk (below_drew1 HB.out)
     clear HO_5
     clear HO_6
     clear HO_7
     clear HO_8
     clear HB
     have HO_5:=n0_
     have HO_6:=n1_
     have HO_7:=n2_
     have HO_8:=n3_
     have HB:=n4_
     clear n0_ n1_ n2_ n3_ n4_
     obtain⟨Ao33,co33,eo33⟩:=Kd.R_slice HO_5.out
     (first|subst eo33|(injection eo33 with f1_ f2_ f3_;have f4_:=f1_.symm;have f5_:=f3_.symm;clear f1_ f2_ f3_;subst f4_;subst f5_))
     refine start_ (n:=32) (S:=fun w'=>True) (ds:=[]) #[F,F,F,F,F,F,F,F,F,F,F,F,F,F,F,F,F,F,F,F,F,F,F,F,F,F,F,F,F,F,F,F] (by kernel_rfl) rfl rfl trivial (fun hHeld=>?_);refine with_tabW spec_l2Minus.tab4 spec_l2Minus.bits4 (fun HT_ HW_=>?_)
     generalize wr.drew=w32 at HO_5 HO_6 HO_7 HO_8 HB hHeld ⊢
     refine pq 0 (some 21) HT_.out rfl rfl ?_
     refine pq 1 (some 22) HT_.out rfl rfl ?_
     refine pq 2 (some 23) HT_.out rfl rfl ?_
     refine pq 3 (some 24) HT_.out rfl rfl ?_
     refine pq 4 (some 25) HT_.out rfl rfl ?_
     refine pu 5 (some 26) HT_.out rfl rfl ?_
     refine pu 6 (some 27) HT_.out rfl rfl ?_
     refine pu 7 (some 28) HT_.out rfl rfl ?_
     refine pu 8 (some 29) HT_.out rfl rfl ?_
     refine pq 9 (some 30) HT_.out rfl rfl ?_
     refine pq 10 (some 31) HT_.out rfl rfl ?_
     refine pu 11 (some 32) HT_.out rfl rfl ?_
     refine pu 12 (some 33) HT_.out rfl rfl ?_
     refine pu 13 (some 34) HT_.out rfl rfl ?_
     refine pu 14 (some 35) HT_.out rfl rfl ?_
     refine pu 15 (some 36) HT_.out rfl rfl ?_
     refine pu 16 (some 37) HT_.out rfl rfl ?_
     refine pu 17 (some 38) HT_.out rfl rfl ?_
     refine pu 18 (some 39) HT_.out rfl rfl ?_
     refine pu 19 (some 40) HT_.out rfl rfl ?_
     refine pq 20 (some 41) HT_.out rfl rfl ?_
     refine pq 21 (some 42) HT_.out rfl rfl ?_
     refine pu 22 (some 43) HT_.out rfl rfl ?_
     refine pu 23 (some 44) HT_.out rfl rfl ?_
     refine pu 24 (some 45) HT_.out rfl rfl ?_
     refine pu 25 (some 46) HT_.out rfl rfl ?_
     refine pu 26 (some 47) HT_.out rfl rfl ?_
     refine pu 27 (some 48) HT_.out rfl rfl ?_
     refine pu 28 (some 49) HT_.out rfl rfl ?_
     refine pu 29 (some 50) HT_.out rfl rfl ?_
     refine pu 30 (some 51) HT_.out rfl rfl ?_
     refine pq 31 (some 52) HT_.out rfl rfl ?_
     refine done_ (done_of HT_.out (by kernel_rfl)) ?_
     try go_wp2
     go_meet
     case rel=>exact⟨_,(x9_1),(by first|rfl|(simp;done)|(simp[*];done)),H',⟨by have:=HK1.out;first|omega|exact Nat.le_refl _⟩,⟨by(with_reducible repeat (first|apply Kd.R_alloc|apply Kd.R_drewN|apply Kd.R_drew));exact HO_5.out⟩,⟨by(with_reducible repeat (first|apply Kd.N_alloc|apply Kd.N_drewN|apply Kd.N_drew));exact HO_6.out⟩,⟨by(with_reducible repeat (first|apply Kd.R_alloc|apply Kd.R_drewN|apply Kd.R_drew));exact HO_7.out⟩,⟨by(with_reducible repeat (first|apply Kd.N_alloc|apply Kd.N_drewN|apply Kd.N_drew));exact HO_8.out⟩,⟨bz⟩⟩
 case rest =>
  clear HC5
  try clear c1
  try clear p2
  try clear c8
  try clear c8b0
  try clear c9
  try clear c9b0
  try clear c10
  obtain⟨kq,x9_4,rfl,HA,HJ4,HO_5,HO_6,HO_7,HO_8,HB⟩:=hcut
  cases kq with
  | zero=>exact absurd HA.out (by simp[spec_l2Minus.j1])
  | succ kj4 =>
   have H:=HA.out
   clear HA
   simp only[spec_l2Minus.j1] at H
   obtain⟨y494,hy494⟩:∃ y_:List Int,y_=(([]:List Int)):=⟨_,rfl⟩
   replace H:(if 0≤x9_4 then(if x9_4≤(t477.length:Int) then((some (t477.drop (x9_4:Int).toNat:List Int)).bind fun y497=>(if y494.length+y497.length<17592186044416 then((some (y494++y497:List Int)).bind fun y502=>(if x9_4<(t477.length:Int) then(if x9_4<(t483.length:Int) then(if x9_4<(t480.length:Int) then(if x9_4<(t486.length:Int) then((spec_l1Same.f kj4 (rd_L1 t480 x9_4) (rd_L1 t486 x9_4)).bind fun t507=>(if t507=true then(if 0<(y502.length:Int) then(if x9_4≤(t480.length:Int) then((spec_l1Make.f kj4 (y502.set (0:Int).toNat (wrap64 ((rd t477 x9_4)-(rd t483 x9_4)))) (t480.drop (x9_4:Int).toNat)).bind fun t516=>(some t516)) else(none)) else(none)) else(if x9_4≤(t480.length:Int) then((spec_l1Make.f kj4 y502 (t480.drop (x9_4:Int).toNat)).bind fun t524=>(some t524)) else(none)))) else(none)) else(none)) else(if x9_4≤(t480.length:Int) then((spec_l1Make.f kj4 y502 (t480.drop (x9_4:Int).toNat)).bind fun t532=>(some t532)) else(none))) else(if x9_4≤(t480.length:Int) then((spec_l1Make.f kj4 y502 (t480.drop (x9_4:Int).toNat)).bind fun t540=>(some t540)) else(none)))) else(none))) else(none)) else(none))=some r:=hz hy494 H
   have Ny494:=Sd.mk hy494
   clear hy494
   by_cases c34:0≤x9_4
   ·rw[if_pos c34] at H
    have c34b0:=eq_true c34
    have c34b1:decide (0≤x9_4)=true:=decide_eq_true c34
    clear c34
    by_cases c35:x9_4≤(t477.length:Int)
    ·rw[if_pos c35] at H
     have c35b0:=eq_true c35
     have c35b1:decide (x9_4≤(t477.length:Int))=true:=decide_eq_true c35
     clear c35
     obtain⟨y497,hy497⟩:∃ y_:List Int,y_=(t477.drop (x9_4:Int).toNat):=⟨_,rfl⟩
     replace H:(if y494.length+y497.length<17592186044416 then((some (y494++y497:List Int)).bind fun y502=>(if x9_4<(t477.length:Int) then(if x9_4<(t483.length:Int) then(if x9_4<(t480.length:Int) then(if x9_4<(t486.length:Int) then((spec_l1Same.f kj4 (rd_L1 t480 x9_4) (rd_L1 t486 x9_4)).bind fun t507=>(if t507=true then(if 0<(y502.length:Int) then(if x9_4≤(t480.length:Int) then((spec_l1Make.f kj4 (y502.set (0:Int).toNat (wrap64 ((rd t477 x9_4)-(rd t483 x9_4)))) (t480.drop (x9_4:Int).toNat)).bind fun t516=>(some t516)) else(none)) else(none)) else(if x9_4≤(t480.length:Int) then((spec_l1Make.f kj4 y502 (t480.drop (x9_4:Int).toNat)).bind fun t524=>(some t524)) else(none)))) else(none)) else(none)) else(if x9_4≤(t480.length:Int) then((spec_l1Make.f kj4 y502 (t480.drop (x9_4:Int).toNat)).bind fun t532=>(some t532)) else(none))) else(if x9_4≤(t480.length:Int) then((spec_l1Make.f kj4 y502 (t480.drop (x9_4:Int).toNat)).bind fun t540=>(some t540)) else(none)))) else(none))=some r:=hz hy497 H
     have Ny497:=Sd.mk hy497
     clear hy497
     by_cases c36:y494.length+y497.length<17592186044416
     ·rw[if_pos c36] at H
      have LMc36:=Sd.mk c36
      clear c36
      obtain⟨y502,hy502⟩:∃ y_:List Int,y_=(y494++y497):=⟨_,rfl⟩
      replace H:(if x9_4<(t477.length:Int) then(if x9_4<(t483.length:Int) then(if x9_4<(t480.length:Int) then(if x9_4<(t486.length:Int) then((spec_l1Same.f kj4 (rd_L1 t480 x9_4) (rd_L1 t486 x9_4)).bind fun t507=>(if t507=true then(if 0<(y502.length:Int) then(if x9_4≤(t480.length:Int) then((spec_l1Make.f kj4 (y502.set (0:Int).toNat (wrap64 ((rd t477 x9_4)-(rd t483 x9_4)))) (t480.drop (x9_4:Int).toNat)).bind fun t516=>(some t516)) else(none)) else(none)) else(if x9_4≤(t480.length:Int) then((spec_l1Make.f kj4 y502 (t480.drop (x9_4:Int).toNat)).bind fun t524=>(some t524)) else(none)))) else(none)) else(none)) else(if x9_4≤(t480.length:Int) then((spec_l1Make.f kj4 y502 (t480.drop (x9_4:Int).toNat)).bind fun t532=>(some t532)) else(none))) else(if x9_4≤(t480.length:Int) then((spec_l1Make.f kj4 y502 (t480.drop (x9_4:Int).toNat)).bind fun t540=>(some t540)) else(none)))=some r:=hz hy502 H
      have Ny502:=Sd.mk hy502
      clear hy502
      by_cases c37:x9_4<(t477.length:Int)
      ·rw[if_pos c37] at H
       have c37b0:decide (x9_4<(t477.length:Int))=true:=decide_eq_true c37
       clear c37
       by_cases c38:x9_4<(t483.length:Int)
       ·rw[if_pos c38] at H
        have c38b0:decide (x9_4<(t483.length:Int))=true:=decide_eq_true c38
        clear c38
        by_cases c39:x9_4<(t480.length:Int)
        ·rw[if_pos c39] at H
         have c39b0:decide (x9_4<(t480.length:Int))=true:=decide_eq_true c39
         clear c39
         by_cases c40:x9_4<(t486.length:Int)
         ·rw[if_pos c40] at H
          have c40b0:decide (x9_4<(t486.length:Int))=true:=decide_eq_true c40
          clear c40
          replace H:=Option.bind_eq_some_iff.mp H
          obtain⟨t507,A410,H⟩:=H
          replace H:(if t507=true then(if 0<(y502.length:Int) then(if x9_4≤(t480.length:Int) then((spec_l1Make.f kj4 (y502.set (0:Int).toNat (wrap64 ((rd t477 x9_4)-(rd t483 x9_4)))) (t480.drop (x9_4:Int).toNat)).bind fun t516=>(some t516)) else(none)) else(none)) else(if x9_4≤(t480.length:Int) then((spec_l1Make.f kj4 y502 (t480.drop (x9_4:Int).toNat)).bind fun t524=>(some t524)) else(none)))=some r:=H
          have A41:=Sd.mk A410
          clear A410
          by_cases c42:t507=true
          ·subst c42
           have H1:(if 0<(y502.length:Int) then(if x9_4≤(t480.length:Int) then((spec_l1Make.f kj4 (y502.set (0:Int).toNat (wrap64 ((rd t477 x9_4)-(rd t483 x9_4)))) (t480.drop (x9_4:Int).toNat)).bind fun t516=>(some t516)) else(none)) else(none))=some r:=by rw[if_pos rfl] at H;exact H
           clear H
           have H:=H1
           clear H1
           by_cases c43:0<(y502.length:Int)
           ·rw[if_pos c43] at H
            have c43b0:decide (0<(y502.length:Int))=true:=decide_eq_true c43
            have c43b1:decide (0<y502.length)=true:=decide_eq_true (by omega)
            clear c43
            obtain⟨y510,hy510⟩:∃ y_:List Int,y_=(y502.set (0:Int).toNat (wrap64 ((rd t477 x9_4)-(rd t483 x9_4)))):=⟨_,rfl⟩
            replace H:(if x9_4≤(t480.length:Int) then((spec_l1Make.f kj4 y510 (t480.drop (x9_4:Int).toNat)).bind fun t516=>(some t516)) else(none))=some r:=hz hy510 H
            have Ny510:=Sd.mk hy510
            clear hy510
            have c45b0:=eq_true (dz:0≤x9_4)
            by_cases c46:x9_4≤(t480.length:Int)
            ·rw[if_pos c46] at H
             have c46b0:=eq_true c46
             have c46b1:decide (x9_4≤(t480.length:Int))=true:=decide_eq_true c46
             clear c46
             obtain⟨y511,hy511⟩:∃ y_:List (List Int),y_=(t480.drop (x9_4:Int).toNat):=⟨_,rfl⟩
             replace H:((spec_l1Make.f kj4 y510 y511).bind fun t516=>(some t516))=some r:=hz hy511 H
             have Ny511:=Sd.mk hy511
             clear hy511
             replace H:=Option.bind_eq_some_iff.mp H
             obtain⟨t516,A470,H⟩:=H
             replace H:(some t516)=some r:=H
             have A47:=Sd.mk A470
             clear A470
             obtain rfl:=Option.some.inj H
             try go_wp2_with (first|((with_reducible refine gate_dst (N:=55) rfl ?_);refine Kd.R_lit (Kd.int .i64) _ 3 ?hg (N:=55) ?hd (xs:=([]:List Int)) (inner:=[]) (ok:=fun _=>True) (okp:=fun _=>True) ?hr ?hp (fun _ hk=>hk) trivial (Below.refl _ _) (Nat.le_refl _) (by simp) ?_;(case hd=>rfl);(case hg=>rfl);(case hr=>first|(go_simp;done)|(go_simp;rfl));(case hp=>exact(Reps.none _ _));intro v495 w48 ho49 hb hg_ hnew_;clear hg_ hnew_;(first|rw[← Ny494.out] at ho49|(simp only[Int.reduceToNat] at ho49;rw[← Ny494.out] at ho49));replace HO_6:=Sd.mk (Kd.N_elder' (Kd.Nz HO_6.out) (Kd.R_base ho49) hb);replace HO_8:=Sd.mk (Kd.N_elder' (Kd.Nz HO_8.out) (Kd.R_base ho49) hb);have HO496:=Sd.mk (Kd.R_lower (Kd.R_new' (Kd.R_new' ho49 (Kd.R_lt (Kd.Rz HO_5.out))) (Kd.R_lt (Kd.Rz HO_7.out))) (below_size bz));replace HO_5:=Sd.mk (Kd.R_elder' (Kd.Rz HO_5.out) (Kd.R_base ho49) hb);replace HO_7:=Sd.mk (Kd.R_elder' (Kd.Rz HO_7.out) (Kd.R_base ho49) hb);replace HB:=Sd.mk (below_step bz hb);clear hb ho49;obtain⟨Ao51,co51,eo51⟩:=Kd.R_slice HO_5.out;subst eo51;have q50:(x9_4:Int)≤((t477.length:Int):Int):=dz;obtain⟨i050,hi050,_,hsz50,_⟩:=info_parts info3;have hroom50:t477.length≤co51:=(Kd.R_reads' HO_5.out).2.1;have hC50:Kd.F (Kd.int .i64) _ _ Ao51 t477.length t477:=(Kd.V_at (base:=w.heap.size) (Kd.R_V (Kd.R_apart' (Kd.R_apart' (HO_5.out) (Kd.N_typed HO_6.out) (by decide)) (Kd.N_typed HO_8.out) (by decide)))).2.2;have q050:(0:Int)≤(x9_4:Int):=dz;have hcut50:=cut_from (P:=Try.prog) 22 3 .i64 Try.underlying22 hi050 1 hsz50 Ao51 t477.length co51 x9_4 q050 q50;have hr50:=Kd.F_cut (m:=(x9_4:Int).toNat) (c:=co51) hC50 (by omega) hroom50;obtain⟨A50,hA50⟩:∃ Aq_,Aq_=(if co51=(x9_4:Int).toNat then Ao51 else(Ao51:Option Addr).map (·.add ((x9_4:Int).toNat*1))):=⟨_,rfl⟩;obtain⟨c50,hc50⟩:∃ cq_,cq_=co51-(x9_4:Int).toNat:=⟨_,rfl⟩;have hy50:y497.length=t477.length-(x9_4:Int).toNat:=(by rw[Ny497.out,List.length_drop]<;>omega);rw[show (t477).drop (x9_4:Int).toNat=y497 from Ny497.out.symm] at hr50;replace hr50:Kd.F (Kd.int .i64) _ _ A50 y497.length y497:=(by rw[hA50];exact hr50);rw[← hy50,← hA50,← hc50] at hcut50;have HO501:=Sd.mk (show Kd.V (Kd.int .i64) 3 _ w.heap.size _ (.slice A50 y497.length c50) y497 from Kd.V_mk (by rw[hy50,hc50];exact Nat.sub_le_sub_right hroom50 _) hr50);have HC501:=Sd.mk (show y497.length≤c50 from by rw[hy50,hc50];exact Nat.sub_le_sub_right hroom50 _);clear hr50 hC50 hroom50 hi050 hsz50 hc50;have KY50:=Sd.mk hy50;have KA50:=Sd.mk hA50;clear hy50 hA50;replace q50:=eq_true q50)|((with_reducible refine gate_builtin (b:=.append) (xs:=#[.tmp 55,.tmp 58]) rfl ?_);at_builtin;refine Kd.R_append_rows (Kd.int .i64) (w0:=w) w.heap.size rfl (.tmp 55) (.tmp 58) 22 3 (.int .i64 0) 8 rfl Try.underlying22 info3 rfl (by decide) (by omega) v495 y494 y497 _ _ _ (fun k_=>some k_≠(.slice Ao51 t477.length co51:Value).ownBlock∧some k_≠(v484:Value).ownBlock) (fun _=>False) rfl rfl ?aO ?aR (fun _ _ h=>h) (fun _ h=>h.elim) ?aF ?aB ?aS ?aL ?_;(case aR=>repeat (first|exact(Kd.V_reads' HO501.out).2.2|(with_reducible refine Kd.C_alloc ?_ _)|(with_reducible refine Kd.C_drewN ?_ _)|(with_reducible refine Kd.C_drew ?_)));(case aB=>exact bz);(case aF=>exact(fun k_ hk=>⟨Kd.fresh' (Kd.R_lt (Kd.Rz HO_5.out)) k_ hk,Kd.fresh' (Kd.R_lt (Kd.Rz HO_7.out)) k_ hk⟩));(case aO=>exact(Kd.Rz <| Kd.R_mono HO496.out (fun _ hk=>⟨hk.1.2,hk.2⟩)));(case aS=>exact(below_size bz));(case aL=>have:=LMc36.out;omega);intro v503 w52 ho hb hg hat;rw[← Ny502.out] at ho;replace HO_5:=Sd.mk (Kd.R_after (ok:=(fun k_=>some k_≠(v484:Value).ownBlock)) (Kd.Rz HO_5.out) hg hat);replace HO_6:=Sd.mk (Kd.N_afterv (ok:=(fun k_=>some k_≠(.slice Ao51 t477.length co51:Value).ownBlock∧some k_≠(v484:Value).ownBlock∧some k_≠(v487:Value).ownBlock)) (Kd.Nz HO_6.out) hg hat);replace HO_7:=Sd.mk (Kd.R_after (ok:=(fun k_=>some k_≠(.slice Ao51 t477.length co51:Value).ownBlock)) (Kd.Rz HO_7.out) hg hat);replace HO_8:=Sd.mk (Kd.N_afterv (ok:=(fun k_=>some k_≠(.slice Ao51 t477.length co51:Value).ownBlock∧some k_≠(v481:Value).ownBlock∧some k_≠(v484:Value).ownBlock)) (Kd.Nz HO_8.out) hg hat);replace HO501:=Sd.mk (Kd.V_afterv (ok:=(fun k_=>some k_≠(v481:Value).ownBlock∧some k_≠(v484:Value).ownBlock∧some k_≠(v487:Value).ownBlock)) (Kd.Vz <| Kd.V_mono HO501.out (fun _ hk=>⟨⟨hk.1.2,⟨hk.1.1.1,hk.2⟩⟩,hk.1.1.2⟩)) hg hat);replace HB:=Sd.mk (hb);have HO504:=Sd.mk (ho);clear HO496;clear ho hb hg hat))
             have n0_:=Sd.mk (Kd.R_drew HO_5.out)
             have n1_:=Sd.mk (Kd.N_drew HO_6.out)
             have n2_:=Sd.mk (Kd.R_drew HO_7.out)
             have n3_:=Sd.mk (Kd.N_drew HO_8.out)
             have n4_:=Sd.mk (Kd.V_drew HO501.out)
             have n5_:=Sd.mk (Kd.R_drew HO504.out)
             have n6_:=Sd.mk (below_drew1 HB.out)
             clear HO_5
             clear HO_6
             clear HO_7
             clear HO_8
             clear HO501
             clear HO504
             clear HB
             have HO_5:=n0_
             have HO_6:=n1_
             have HO_7:=n2_
             have HO_8:=n3_
             have HO501:=n4_
             have HO504:=n5_
             have HB:=n6_
             clear n0_ n1_ n2_ n3_ n4_ n5_ n6_
             obtain⟨Ao54,co54,eo54⟩:=Kd.R_slice HO_7.out
             (first|subst eo54|(injection eo54 with f1_ f2_ f3_;have f4_:=f1_.symm;have f5_:=f3_.symm;clear f1_ f2_ f3_;subst f4_;subst f5_))
             obtain⟨Ao55,co55,eo55⟩:=Kd.N_slice HO_6.out
             (first|subst eo55|(injection eo55 with f1_ f2_ f3_;have f4_:=f1_.symm;have f5_:=f3_.symm;clear f1_ f2_ f3_;subst f4_;subst f5_))
             have p505:0≤(x9_4:Int):=dz
             have q505:x9_4<(t480.length:Int):=dz
             obtain⟨ad505,A505_0,c505_0,e505,hx505_0,hl505_0,hi505_0⟩:=at_L1 (Kd.N_reads' HO_6.out).2.2 x9_4 p505 q505
             cases e505
             obtain⟨ce505,hce505,hMe505,hcc505⟩:=Kd.N_get HO_6.out [] x9_4 p505 (by first|exact q505|exact dz|(have e_:=(Kd.N_reads' HO_6.out).1;omega))
             obtain⟨ua505_0,uc505_0,rfl,ul505_0,ge505_0⟩:=Kd.FK_slice_open hMe505
             have hv505_0:=hcc505 0 _ rfl
             rw[Nat.add_zero,show ((Kd.slice 3 (Kd.int .i64))).sz=1 from rfl,Nat.mul_one] at hv505_0
             replace hv505_0:=Option.some.inj (hv505_0.symm.trans hx505_0)
             injection hv505_0 with hva_ hvn_ hvc_
             rw[hva_] at ge505_0
             rw[hvc_] at ul505_0
             have HL505_0:=Sd.mk (show Kd.V (Kd.int .i64) 3 _ w.heap.size _ _ (rd_L1 t480 x9_4) from Kd.V_mk ul505_0 ge505_0)
             clear hva_ hvn_ hvc_ ge505_0 ul505_0
             clear hcc505 hce505
             have HR505_0:=Sd.mk hi505_0
             have HC505_0:=Sd.mk hl505_0
             clear hi505_0 hl505_0
             replace p505:=eq_true p505
             replace q505:=eq_true q505
             obtain⟨Ao56,co56,eo56⟩:=Kd.N_slice HO_8.out
             (first|subst eo56|(injection eo56 with f1_ f2_ f3_;have f4_:=f1_.symm;have f5_:=f3_.symm;clear f1_ f2_ f3_;subst f4_;subst f5_))
             have p506:0≤(x9_4:Int):=dz
             have q506:x9_4<(t486.length:Int):=dz
             obtain⟨ad506,A506_0,c506_0,e506,hx506_0,hl506_0,hi506_0⟩:=at_L1 (Kd.N_reads' HO_8.out).2.2 x9_4 p506 q506
             cases e506
             obtain⟨ce506,hce506,hMe506,hcc506⟩:=Kd.N_get HO_8.out [] x9_4 p506 (by first|exact q506|exact dz|(have e_:=(Kd.N_reads' HO_8.out).1;omega))
             obtain⟨ua506_0,uc506_0,rfl,ul506_0,ge506_0⟩:=Kd.FK_slice_open hMe506
             have hv506_0:=hcc506 0 _ rfl
             rw[Nat.add_zero,show ((Kd.slice 3 (Kd.int .i64))).sz=1 from rfl,Nat.mul_one] at hv506_0
             replace hv506_0:=Option.some.inj (hv506_0.symm.trans hx506_0)
             injection hv506_0 with hva_ hvn_ hvc_
             rw[hva_] at ge506_0
             rw[hvc_] at ul506_0
             have HL506_0:=Sd.mk (show Kd.V (Kd.int .i64) 3 _ w.heap.size _ _ (rd_L1 t486 x9_4) from Kd.V_mk ul506_0 ge506_0)
             clear hva_ hvn_ hvc_ ge506_0 ul506_0
             clear hcc506 hce506
             have HR506_0:=Sd.mk hi506_0
             have HC506_0:=Sd.mk hl506_0
             clear hi506_0 hl506_0
             replace p506:=eq_true p506
             replace q506:=eq_true q506
             refine start_ (n:=21) (S:=fun w'=>w'.cell? (ad505.add (x9_4).toNat)=some (.slice A505_0 (rd_L1 t480 x9_4).length c505_0)∧w'.cell? (ad506.add (x9_4).toNat)=some (.slice A506_0 (rd_L1 t486 x9_4).length c506_0)) (ds:=[]) #[F,F,F,F,F,F,F,F,F,F,F,F,F,F,F,F,F,F,F,F,F] (by kernel_rfl) rfl rfl ⟨hx505_0,hx506_0⟩ (fun hHeld=>?_);refine with_tabW spec_l2Minus.tab7 spec_l2Minus.bits7 (fun HT_ HW_=>?_)
             generalize w52.drew=w53 at HO_5 HO_6 HO_7 HO_8 HO501 HO504 HB HL505_0 HL506_0 HR505_0 HR506_0 hx505_0 hx506_0 hHeld ⊢
             refine pq 0 (some 60) HT_.out rfl rfl ?_
             refine pq 1 (some 61) HT_.out rfl rfl ?_
             refine pq 2 (some 62) HT_.out rfl rfl ?_
             refine pq 3 (some 63) HT_.out rfl rfl ?_
             refine pq 4 (some 64) HT_.out rfl rfl ?_
             refine pq 5 (some 65) HT_.out rfl rfl ?_
             refine pq 6 (some 66) HT_.out rfl rfl ?_
             refine pq 7 (some 67) HT_.out rfl rfl ?_
             refine pq 8 (some 68) HT_.out rfl rfl ?_
             refine pq 9 (some 69) HT_.out rfl rfl ?_
             refine pq 10 (some 70) HT_.out rfl rfl ?_
             refine pq 11 (some 71) HT_.out rfl rfl ?_
             refine pq 12 (some 72) HT_.out rfl rfl ?_
             refine pq 13 (some 73) HT_.out rfl rfl ?_
             refine pq 15 (some 75) HT_.out rfl rfl ?_
             refine pq 16 (some 76) HT_.out rfl rfl ?_
             refine pq 17 (some 77) HT_.out rfl rfl ?_
             refine take_ (i:=14) (N:=some 74) (v:=?_) (a':=?_) #[T,T,T,T,T,T,T,T,T,T,T,T,T,T,T,T,T,T,F,F,F] rfl rfl (take_ofW HT_.out HW_.out (by kernel_rfl)) (fun _ _ _ h=>h) (Or.inl ⟨by rfl,?_⟩) hHeld ?_ ?_
             rotate_left;(· rintro w' ⟨s0,s1⟩;go_simp;with_reducible rfl);rotate_left;(· simp only[Act.put,s1,s2,s3,i64_w,i32_w];rfl)
             refine take_ (i:=18) (N:=some 78) (v:=?_) (a':=?_) #[T,T,T,T,T,T,T,T,T,T,T,T,T,T,T,T,T,T,T,F,F] rfl rfl (take_ofW HT_.out HW_.out (by kernel_rfl)) (fun _ _ _ h=>h) (Or.inl ⟨by rfl,?_⟩) hHeld ?_ ?_
             rotate_left;(· rintro w' ⟨s0,s1⟩;go_simp;with_reducible rfl);rotate_left;(· simp only[Act.put,s1,s2,s3,i64_w,i32_w];rfl)
             refine one_ (i:=19) (N:=some 79) #[T,T,T,T,T,T,T,T,T,T,T,T,T,T,T,T,T,T,T,T,F] rfl rfl (one_of HT_.out (by kernel_rfl)) (by decide) (fun K hK=>?_)
             refine goes_ Try.func61 (by kernel_rfl) rfl #[.slice A505_0 (rd_L1 t480 x9_4).length c505_0,.slice A506_0 (rd_L1 t486 x9_4).length c506_0] (by rfl) rfl rfl az ?_
             with_reducible refine(spec_l1Same.calls kj4 _ _ (rd_L1 t480 x9_4) _ _ (rd_L1 t486 x9_4) true _ ?side1 ?side2 ?side3 ?side4 A41.out).mono ?_
             (case side1=>exact(Kd.Cz HR505_0.out))
             (case side2=>exact HC505_0.out)
             (case side3=>exact(Kd.Cz HR506_0.out))
             (case side4=>exact HC506_0.out)
             rintro e w' ⟨rfl,⟨nd,rfl⟩⟩
             refine⟨_,rfl,?_⟩
             refine hK.out _ _ ⟨hHeld.1,hHeld.2⟩ (fun hHeld=>?_)
             clear hK K
             refine norm_ (a':=?_) ?_ ?_
             rotate_left
             ·show Act.put _ (some 79) _=_
              simp only[Act.put,s1,s2,s3,i64_w,i32_w]
              rfl
             refine pq 20 (some 80) HT_.out rfl rfl ?_
             refine done_ (done_of HT_.out (by kernel_rfl)) ?_
             try go_wp2
             (try (rw[drewN_self w53];generalize hq_:World.drewN w53 _=w53;have n0_:Sd (Kd.V (Kd.int .i64) 3 w53 w.heap.size (fun k_=>some k_≠(v503:Value).ownBlock∧some k_≠(.slice Ao51 t477.length co51:Value).ownBlock∧some k_≠(.slice (some ad505) t480.length co55:Value).ownBlock∧some k_≠(.slice Ao54 t483.length co54:Value).ownBlock∧some k_≠(.slice (some ad506) t486.length co56:Value).ownBlock) (.slice A505_0 (rd_L1 t480 x9_4).length c505_0) (rd_L1 t480 x9_4)):=⟨by rw[← hq_];exact(Kd.Vz <| Kd.V_mono HL505_0.out (fun _ hk=>⟨hk.1.2,⟨hk.1.1.1,⟨hk.2,⟨hk.1.1.2.1,hk.1.1.2.2⟩⟩⟩⟩))⟩;have n1_:Sd (Kd.V (Kd.int .i64) 3 w53 w.heap.size (fun k_=>some k_≠(v503:Value).ownBlock∧some k_≠(.slice Ao51 t477.length co51:Value).ownBlock∧some k_≠(.slice (some ad505) t480.length co55:Value).ownBlock∧some k_≠(.slice Ao54 t483.length co54:Value).ownBlock∧some k_≠(.slice (some ad506) t486.length co56:Value).ownBlock) (.slice A506_0 (rd_L1 t486 x9_4).length c506_0) (rd_L1 t486 x9_4)):=⟨by rw[← hq_];exact(Kd.Vz <| Kd.V_mono HL506_0.out (fun _ hk=>⟨hk.1.2,⟨hk.1.1.1,⟨hk.1.1.2.1,⟨hk.1.1.2.2,hk.2⟩⟩⟩⟩))⟩;have n2_:Sd (Kd.V (Kd.int .i64) 3 w53 w.heap.size (fun k_=>some k_≠(v503:Value).ownBlock∧some k_≠(.slice (some ad505) t480.length co55:Value).ownBlock∧some k_≠(.slice Ao54 t483.length co54:Value).ownBlock∧some k_≠(.slice (some ad506) t486.length co56:Value).ownBlock) (.slice A50 y497.length c50) y497):=⟨by rw[← hq_];exact(Kd.Vz <| Kd.V_mono HO501.out (fun _ hk=>⟨hk.2,⟨hk.1.1,⟨hk.1.2.1,hk.1.2.2⟩⟩⟩))⟩;have n3_:Sd (Kd.R (Kd.int .i64) 3 w53 w.heap.size (fun k_=>some k_≠(.slice Ao51 t477.length co51:Value).ownBlock∧some k_≠(.slice Ao54 t483.length co54:Value).ownBlock) v503 y502):=⟨by rw[← hq_];exact(Kd.Rz HO504.out)⟩;have n4_:Sd (Kd.R (Kd.int .i64) 3 w53 w.heap.size (fun k_=>some k_≠(v503:Value).ownBlock∧some k_≠(.slice Ao54 t483.length co54:Value).ownBlock) (.slice Ao51 t477.length co51) t477):=⟨by rw[← hq_];exact(Kd.Rz <| Kd.R_mono HO_5.out (fun _ hk=>⟨hk.2,hk.1⟩))⟩;have n5_:Sd (Kd.N (Kd.slice 3 (Kd.int .i64)) 22 w53 w.heap.size (fun k_=>some k_≠(v503:Value).ownBlock∧some k_≠(.slice Ao51 t477.length co51:Value).ownBlock∧some k_≠(.slice Ao54 t483.length co54:Value).ownBlock∧some k_≠(.slice (some ad506) t486.length co56:Value).ownBlock) (.slice (some ad505) t480.length co55) t480):=⟨by rw[← hq_];exact(Kd.Nz <| Kd.N_mono HO_6.out (fun _ hk=>⟨hk.2,⟨hk.1.1,⟨hk.1.2.1,hk.1.2.2⟩⟩⟩))⟩;have n6_:Sd (Kd.R (Kd.int .i64) 3 w53 w.heap.size (fun k_=>some k_≠(v503:Value).ownBlock∧some k_≠(.slice Ao51 t477.length co51:Value).ownBlock) (.slice Ao54 t483.length co54) t483):=⟨by rw[← hq_];exact(Kd.Rz <| Kd.R_mono HO_7.out (fun _ hk=>⟨hk.2,hk.1⟩))⟩;have n7_:Sd (Kd.N (Kd.slice 3 (Kd.int .i64)) 22 w53 w.heap.size (fun k_=>some k_≠(v503:Value).ownBlock∧some k_≠(.slice Ao51 t477.length co51:Value).ownBlock∧some k_≠(.slice (some ad505) t480.length co55:Value).ownBlock∧some k_≠(.slice Ao54 t483.length co54:Value).ownBlock) (.slice (some ad506) t486.length co56) t486):=⟨by rw[← hq_];exact(Kd.Nz <| Kd.N_mono HO_8.out (fun _ hk=>⟨hk.2,⟨hk.1.1,⟨hk.1.2.1,hk.1.2.2⟩⟩⟩))⟩;have n8_:Sd (Below w.heap.size w w53):=⟨by rw[← hq_];exact bz⟩;have n9_:Sd (Kd.C (Kd.int .i64) w53 A505_0 (rd_L1 t480 x9_4).length (rd_L1 t480 x9_4)):=⟨by rw[← hq_];exact(Kd.Cz HR505_0.out)⟩;have n10_:Sd (Kd.C (Kd.int .i64) w53 A506_0 (rd_L1 t486 x9_4).length (rd_L1 t486 x9_4)):=⟨by rw[← hq_];exact(Kd.Cz HR506_0.out)⟩;clear HL505_0 HL506_0 HO501 HO504 HO_5 HO_6 HO_7 HO_8 HB HR505_0 HR506_0 hq_;have HL505_0:=n0_;have HL506_0:=n1_;have HO501:=n2_;have HO504:=n3_;have HO_5:=n4_;have HO_6:=n5_;have HO_7:=n6_;have HO_8:=n7_;have HB:=n8_;have HR505_0:=n9_;have HR506_0:=n10_;clear n0_ n1_ n2_ n3_ n4_ n5_ n6_ n7_ n8_ n9_ n10_))
             have n0_:=Sd.mk (Kd.R_drew HO_5.out)
             have n1_:=Sd.mk (Kd.N_drew HO_6.out)
             have n2_:=Sd.mk (Kd.R_drew HO_7.out)
             have n3_:=Sd.mk (Kd.N_drew HO_8.out)
             have n4_:=Sd.mk (Kd.V_drew HO501.out)
             have n5_:=Sd.mk (Kd.R_drew HO504.out)
             have n6_:=Sd.mk (Kd.V_drew HL505_0.out)
             have n7_:=Sd.mk (Kd.V_drew HL506_0.out)
             have n8_:=Sd.mk (Kd.C_drew HR505_0.out)
             have n9_:=Sd.mk (Kd.C_drew HR506_0.out)
             have n10_:=Sd.mk (below_drew1 HB.out)
             clear HO_5
             clear HO_6
             clear HO_7
             clear HO_8
             clear HO501
             clear HO504
             clear HL505_0
             clear HL506_0
             clear HR505_0
             clear HR506_0
             clear HB
             have HO_5:=n0_
             have HO_6:=n1_
             have HO_7:=n2_
             have HO_8:=n3_
             have HO501:=n4_
             have HO504:=n5_
             have HL505_0:=n6_
             have HL506_0:=n7_
             have HR505_0:=n8_
             have HR506_0:=n9_
             have HB:=n10_
             clear n0_ n1_ n2_ n3_ n4_ n5_ n6_ n7_ n8_ n9_ n10_
             have p508:0≤(x9_4:Int):=dz
             have q508:x9_4<(t477.length:Int):=dz
             obtain⟨ad508,e508,hx508_0⟩:=Kd.at_int (Kd.R_reads' HO_5.out).2.2 x9_4 p508 q508
             cases e508
             replace p508:=eq_true p508
             replace q508:=eq_true q508
             have p509:0≤(x9_4:Int):=dz
             have q509:x9_4<(t483.length:Int):=dz
             obtain⟨ad509,e509,hx509_0⟩:=Kd.at_int (Kd.R_reads' HO_7.out).2.2 x9_4 p509 q509
             cases e509
             replace p509:=eq_true p509
             replace q509:=eq_true q509
             have p44:0≤(0:Int):=(by omega)
             have q44:(0:Int)<((y502.length:Int):Int):=dz
             have qi44:(0<y502.length)=True:=eq_true (by omega)
             obtain⟨go44,co44,eo44,gb44,gl44,cl44,HG44⟩:=Kd.R_form HO504.out (by omega)
             (first|cases eo44|(injection eo44 with ea_ en_ ec_;(first|subst ea_|(injection ea_ with ea_;subst ea_));subst ec_;clear en_))
             have GB44:=Sd.mk gb44
             have GG44:=Sd.mk HG44
             clear gb44 gl44 HG44
             obtain⟨hx44_0,hf44_0⟩:=Kd.R_celln 0 HO504.out (0:Int) p44 q44
             (try rw[show ((0:Int)).toNat=0 from rfl] at hx44_0)
             (try simp only[Nat.reduceMul,Nat.zero_mul,Nat.zero_add,Nat.reduceAdd] at hx44_0)
             (try rw[show ((0:Int)).toNat=0 from rfl] at hf44_0)
             (try simp only[Nat.reduceMul,Nat.zero_mul,Nat.zero_add,Nat.reduceAdd] at hf44_0)
             replace p44:=eq_true p44
             replace q44:=eq_true q44
             have HP58:=Kd.R_putn HO504.out (0:Int) (wrap64 ((rd t477 x9_4)-(rd t483 x9_4)))
             rw[← Ny510.out] at HP58
             have HQ58:=Sd.mk HP58
             clear HP58
             refine start_ (n:=12) (S:=fun w'=>w'.cell? (ad508.add (x9_4).toNat)=some (.int .i64 (rd t477 x9_4))∧w'.cell? (ad509.add (x9_4).toNat)=some (.int .i64 (rd t483 x9_4))) (ds:=[11]) #[F,F,F,F,F,F,F,F,F,F,F,F] (by kernel_rfl) rfl rfl ⟨hx508_0,hx509_0⟩ (fun hHeld=>?_);refine with_tabW spec_l2Minus.tab8 spec_l2Minus.bits8 (fun HT_ HW_=>?_)
             generalize w53.drew=w57 at HO_5 HO_6 HO_7 HO_8 HO501 HO504 HL505_0 HL506_0 HR505_0 HR506_0 HB GG44 HQ58 hf44_0 hx44_0 hx508_0 hx509_0 hHeld ⊢
             refine pq 0 (some 81) HT_.out rfl rfl ?_
             refine pq 1 (some 82) HT_.out rfl rfl ?_
             refine pq 2 (some 83) HT_.out rfl rfl ?_
             refine pq 3 (some 84) HT_.out rfl rfl ?_
             refine pq 5 (some 86) HT_.out rfl rfl ?_
             refine pq 6 (some 87) HT_.out rfl rfl ?_
             refine pq 7 (some 88) HT_.out rfl rfl ?_
             refine take_ (i:=4) (N:=some 85) (v:=?_) (a':=?_) #[T,T,T,T,T,T,T,T,F,F,F,F] rfl rfl (take_ofW HT_.out HW_.out (by kernel_rfl)) (fun _ _ _ h=>h) (Or.inl ⟨by rfl,?_⟩) hHeld ?_ ?_
             rotate_left;(· rintro w' ⟨s0,s1⟩;go_simp;with_reducible rfl);rotate_left;(· simp only[Act.put,s1,s2,s3,i64_w,i32_w];rfl)
             refine take_ (i:=8) (N:=some 89) (v:=?_) (a':=?_) #[T,T,T,T,T,T,T,T,T,F,F,F] rfl rfl (take_ofW HT_.out HW_.out (by kernel_rfl)) (fun _ _ _ h=>h) (Or.inl ⟨by rfl,?_⟩) hHeld ?_ ?_
             rotate_left;(· rintro w' ⟨s0,s1⟩;go_simp;with_reducible rfl);rotate_left;(· simp only[Act.put,s1,s2,s3,i64_w,i32_w];rfl)
             refine pq 9 (some 90) HT_.out rfl rfl ?_
             refine pq 10 (some 91) HT_.out rfl rfl ?_
             refine last_ (i:=11) (N:=none) #[T,T,T,T,T,T,T,T,T,T,T,T] rfl rfl (one_of HT_.out (by kernel_rfl)) (by decide) (fun K hK=>?_)
             refine skip_ (w1:=?_) (by rfl) rfl ?_ ?_
             rotate_left
             ·go_simp
              rfl
             refine hK.out _ _ ?_
             clear hK K
             refine done_ (done_of HT_.out (by kernel_rfl)) ?_
             have n0_:Sd (Kd.R (Kd.int .i64) 3 (w57.setCell ⟨go44,0,none⟩ (.int .i64 (wrap64 ((rd t477 x9_4)-(rd t483 x9_4))))) w.heap.size (fun k_=>some k_≠(.slice (some ad509) t483.length co54:Value).ownBlock∧some k_≠(.slice (some ⟨go44,0,none⟩) y502.length co44:Value).ownBlock) (.slice (some ad508) t477.length co51) t477):=⟨Kd.Rz <| Kd.R_mono (Kd.R_far (p:=⟨go44,0,none⟩) (Kd.R_mono HO_5.out (fun k_ hk=>(⟨hk,by intro e_;subst e_;simp[Value.ownBlock] at hk⟩:_∧k_≠go44))) (fun _ hk=>hk.2) (.int .i64 (wrap64 ((rd t477 x9_4)-(rd t483 x9_4))))) (fun _ hk=>⟨(by first|exact hk.1.1|exact hk.1.1|exact hk.1.2|exact hk.1.2.1|exact hk.1.2.2|exact hk.1.2.2.1|exact hk.1.2.2.2|exact hk.1.2.2.2.1|exact hk.1.2.2.2.2|exact hk.1.1.1|exact hk.1.1.2|exact hk.1.1.2.1|exact hk.1.1.2.2|exact hk.1.1.2.2.1|exact hk.1.1.2.2.2|exact hk.1.1.2.2.2.1|exact hk.1.1.2.2.2.2),(by first|exact hk.1.2|exact hk.1.1|exact hk.1.2|exact hk.1.2.1|exact hk.1.2.2|exact hk.1.2.2.1|exact hk.1.2.2.2|exact hk.1.2.2.2.1|exact hk.1.2.2.2.2|exact hk.1.1.1|exact hk.1.1.2|exact hk.1.1.2.1|exact hk.1.1.2.2|exact hk.1.1.2.2.1|exact hk.1.1.2.2.2|exact hk.1.1.2.2.2.1|exact hk.1.1.2.2.2.2)⟩)⟩
             have n1_:Sd (Kd.N (Kd.slice 3 (Kd.int .i64)) 22 (w57.setCell ⟨go44,0,none⟩ (.int .i64 (wrap64 ((rd t477 x9_4)-(rd t483 x9_4))))) w.heap.size (fun k_=>some k_≠(.slice (some ad508) t477.length co51:Value).ownBlock∧some k_≠(.slice (some ad509) t483.length co54:Value).ownBlock∧some k_≠(.slice (some ad506) t486.length co56:Value).ownBlock∧some k_≠(.slice (some ⟨go44,0,none⟩) y502.length co44:Value).ownBlock) (.slice (some ad505) t480.length co55) t480):=⟨Kd.Nz <| Kd.N_mono (Kd.N_far (p:=⟨go44,0,none⟩) (Kd.N_mono HO_6.out (fun k_ hk=>(⟨hk,by intro e_;subst e_;simp[Value.ownBlock] at hk⟩:_∧k_≠go44))) (fun _ hk=>hk.2) (.int .i64 (wrap64 ((rd t477 x9_4)-(rd t483 x9_4))))) (fun _ hk=>⟨(by first|exact hk.1.1.1|exact hk.1.1|exact hk.1.2|exact hk.1.2.1|exact hk.1.2.2|exact hk.1.2.2.1|exact hk.1.2.2.2|exact hk.1.2.2.2.1|exact hk.1.2.2.2.2|exact hk.1.1.1|exact hk.1.1.2|exact hk.1.1.2.1|exact hk.1.1.2.2|exact hk.1.1.2.2.1|exact hk.1.1.2.2.2|exact hk.1.1.2.2.2.1|exact hk.1.1.2.2.2.2),⟨(by first|exact hk.1.1.2.1|exact hk.1.1|exact hk.1.2|exact hk.1.2.1|exact hk.1.2.2|exact hk.1.2.2.1|exact hk.1.2.2.2|exact hk.1.2.2.2.1|exact hk.1.2.2.2.2|exact hk.1.1.1|exact hk.1.1.2|exact hk.1.1.2.1|exact hk.1.1.2.2|exact hk.1.1.2.2.1|exact hk.1.1.2.2.2|exact hk.1.1.2.2.2.1|exact hk.1.1.2.2.2.2),⟨(by first|exact hk.1.1.2.2|exact hk.1.1|exact hk.1.2|exact hk.1.2.1|exact hk.1.2.2|exact hk.1.2.2.1|exact hk.1.2.2.2|exact hk.1.2.2.2.1|exact hk.1.2.2.2.2|exact hk.1.1.1|exact hk.1.1.2|exact hk.1.1.2.1|exact hk.1.1.2.2|exact hk.1.1.2.2.1|exact hk.1.1.2.2.2|exact hk.1.1.2.2.2.1|exact hk.1.1.2.2.2.2),(by first|exact hk.1.2|exact hk.1.1|exact hk.1.2|exact hk.1.2.1|exact hk.1.2.2|exact hk.1.2.2.1|exact hk.1.2.2.2|exact hk.1.2.2.2.1|exact hk.1.2.2.2.2|exact hk.1.1.1|exact hk.1.1.2|exact hk.1.1.2.1|exact hk.1.1.2.2|exact hk.1.1.2.2.1|exact hk.1.1.2.2.2|exact hk.1.1.2.2.2.1|exact hk.1.1.2.2.2.2)⟩⟩⟩)⟩
             have n2_:Sd (Kd.R (Kd.int .i64) 3 (w57.setCell ⟨go44,0,none⟩ (.int .i64 (wrap64 ((rd t477 x9_4)-(rd t483 x9_4))))) w.heap.size (fun k_=>some k_≠(.slice (some ad508) t477.length co51:Value).ownBlock∧some k_≠(.slice (some ⟨go44,0,none⟩) y502.length co44:Value).ownBlock) (.slice (some ad509) t483.length co54) t483):=⟨Kd.Rz <| Kd.R_mono (Kd.R_far (p:=⟨go44,0,none⟩) (Kd.R_mono HO_7.out (fun k_ hk=>(⟨hk,by intro e_;subst e_;simp[Value.ownBlock] at hk⟩:_∧k_≠go44))) (fun _ hk=>hk.2) (.int .i64 (wrap64 ((rd t477 x9_4)-(rd t483 x9_4))))) (fun _ hk=>⟨(by first|exact hk.1.1|exact hk.1.1|exact hk.1.2|exact hk.1.2.1|exact hk.1.2.2|exact hk.1.2.2.1|exact hk.1.2.2.2|exact hk.1.2.2.2.1|exact hk.1.2.2.2.2|exact hk.1.1.1|exact hk.1.1.2|exact hk.1.1.2.1|exact hk.1.1.2.2|exact hk.1.1.2.2.1|exact hk.1.1.2.2.2|exact hk.1.1.2.2.2.1|exact hk.1.1.2.2.2.2),(by first|exact hk.1.2|exact hk.1.1|exact hk.1.2|exact hk.1.2.1|exact hk.1.2.2|exact hk.1.2.2.1|exact hk.1.2.2.2|exact hk.1.2.2.2.1|exact hk.1.2.2.2.2|exact hk.1.1.1|exact hk.1.1.2|exact hk.1.1.2.1|exact hk.1.1.2.2|exact hk.1.1.2.2.1|exact hk.1.1.2.2.2|exact hk.1.1.2.2.2.1|exact hk.1.1.2.2.2.2)⟩)⟩
             have n3_:Sd (Kd.N (Kd.slice 3 (Kd.int .i64)) 22 (w57.setCell ⟨go44,0,none⟩ (.int .i64 (wrap64 ((rd t477 x9_4)-(rd t483 x9_4))))) w.heap.size (fun k_=>some k_≠(.slice (some ad508) t477.length co51:Value).ownBlock∧some k_≠(.slice (some ad505) t480.length co55:Value).ownBlock∧some k_≠(.slice (some ad509) t483.length co54:Value).ownBlock∧some k_≠(.slice (some ⟨go44,0,none⟩) y502.length co44:Value).ownBlock) (.slice (some ad506) t486.length co56) t486):=⟨Kd.Nz <| Kd.N_mono (Kd.N_far (p:=⟨go44,0,none⟩) (Kd.N_mono HO_8.out (fun k_ hk=>(⟨hk,by intro e_;subst e_;simp[Value.ownBlock] at hk⟩:_∧k_≠go44))) (fun _ hk=>hk.2) (.int .i64 (wrap64 ((rd t477 x9_4)-(rd t483 x9_4))))) (fun _ hk=>⟨(by first|exact hk.1.1.1|exact hk.1.1|exact hk.1.2|exact hk.1.2.1|exact hk.1.2.2|exact hk.1.2.2.1|exact hk.1.2.2.2|exact hk.1.2.2.2.1|exact hk.1.2.2.2.2|exact hk.1.1.1|exact hk.1.1.2|exact hk.1.1.2.1|exact hk.1.1.2.2|exact hk.1.1.2.2.1|exact hk.1.1.2.2.2|exact hk.1.1.2.2.2.1|exact hk.1.1.2.2.2.2),⟨(by first|exact hk.1.1.2.1|exact hk.1.1|exact hk.1.2|exact hk.1.2.1|exact hk.1.2.2|exact hk.1.2.2.1|exact hk.1.2.2.2|exact hk.1.2.2.2.1|exact hk.1.2.2.2.2|exact hk.1.1.1|exact hk.1.1.2|exact hk.1.1.2.1|exact hk.1.1.2.2|exact hk.1.1.2.2.1|exact hk.1.1.2.2.2|exact hk.1.1.2.2.2.1|exact hk.1.1.2.2.2.2),⟨(by first|exact hk.1.1.2.2|exact hk.1.1|exact hk.1.2|exact hk.1.2.1|exact hk.1.2.2|exact hk.1.2.2.1|exact hk.1.2.2.2|exact hk.1.2.2.2.1|exact hk.1.2.2.2.2|exact hk.1.1.1|exact hk.1.1.2|exact hk.1.1.2.1|exact hk.1.1.2.2|exact hk.1.1.2.2.1|exact hk.1.1.2.2.2|exact hk.1.1.2.2.2.1|exact hk.1.1.2.2.2.2),(by first|exact hk.1.2|exact hk.1.1|exact hk.1.2|exact hk.1.2.1|exact hk.1.2.2|exact hk.1.2.2.1|exact hk.1.2.2.2|exact hk.1.2.2.2.1|exact hk.1.2.2.2.2|exact hk.1.1.1|exact hk.1.1.2|exact hk.1.1.2.1|exact hk.1.1.2.2|exact hk.1.1.2.2.1|exact hk.1.1.2.2.2|exact hk.1.1.2.2.2.1|exact hk.1.1.2.2.2.2)⟩⟩⟩)⟩
             have n4_:Sd (Kd.V (Kd.int .i64) 3 (w57.setCell ⟨go44,0,none⟩ (.int .i64 (wrap64 ((rd t477 x9_4)-(rd t483 x9_4))))) w.heap.size (fun k_=>some k_≠(.slice (some ad505) t480.length co55:Value).ownBlock∧some k_≠(.slice (some ad509) t483.length co54:Value).ownBlock∧some k_≠(.slice (some ad506) t486.length co56:Value).ownBlock∧some k_≠(.slice (some ⟨go44,0,none⟩) y502.length co44:Value).ownBlock) (.slice A50 y497.length c50) y497):=⟨Kd.Vz <| Kd.V_mono (Kd.V_far (p:=⟨go44,0,none⟩) (Kd.V_mono HO501.out (fun k_ hk=>(⟨hk,by intro e_;subst e_;simp[Value.ownBlock] at hk⟩:_∧k_≠go44))) (fun _ hk=>hk.2) (.int .i64 (wrap64 ((rd t477 x9_4)-(rd t483 x9_4))))) (fun _ hk=>⟨(by first|exact hk.1.1.1|exact hk.1.1|exact hk.1.2|exact hk.1.2.1|exact hk.1.2.2|exact hk.1.2.2.1|exact hk.1.2.2.2|exact hk.1.2.2.2.1|exact hk.1.2.2.2.2|exact hk.1.1.1|exact hk.1.1.2|exact hk.1.1.2.1|exact hk.1.1.2.2|exact hk.1.1.2.2.1|exact hk.1.1.2.2.2|exact hk.1.1.2.2.2.1|exact hk.1.1.2.2.2.2),⟨(by first|exact hk.1.1.2.1|exact hk.1.1|exact hk.1.2|exact hk.1.2.1|exact hk.1.2.2|exact hk.1.2.2.1|exact hk.1.2.2.2|exact hk.1.2.2.2.1|exact hk.1.2.2.2.2|exact hk.1.1.1|exact hk.1.1.2|exact hk.1.1.2.1|exact hk.1.1.2.2|exact hk.1.1.2.2.1|exact hk.1.1.2.2.2|exact hk.1.1.2.2.2.1|exact hk.1.1.2.2.2.2),⟨(by first|exact hk.1.1.2.2|exact hk.1.1|exact hk.1.2|exact hk.1.2.1|exact hk.1.2.2|exact hk.1.2.2.1|exact hk.1.2.2.2|exact hk.1.2.2.2.1|exact hk.1.2.2.2.2|exact hk.1.1.1|exact hk.1.1.2|exact hk.1.1.2.1|exact hk.1.1.2.2|exact hk.1.1.2.2.1|exact hk.1.1.2.2.2|exact hk.1.1.2.2.2.1|exact hk.1.1.2.2.2.2),(by first|exact hk.1.2|exact hk.1.1|exact hk.1.2|exact hk.1.2.1|exact hk.1.2.2|exact hk.1.2.2.1|exact hk.1.2.2.2|exact hk.1.2.2.2.1|exact hk.1.2.2.2.2|exact hk.1.1.1|exact hk.1.1.2|exact hk.1.1.2.1|exact hk.1.1.2.2|exact hk.1.1.2.2.1|exact hk.1.1.2.2.2|exact hk.1.1.2.2.2.1|exact hk.1.1.2.2.2.2)⟩⟩⟩)⟩
             have n5_:Sd (Kd.R (Kd.int .i64) 3 (w57.setCell ⟨go44,0,none⟩ (.int .i64 (wrap64 ((rd t477 x9_4)-(rd t483 x9_4))))) w.heap.size (fun k_=>some k_≠(.slice (some ad508) t477.length co51:Value).ownBlock∧some k_≠(.slice (some ad509) t483.length co54:Value).ownBlock) (.slice (some ⟨go44,0,none⟩) y502.length co44) y510):=⟨by(with_reducible repeat (first|apply Kd.R_alloc|apply Kd.R_drewN|apply Kd.R_drew));exact HQ58.out⟩
             have n6_:Sd (Kd.V (Kd.int .i64) 3 (w57.setCell ⟨go44,0,none⟩ (.int .i64 (wrap64 ((rd t477 x9_4)-(rd t483 x9_4))))) w.heap.size (fun k_=>some k_≠(.slice (some ad508) t477.length co51:Value).ownBlock∧some k_≠(.slice (some ad505) t480.length co55:Value).ownBlock∧some k_≠(.slice (some ad509) t483.length co54:Value).ownBlock∧some k_≠(.slice (some ad506) t486.length co56:Value).ownBlock∧some k_≠(.slice (some ⟨go44,0,none⟩) y502.length co44:Value).ownBlock) (.slice A505_0 (rd_L1 t480 x9_4).length c505_0) (rd_L1 t480 x9_4)):=⟨Kd.Vz <| Kd.V_mono (Kd.V_far (p:=⟨go44,0,none⟩) (Kd.V_mono HL505_0.out (fun k_ hk=>(⟨hk,by intro e_;subst e_;simp[Value.ownBlock] at hk⟩:_∧k_≠go44))) (fun _ hk=>hk.2) (.int .i64 (wrap64 ((rd t477 x9_4)-(rd t483 x9_4))))) (fun _ hk=>⟨(by first|exact hk.1.1.1.1|exact hk.1.1|exact hk.1.2|exact hk.1.2.1|exact hk.1.2.2|exact hk.1.2.2.1|exact hk.1.2.2.2|exact hk.1.2.2.2.1|exact hk.1.2.2.2.2|exact hk.1.1.1|exact hk.1.1.2|exact hk.1.1.2.1|exact hk.1.1.2.2|exact hk.1.1.2.2.1|exact hk.1.1.2.2.2|exact hk.1.1.2.2.2.1|exact hk.1.1.2.2.2.2),⟨(by first|exact hk.1.2|exact hk.1.1|exact hk.1.2|exact hk.1.2.1|exact hk.1.2.2|exact hk.1.2.2.1|exact hk.1.2.2.2|exact hk.1.2.2.2.1|exact hk.1.2.2.2.2|exact hk.1.1.1|exact hk.1.1.2|exact hk.1.1.2.1|exact hk.1.1.2.2|exact hk.1.1.2.2.1|exact hk.1.1.2.2.2|exact hk.1.1.2.2.2.1|exact hk.1.1.2.2.2.2),⟨(by first|exact hk.1.1.1.2.1|exact hk.1.1|exact hk.1.2|exact hk.1.2.1|exact hk.1.2.2|exact hk.1.2.2.1|exact hk.1.2.2.2|exact hk.1.2.2.2.1|exact hk.1.2.2.2.2|exact hk.1.1.1|exact hk.1.1.2|exact hk.1.1.2.1|exact hk.1.1.2.2|exact hk.1.1.2.2.1|exact hk.1.1.2.2.2|exact hk.1.1.2.2.2.1|exact hk.1.1.2.2.2.2),⟨(by first|exact hk.1.1.1.2.2|exact hk.1.1|exact hk.1.2|exact hk.1.2.1|exact hk.1.2.2|exact hk.1.2.2.1|exact hk.1.2.2.2|exact hk.1.2.2.2.1|exact hk.1.2.2.2.2|exact hk.1.1.1|exact hk.1.1.2|exact hk.1.1.2.1|exact hk.1.1.2.2|exact hk.1.1.2.2.1|exact hk.1.1.2.2.2|exact hk.1.1.2.2.2.1|exact hk.1.1.2.2.2.2),(by first|exact hk.1.1.2|exact hk.1.1|exact hk.1.2|exact hk.1.2.1|exact hk.1.2.2|exact hk.1.2.2.1|exact hk.1.2.2.2|exact hk.1.2.2.2.1|exact hk.1.2.2.2.2|exact hk.1.1.1|exact hk.1.1.2|exact hk.1.1.2.1|exact hk.1.1.2.2|exact hk.1.1.2.2.1|exact hk.1.1.2.2.2|exact hk.1.1.2.2.2.1|exact hk.1.1.2.2.2.2)⟩⟩⟩⟩)⟩
             have n7_:Sd (Kd.V (Kd.int .i64) 3 (w57.setCell ⟨go44,0,none⟩ (.int .i64 (wrap64 ((rd t477 x9_4)-(rd t483 x9_4))))) w.heap.size (fun k_=>some k_≠(.slice (some ad508) t477.length co51:Value).ownBlock∧some k_≠(.slice (some ad505) t480.length co55:Value).ownBlock∧some k_≠(.slice (some ad509) t483.length co54:Value).ownBlock∧some k_≠(.slice (some ad506) t486.length co56:Value).ownBlock∧some k_≠(.slice (some ⟨go44,0,none⟩) y502.length co44:Value).ownBlock) (.slice A506_0 (rd_L1 t486 x9_4).length c506_0) (rd_L1 t486 x9_4)):=⟨Kd.Vz <| Kd.V_mono (Kd.V_far (p:=⟨go44,0,none⟩) (Kd.V_mono HL506_0.out (fun k_ hk=>(⟨hk,by intro e_;subst e_;simp[Value.ownBlock] at hk⟩:_∧k_≠go44))) (fun _ hk=>hk.2) (.int .i64 (wrap64 ((rd t477 x9_4)-(rd t483 x9_4))))) (fun _ hk=>⟨(by first|exact hk.1.1.1.1|exact hk.1.1|exact hk.1.2|exact hk.1.2.1|exact hk.1.2.2|exact hk.1.2.2.1|exact hk.1.2.2.2|exact hk.1.2.2.2.1|exact hk.1.2.2.2.2|exact hk.1.1.1|exact hk.1.1.2|exact hk.1.1.2.1|exact hk.1.1.2.2|exact hk.1.1.2.2.1|exact hk.1.1.2.2.2|exact hk.1.1.2.2.2.1|exact hk.1.1.2.2.2.2),⟨(by first|exact hk.1.1.1.2.1|exact hk.1.1|exact hk.1.2|exact hk.1.2.1|exact hk.1.2.2|exact hk.1.2.2.1|exact hk.1.2.2.2|exact hk.1.2.2.2.1|exact hk.1.2.2.2.2|exact hk.1.1.1|exact hk.1.1.2|exact hk.1.1.2.1|exact hk.1.1.2.2|exact hk.1.1.2.2.1|exact hk.1.1.2.2.2|exact hk.1.1.2.2.2.1|exact hk.1.1.2.2.2.2),⟨(by first|exact hk.1.1.1.2.2|exact hk.1.1|exact hk.1.2|exact hk.1.2.1|exact hk.1.2.2|exact hk.1.2.2.1|exact hk.1.2.2.2|exact hk.1.2.2.2.1|exact hk.1.2.2.2.2|exact hk.1.1.1|exact hk.1.1.2|exact hk.1.1.2.1|exact hk.1.1.2.2|exact hk.1.1.2.2.1|exact hk.1.1.2.2.2|exact hk.1.1.2.2.2.1|exact hk.1.1.2.2.2.2),⟨(by first|exact hk.1.2|exact hk.1.1|exact hk.1.2|exact hk.1.2.1|exact hk.1.2.2|exact hk.1.2.2.1|exact hk.1.2.2.2|exact hk.1.2.2.2.1|exact hk.1.2.2.2.2|exact hk.1.1.1|exact hk.1.1.2|exact hk.1.1.2.1|exact hk.1.1.2.2|exact hk.1.1.2.2.1|exact hk.1.1.2.2.2|exact hk.1.1.2.2.2.1|exact hk.1.1.2.2.2.2),(by first|exact hk.1.1.2|exact hk.1.1|exact hk.1.2|exact hk.1.2.1|exact hk.1.2.2|exact hk.1.2.2.1|exact hk.1.2.2.2|exact hk.1.2.2.2.1|exact hk.1.2.2.2.2|exact hk.1.1.1|exact hk.1.1.2|exact hk.1.1.2.1|exact hk.1.1.2.2|exact hk.1.1.2.2.1|exact hk.1.1.2.2.2|exact hk.1.1.2.2.2.1|exact hk.1.1.2.2.2.2)⟩⟩⟩⟩)⟩
             have n8_:Sd (Below w.heap.size w (w57.setCell ⟨go44,0,none⟩ (.int .i64 (wrap64 ((rd t477 x9_4)-(rd t483 x9_4)))))):=⟨by repeat (first|(with_reducible first|exact HB.out|apply below_alloc|apply pw_below_drewN|apply below_drew1|refine below_set ?_ GB44.out)|exact HB.out)⟩
             (try clear HO_5)
             (try clear HO_6)
             (try clear HO_7)
             (try clear HO_8)
             (try clear HO501)
             (try clear HO504)
             (try clear HL505_0)
             (try clear HL506_0)
             (try clear HB)
             generalize (w57.setCell ⟨go44,0,none⟩ (.int .i64 (wrap64 ((rd t477 x9_4)-(rd t483 x9_4)))))=w59 at n0_ n1_ n2_ n3_ n4_ n5_ n6_ n7_ n8_ ⊢
             have HO_5:=n0_
             have HO_6:=n1_
             have HO_7:=n2_
             have HO_8:=n3_
             have HO501:=n4_
             have HO504:=n5_
             have HL505_0:=n6_
             have HL506_0:=n7_
             have HB:=n8_
             clear n0_ n1_ n2_ n3_ n4_ n5_ n6_ n7_ n8_
             have q60:(x9_4:Int)≤((t480.length:Int):Int):=dz
             obtain⟨i060,hi060,_,hsz60,_⟩:=info_parts info22
             have hroom60:t480.length≤co55:=(Kd.N_reads' HO_6.out).2.1
             have hC60:Kd.F (Kd.slice 3 (Kd.int .i64)) _ _ (some ad505) t480.length t480:=(Kd.V_at (base:=w.heap.size) (Kd.N_V HO_6.out)).2.2
             have q060:(0:Int)≤(x9_4:Int):=dz
             have hcut60:=cut_from (P:=Try.prog) 52 22 .i64 Try.underlying52 hi060 1 hsz60 (some ad505) t480.length co55 x9_4 q060 q60
             have hr60:=Kd.F_cut (m:=(x9_4:Int).toNat) (c:=co55) hC60 (by omega) hroom60
             obtain⟨A60,hA60⟩:∃ Aq_,Aq_=(if co55=(x9_4:Int).toNat then(some ad505) else((some ad505):Option Addr).map (·.add ((x9_4:Int).toNat*1))):=⟨_,rfl⟩
             obtain⟨c60,hc60⟩:∃ cq_,cq_=co55-(x9_4:Int).toNat:=⟨_,rfl⟩
             have hy60:y511.length=t480.length-(x9_4:Int).toNat:=(by rw[Ny511.out,List.length_drop]<;>omega)
             rw[show (t480).drop (x9_4:Int).toNat=y511 from Ny511.out.symm] at hr60
             replace hr60:Kd.F (Kd.slice 3 (Kd.int .i64)) _ _ A60 y511.length y511:=(by rw[hA60];exact hr60)
             rw[← hy60,← hA60,← hc60] at hcut60
             have HO515:=Sd.mk (show Kd.V (Kd.slice 3 (Kd.int .i64)) 22 _ w.heap.size _ (.slice A60 y511.length c60) y511 from Kd.V_mk (by rw[hy60,hc60];exact Nat.sub_le_sub_right hroom60 _) hr60)
             have HC515:=Sd.mk (show y511.length≤c60 from by rw[hy60,hc60];exact Nat.sub_le_sub_right hroom60 _)
             clear hr60 hC60 hroom60 hi060 hsz60 hc60
             have KY60:=Sd.mk hy60
             have KA60:=Sd.mk hA60
             clear hy60 hA60
             replace q60:=eq_true q60
             try go_wp2_with (first|((with_reducible refine gate_callee (f:=54) rfl ?_);refine goesL_ (some 96) rfl rfl Try.func54 (by kernel_rfl) rfl #[.slice (some ⟨go44,0,none⟩) y510.length co44,.slice A60 y511.length c60] rfl (by(try simp only[List.map_toArray,List.map_cons,List.map_nil]);first|done|(rw[show y510.length=y502.length from(Kd.R_reads' HO504.out).1.symm]<;>rfl)|rfl|(simp only[List.length_drop,List.length_take];rfl)) ?_;(with_reducible refine(spec_l1Make.calls kj4 _ _ y510 _ _ y511 t516 _ ?side1 ?side2 ?side3 ?side4 A47.out).mono ?_);(case side1=>exact Kd.Cz (Kd.R_reads' HO504.out).2.2);(case side2=>rw[show y510.length=y502.length from(Kd.R_reads' HO504.out).1.symm];exact(Kd.R_reads' HO504.out).2.1);(case side3=>exact Kd.Cz (Kd.V_reads' HO515.out).2.2);(case side4=>exact(Kd.V_reads' HO515.out).2.1);rintro e w61 ⟨v517,rfl,ho0,hb⟩;refine⟨_,rfl,?_⟩;replace HO_6:=Sd.mk (Kd.N_elder' (Kd.Nz HO_6.out) (Kd.R_base ho0) hb);replace HO_8:=Sd.mk (Kd.N_elder' (Kd.Nz HO_8.out) (Kd.R_base ho0) hb);replace HO501:=Sd.mk (Kd.V_elder' (Kd.Vz HO501.out) (Kd.R_base ho0) hb);replace HL505_0:=Sd.mk (Kd.V_elder' (Kd.Vz HL505_0.out) (Kd.R_base ho0) hb);replace HL506_0:=Sd.mk (Kd.V_elder' (Kd.Vz HL506_0.out) (Kd.R_base ho0) hb);replace HO515:=Sd.mk (Kd.V_elder' (Kd.Vz HO515.out) (Kd.R_base ho0) hb);have HO518:=Sd.mk (Kd.R_lower (Kd.R_new' (Kd.R_new' (Kd.R_new' ho0 (Kd.R_lt (Kd.Rz HO_5.out))) (Kd.R_lt (Kd.Rz HO_7.out))) (Kd.R_lt (Kd.Rz HO504.out))) (below_size bz));replace HO_5:=Sd.mk (Kd.R_elder' (Kd.Rz HO_5.out) (Kd.R_base ho0) hb);replace HO_7:=Sd.mk (Kd.R_elder' (Kd.Rz HO_7.out) (Kd.R_base ho0) hb);replace HO504:=Sd.mk (Kd.R_elder' (Kd.Rz HO504.out) (Kd.R_base ho0) hb);replace HB:=Sd.mk (below_step bz hb);(try clear hb);(try clear hb2);(try clear hk);(try clear hi);(try clear ho0)))
             go_ret
             exact⟨_,by first|rfl|(simp[errW_none,errW_some]<;>rfl)|(simp[*,errW_none,errW_some]<;>rfl),Kd.Rz <| Kd.R_mono HO518.out (fun _ hk=>trivial),bz⟩
            ·rw[if_neg c46] at H
             exact absurd H (by simp)
           ·rw[if_neg c43] at H
            exact absurd H (by simp)
          ·replace c42:=Bool.eq_false_iff.mpr c42
           subst c42
           have H1:(if x9_4≤(t480.length:Int) then((spec_l1Make.f kj4 y502 (t480.drop (x9_4:Int).toNat)).bind fun t524=>(some t524)) else(none))=some r:=by rw[if_neg (show ¬ (false=true) by decide)] at H;exact H
           clear H
           have H:=H1
           clear H1
           have c62b0:=eq_true (dz:0≤x9_4)
           by_cases c63:x9_4≤(t480.length:Int)
           ·rw[if_pos c63] at H
            have c63b0:=eq_true c63
            have c63b1:decide (x9_4≤(t480.length:Int))=true:=decide_eq_true c63
            clear c63
            obtain⟨y519,hy519⟩:∃ y_:List (List Int),y_=(t480.drop (x9_4:Int).toNat):=⟨_,rfl⟩
            replace H:((spec_l1Make.f kj4 y502 y519).bind fun t524=>(some t524))=some r:=hz hy519 H
            have Ny519:=Sd.mk hy519
            clear hy519
            replace H:=Option.bind_eq_some_iff.mp H
            obtain⟨t524,A640,H⟩:=H
            replace H:(some t524)=some r:=H
            have A64:=Sd.mk A640
            clear A640
            obtain rfl:=Option.some.inj H
            try go_wp2_with (first|((with_reducible refine gate_dst (N:=55) rfl ?_);refine Kd.R_lit (Kd.int .i64) _ 3 ?hg (N:=55) ?hd (xs:=([]:List Int)) (inner:=[]) (ok:=fun _=>True) (okp:=fun _=>True) ?hr ?hp (fun _ hk=>hk) trivial (Below.refl _ _) (Nat.le_refl _) (by simp) ?_;(case hd=>rfl);(case hg=>rfl);(case hr=>first|(go_simp;done)|(go_simp;rfl));(case hp=>exact(Reps.none _ _));intro v495 w65 ho66 hb hg_ hnew_;clear hg_ hnew_;(first|rw[← Ny494.out] at ho66|(simp only[Int.reduceToNat] at ho66;rw[← Ny494.out] at ho66));replace HO_6:=Sd.mk (Kd.N_elder' (Kd.Nz HO_6.out) (Kd.R_base ho66) hb);replace HO_8:=Sd.mk (Kd.N_elder' (Kd.Nz HO_8.out) (Kd.R_base ho66) hb);have HO496:=Sd.mk (Kd.R_lower (Kd.R_new' (Kd.R_new' ho66 (Kd.R_lt (Kd.Rz HO_5.out))) (Kd.R_lt (Kd.Rz HO_7.out))) (below_size bz));replace HO_5:=Sd.mk (Kd.R_elder' (Kd.Rz HO_5.out) (Kd.R_base ho66) hb);replace HO_7:=Sd.mk (Kd.R_elder' (Kd.Rz HO_7.out) (Kd.R_base ho66) hb);replace HB:=Sd.mk (below_step bz hb);clear hb ho66;obtain⟨Ao68,co68,eo68⟩:=Kd.R_slice HO_5.out;subst eo68;have q67:(x9_4:Int)≤((t477.length:Int):Int):=dz;obtain⟨i067,hi067,_,hsz67,_⟩:=info_parts info3;have hroom67:t477.length≤co68:=(Kd.R_reads' HO_5.out).2.1;have hC67:Kd.F (Kd.int .i64) _ _ Ao68 t477.length t477:=(Kd.V_at (base:=w.heap.size) (Kd.R_V (Kd.R_apart' (Kd.R_apart' (HO_5.out) (Kd.N_typed HO_6.out) (by decide)) (Kd.N_typed HO_8.out) (by decide)))).2.2;have q067:(0:Int)≤(x9_4:Int):=dz;have hcut67:=cut_from (P:=Try.prog) 22 3 .i64 Try.underlying22 hi067 1 hsz67 Ao68 t477.length co68 x9_4 q067 q67;have hr67:=Kd.F_cut (m:=(x9_4:Int).toNat) (c:=co68) hC67 (by omega) hroom67;obtain⟨A67,hA67⟩:∃ Aq_,Aq_=(if co68=(x9_4:Int).toNat then Ao68 else(Ao68:Option Addr).map (·.add ((x9_4:Int).toNat*1))):=⟨_,rfl⟩;obtain⟨c67,hc67⟩:∃ cq_,cq_=co68-(x9_4:Int).toNat:=⟨_,rfl⟩;have hy67:y497.length=t477.length-(x9_4:Int).toNat:=(by rw[Ny497.out,List.length_drop]<;>omega);rw[show (t477).drop (x9_4:Int).toNat=y497 from Ny497.out.symm] at hr67;replace hr67:Kd.F (Kd.int .i64) _ _ A67 y497.length y497:=(by rw[hA67];exact hr67);rw[← hy67,← hA67,← hc67] at hcut67;have HO501:=Sd.mk (show Kd.V (Kd.int .i64) 3 _ w.heap.size _ (.slice A67 y497.length c67) y497 from Kd.V_mk (by rw[hy67,hc67];exact Nat.sub_le_sub_right hroom67 _) hr67);have HC501:=Sd.mk (show y497.length≤c67 from by rw[hy67,hc67];exact Nat.sub_le_sub_right hroom67 _);clear hr67 hC67 hroom67 hi067 hsz67 hc67;have KY67:=Sd.mk hy67;have KA67:=Sd.mk hA67;clear hy67 hA67;replace q67:=eq_true q67)|((with_reducible refine gate_builtin (b:=.append) (xs:=#[.tmp 55,.tmp 58]) rfl ?_);at_builtin;refine Kd.R_append_rows (Kd.int .i64) (w0:=w) w.heap.size rfl (.tmp 55) (.tmp 58) 22 3 (.int .i64 0) 8 rfl Try.underlying22 info3 rfl (by decide) (by omega) v495 y494 y497 _ _ _ (fun k_=>some k_≠(.slice Ao68 t477.length co68:Value).ownBlock∧some k_≠(v484:Value).ownBlock) (fun _=>False) rfl rfl ?aO ?aR (fun _ _ h=>h) (fun _ h=>h.elim) ?aF ?aB ?aS ?aL ?_;(case aR=>repeat (first|exact(Kd.V_reads' HO501.out).2.2|(with_reducible refine Kd.C_alloc ?_ _)|(with_reducible refine Kd.C_drewN ?_ _)|(with_reducible refine Kd.C_drew ?_)));(case aB=>exact bz);(case aF=>exact(fun k_ hk=>⟨Kd.fresh' (Kd.R_lt (Kd.Rz HO_5.out)) k_ hk,Kd.fresh' (Kd.R_lt (Kd.Rz HO_7.out)) k_ hk⟩));(case aO=>exact(Kd.Rz <| Kd.R_mono HO496.out (fun _ hk=>⟨hk.1.2,hk.2⟩)));(case aS=>exact(below_size bz));(case aL=>have:=LMc36.out;omega);intro v503 w69 ho hb hg hat;rw[← Ny502.out] at ho;replace HO_5:=Sd.mk (Kd.R_after (ok:=(fun k_=>some k_≠(v484:Value).ownBlock)) (Kd.Rz HO_5.out) hg hat);replace HO_6:=Sd.mk (Kd.N_afterv (ok:=(fun k_=>some k_≠(.slice Ao68 t477.length co68:Value).ownBlock∧some k_≠(v484:Value).ownBlock∧some k_≠(v487:Value).ownBlock)) (Kd.Nz HO_6.out) hg hat);replace HO_7:=Sd.mk (Kd.R_after (ok:=(fun k_=>some k_≠(.slice Ao68 t477.length co68:Value).ownBlock)) (Kd.Rz HO_7.out) hg hat);replace HO_8:=Sd.mk (Kd.N_afterv (ok:=(fun k_=>some k_≠(.slice Ao68 t477.length co68:Value).ownBlock∧some k_≠(v481:Value).ownBlock∧some k_≠(v484:Value).ownBlock)) (Kd.Nz HO_8.out) hg hat);replace HO501:=Sd.mk (Kd.V_afterv (ok:=(fun k_=>some k_≠(v481:Value).ownBlock∧some k_≠(v484:Value).ownBlock∧some k_≠(v487:Value).ownBlock)) (Kd.Vz <| Kd.V_mono HO501.out (fun _ hk=>⟨⟨hk.1.2,⟨hk.1.1.1,hk.2⟩⟩,hk.1.1.2⟩)) hg hat);replace HB:=Sd.mk (hb);have HO504:=Sd.mk (ho);clear HO496;clear ho hb hg hat))
            have n0_:=Sd.mk (Kd.R_drew HO_5.out)
            have n1_:=Sd.mk (Kd.N_drew HO_6.out)
            have n2_:=Sd.mk (Kd.R_drew HO_7.out)
            have n3_:=Sd.mk (Kd.N_drew HO_8.out)
            have n4_:=Sd.mk (Kd.V_drew HO501.out)
            have n5_:=Sd.mk (Kd.R_drew HO504.out)
            have n6_:=Sd.mk (below_drew1 HB.out)
            clear HO_5
            clear HO_6
            clear HO_7
            clear HO_8
            clear HO501
            clear HO504
            clear HB
            have HO_5:=n0_
            have HO_6:=n1_
            have HO_7:=n2_
            have HO_8:=n3_
            have HO501:=n4_
            have HO504:=n5_
            have HB:=n6_
            clear n0_ n1_ n2_ n3_ n4_ n5_ n6_
            obtain⟨Ao71,co71,eo71⟩:=Kd.R_slice HO_7.out
            (first|subst eo71|(injection eo71 with f1_ f2_ f3_;have f4_:=f1_.symm;have f5_:=f3_.symm;clear f1_ f2_ f3_;subst f4_;subst f5_))
            obtain⟨Ao72,co72,eo72⟩:=Kd.N_slice HO_6.out
            (first|subst eo72|(injection eo72 with f1_ f2_ f3_;have f4_:=f1_.symm;have f5_:=f3_.symm;clear f1_ f2_ f3_;subst f4_;subst f5_))
            have p505:0≤(x9_4:Int):=dz
            have q505:x9_4<(t480.length:Int):=dz
            obtain⟨ad505,A505_0,c505_0,e505,hx505_0,hl505_0,hi505_0⟩:=at_L1 (Kd.N_reads' HO_6.out).2.2 x9_4 p505 q505
            cases e505
            obtain⟨ce505,hce505,hMe505,hcc505⟩:=Kd.N_get HO_6.out [] x9_4 p505 (by first|exact q505|exact dz|(have e_:=(Kd.N_reads' HO_6.out).1;omega))
            obtain⟨ua505_0,uc505_0,rfl,ul505_0,ge505_0⟩:=Kd.FK_slice_open hMe505
            have hv505_0:=hcc505 0 _ rfl
            rw[Nat.add_zero,show ((Kd.slice 3 (Kd.int .i64))).sz=1 from rfl,Nat.mul_one] at hv505_0
            replace hv505_0:=Option.some.inj (hv505_0.symm.trans hx505_0)
            injection hv505_0 with hva_ hvn_ hvc_
            rw[hva_] at ge505_0
            rw[hvc_] at ul505_0
            have HL505_0:=Sd.mk (show Kd.V (Kd.int .i64) 3 _ w.heap.size _ _ (rd_L1 t480 x9_4) from Kd.V_mk ul505_0 ge505_0)
            clear hva_ hvn_ hvc_ ge505_0 ul505_0
            clear hcc505 hce505
            have HR505_0:=Sd.mk hi505_0
            have HC505_0:=Sd.mk hl505_0
            clear hi505_0 hl505_0
            replace p505:=eq_true p505
            replace q505:=eq_true q505
            obtain⟨Ao73,co73,eo73⟩:=Kd.N_slice HO_8.out
            (first|subst eo73|(injection eo73 with f1_ f2_ f3_;have f4_:=f1_.symm;have f5_:=f3_.symm;clear f1_ f2_ f3_;subst f4_;subst f5_))
            have p506:0≤(x9_4:Int):=dz
            have q506:x9_4<(t486.length:Int):=dz
            obtain⟨ad506,A506_0,c506_0,e506,hx506_0,hl506_0,hi506_0⟩:=at_L1 (Kd.N_reads' HO_8.out).2.2 x9_4 p506 q506
            cases e506
            obtain⟨ce506,hce506,hMe506,hcc506⟩:=Kd.N_get HO_8.out [] x9_4 p506 (by first|exact q506|exact dz|(have e_:=(Kd.N_reads' HO_8.out).1;omega))
            obtain⟨ua506_0,uc506_0,rfl,ul506_0,ge506_0⟩:=Kd.FK_slice_open hMe506
            have hv506_0:=hcc506 0 _ rfl
            rw[Nat.add_zero,show ((Kd.slice 3 (Kd.int .i64))).sz=1 from rfl,Nat.mul_one] at hv506_0
            replace hv506_0:=Option.some.inj (hv506_0.symm.trans hx506_0)
            injection hv506_0 with hva_ hvn_ hvc_
            rw[hva_] at ge506_0
            rw[hvc_] at ul506_0
            have HL506_0:=Sd.mk (show Kd.V (Kd.int .i64) 3 _ w.heap.size _ _ (rd_L1 t486 x9_4) from Kd.V_mk ul506_0 ge506_0)
            clear hva_ hvn_ hvc_ ge506_0 ul506_0
            clear hcc506 hce506
            have HR506_0:=Sd.mk hi506_0
            have HC506_0:=Sd.mk hl506_0
            clear hi506_0 hl506_0
            replace p506:=eq_true p506
            replace q506:=eq_true q506
            refine start_ (n:=21) (S:=fun w'=>w'.cell? (ad505.add (x9_4).toNat)=some (.slice A505_0 (rd_L1 t480 x9_4).length c505_0)∧w'.cell? (ad506.add (x9_4).toNat)=some (.slice A506_0 (rd_L1 t486 x9_4).length c506_0)) (ds:=[]) #[F,F,F,F,F,F,F,F,F,F,F,F,F,F,F,F,F,F,F,F,F] (by kernel_rfl) rfl rfl ⟨hx505_0,hx506_0⟩ (fun hHeld=>?_);refine with_tabW spec_l2Minus.tab7 spec_l2Minus.bits7 (fun HT_ HW_=>?_)
            generalize w69.drew=w70 at HO_5 HO_6 HO_7 HO_8 HO501 HO504 HB HL505_0 HL506_0 HR505_0 HR506_0 hx505_0 hx506_0 hHeld ⊢
            refine pq 0 (some 60) HT_.out rfl rfl ?_
            refine pq 1 (some 61) HT_.out rfl rfl ?_
            refine pq 2 (some 62) HT_.out rfl rfl ?_
            refine pq 3 (some 63) HT_.out rfl rfl ?_
            refine pq 4 (some 64) HT_.out rfl rfl ?_
            refine pq 5 (some 65) HT_.out rfl rfl ?_
            refine pq 6 (some 66) HT_.out rfl rfl ?_
            refine pq 7 (some 67) HT_.out rfl rfl ?_
            refine pq 8 (some 68) HT_.out rfl rfl ?_
            refine pq 9 (some 69) HT_.out rfl rfl ?_
            refine pq 10 (some 70) HT_.out rfl rfl ?_
            refine pq 11 (some 71) HT_.out rfl rfl ?_
            refine pq 12 (some 72) HT_.out rfl rfl ?_
            refine pq 13 (some 73) HT_.out rfl rfl ?_
            refine pq 15 (some 75) HT_.out rfl rfl ?_
            refine pq 16 (some 76) HT_.out rfl rfl ?_
            refine pq 17 (some 77) HT_.out rfl rfl ?_
            refine take_ (i:=14) (N:=some 74) (v:=?_) (a':=?_) #[T,T,T,T,T,T,T,T,T,T,T,T,T,T,T,T,T,T,F,F,F] rfl rfl (take_ofW HT_.out HW_.out (by kernel_rfl)) (fun _ _ _ h=>h) (Or.inl ⟨by rfl,?_⟩) hHeld ?_ ?_
            rotate_left;(· rintro w' ⟨s0,s1⟩;go_simp;with_reducible rfl);rotate_left;(· simp only[Act.put,s1,s2,s3,i64_w,i32_w];rfl)
            refine take_ (i:=18) (N:=some 78) (v:=?_) (a':=?_) #[T,T,T,T,T,T,T,T,T,T,T,T,T,T,T,T,T,T,T,F,F] rfl rfl (take_ofW HT_.out HW_.out (by kernel_rfl)) (fun _ _ _ h=>h) (Or.inl ⟨by rfl,?_⟩) hHeld ?_ ?_
            rotate_left;(· rintro w' ⟨s0,s1⟩;go_simp;with_reducible rfl);rotate_left;(· simp only[Act.put,s1,s2,s3,i64_w,i32_w];rfl)
            refine one_ (i:=19) (N:=some 79) #[T,T,T,T,T,T,T,T,T,T,T,T,T,T,T,T,T,T,T,T,F] rfl rfl (one_of HT_.out (by kernel_rfl)) (by decide) (fun K hK=>?_)
            refine goes_ Try.func61 (by kernel_rfl) rfl #[.slice A505_0 (rd_L1 t480 x9_4).length c505_0,.slice A506_0 (rd_L1 t486 x9_4).length c506_0] (by rfl) rfl rfl az ?_
            with_reducible refine(spec_l1Same.calls kj4 _ _ (rd_L1 t480 x9_4) _ _ (rd_L1 t486 x9_4) false _ ?side1 ?side2 ?side3 ?side4 A41.out).mono ?_
            (case side1=>exact(Kd.Cz HR505_0.out))
            (case side2=>exact HC505_0.out)
            (case side3=>exact(Kd.Cz HR506_0.out))
            (case side4=>exact HC506_0.out)
            rintro e w' ⟨rfl,⟨nd,rfl⟩⟩
            refine⟨_,rfl,?_⟩
            refine hK.out _ _ ⟨hHeld.1,hHeld.2⟩ (fun hHeld=>?_)
            clear hK K
            refine norm_ (a':=?_) ?_ ?_
            rotate_left
            ·show Act.put _ (some 79) _=_
             simp only[Act.put,s1,s2,s3,i64_w,i32_w]
             rfl
            refine pq 20 (some 80) HT_.out rfl rfl ?_
            refine done_ (done_of HT_.out (by kernel_rfl)) ?_
            have q74:(x9_4:Int)≤((t480.length:Int):Int):=dz
            obtain⟨i074,hi074,_,hsz74,_⟩:=info_parts info22
            have hroom74:t480.length≤co72:=(Kd.N_reads' HO_6.out).2.1
            have hC74:Kd.F (Kd.slice 3 (Kd.int .i64)) _ _ (some ad505) t480.length t480:=(Kd.V_at (base:=w.heap.size) (Kd.N_V HO_6.out)).2.2
            have q074:(0:Int)≤(x9_4:Int):=dz
            have hcut74:=cut_from (P:=Try.prog) 52 22 .i64 Try.underlying52 hi074 1 hsz74 (some ad505) t480.length co72 x9_4 q074 q74
            have hr74:=Kd.F_cut (m:=(x9_4:Int).toNat) (c:=co72) hC74 (by omega) hroom74
            obtain⟨A74,hA74⟩:∃ Aq_,Aq_=(if co72=(x9_4:Int).toNat then(some ad505) else((some ad505):Option Addr).map (·.add ((x9_4:Int).toNat*1))):=⟨_,rfl⟩
            obtain⟨c74,hc74⟩:∃ cq_,cq_=co72-(x9_4:Int).toNat:=⟨_,rfl⟩
            have hy74:y519.length=t480.length-(x9_4:Int).toNat:=(by rw[Ny519.out,List.length_drop]<;>omega)
            rw[show (t480).drop (x9_4:Int).toNat=y519 from Ny519.out.symm] at hr74
            replace hr74:Kd.F (Kd.slice 3 (Kd.int .i64)) _ _ A74 y519.length y519:=(by rw[hA74];exact hr74)
            rw[← hy74,← hA74,← hc74] at hcut74
            have HO523:=Sd.mk (show Kd.V (Kd.slice 3 (Kd.int .i64)) 22 _ w.heap.size _ (.slice A74 y519.length c74) y519 from Kd.V_mk (by rw[hy74,hc74];exact Nat.sub_le_sub_right hroom74 _) hr74)
            have HC523:=Sd.mk (show y519.length≤c74 from by rw[hy74,hc74];exact Nat.sub_le_sub_right hroom74 _)
            clear hr74 hC74 hroom74 hi074 hsz74 hc74
            have KY74:=Sd.mk hy74
            have KA74:=Sd.mk hA74
            clear hy74 hA74
            replace q74:=eq_true q74
            obtain⟨Ao75,co75,eo75⟩:=Kd.R_slice HO504.out
            subst eo75
            try go_wp2_with (first|((with_reducible refine gate_callee (f:=54) rfl ?_);refine goesL_ (some 96) rfl rfl Try.func54 (by kernel_rfl) rfl #[.slice Ao75 y502.length co75,.slice A74 y519.length c74] rfl az ?_;(with_reducible refine(spec_l1Make.calls kj4 _ _ y502 _ _ y519 t524 _ ?side1 ?side2 ?side3 ?side4 A64.out).mono ?_);(case side1=>exact Kd.Cz (Kd.R_reads' HO504.out).2.2);(case side2=>exact(Kd.R_reads' HO504.out).2.1);(case side3=>exact Kd.Cz (Kd.V_reads' HO523.out).2.2);(case side4=>exact(Kd.V_reads' HO523.out).2.1);rintro e w76 ⟨v525,rfl,ho0,hb⟩;refine⟨_,rfl,?_⟩;replace HO_6:=Sd.mk (Kd.N_elder' (Kd.Nz HO_6.out) (Kd.R_base ho0) hb);replace HO_8:=Sd.mk (Kd.N_elder' (Kd.Nz HO_8.out) (Kd.R_base ho0) hb);replace HO501:=Sd.mk (Kd.V_elder' (Kd.Vz HO501.out) (Kd.R_base ho0) hb);replace HL505_0:=Sd.mk (Kd.V_elder' (Kd.Vz HL505_0.out) (Kd.R_base ho0) hb);replace HL506_0:=Sd.mk (Kd.V_elder' (Kd.Vz HL506_0.out) (Kd.R_base ho0) hb);replace HO523:=Sd.mk (Kd.V_elder' (Kd.Vz HO523.out) (Kd.R_base ho0) hb);have HO526:=Sd.mk (Kd.R_lower (Kd.R_new' (Kd.R_new' (Kd.R_new' ho0 (Kd.R_lt (Kd.Rz HO_5.out))) (Kd.R_lt (Kd.Rz HO_7.out))) (Kd.R_lt (Kd.Rz HO504.out))) (below_size bz));replace HO_5:=Sd.mk (Kd.R_elder' (Kd.Rz HO_5.out) (Kd.R_base ho0) hb);replace HO_7:=Sd.mk (Kd.R_elder' (Kd.Rz HO_7.out) (Kd.R_base ho0) hb);replace HO504:=Sd.mk (Kd.R_elder' (Kd.Rz HO504.out) (Kd.R_base ho0) hb);replace HR505_0:=Sd.mk (Kd.C_below (Kd.Cz HR505_0.out) hb);replace HR506_0:=Sd.mk (Kd.C_below (Kd.Cz HR506_0.out) hb);replace HB:=Sd.mk (below_step bz hb);(try clear hb);(try clear hb2);(try clear hk);(try clear hi);(try clear ho0)))
            go_ret
            exact⟨_,by first|rfl|(simp[errW_none,errW_some]<;>rfl)|(simp[*,errW_none,errW_some]<;>rfl),Kd.Rz <| Kd.R_mono HO526.out (fun _ hk=>trivial),bz⟩
           ·rw[if_neg c63] at H
            exact absurd H (by simp)
         ·rw[if_neg c40] at H
          exact absurd H (by simp)
        ·rw[if_neg c39] at H
         exact absurd H (by simp)
       ·rw[if_neg c38] at H
        have c38b0:decide (x9_4<(t483.length:Int))=false:=decide_eq_false c38
        clear c38
        have c77b0:=eq_true (dz:0≤x9_4)
        by_cases c78:x9_4≤(t480.length:Int)
        ·rw[if_pos c78] at H
         have c78b0:=eq_true c78
         have c78b1:decide (x9_4≤(t480.length:Int))=true:=decide_eq_true c78
         clear c78
         obtain⟨y527,hy527⟩:∃ y_:List (List Int),y_=(t480.drop (x9_4:Int).toNat):=⟨_,rfl⟩
         replace H:((spec_l1Make.f kj4 y502 y527).bind fun t532=>(some t532))=some r:=hz hy527 H
         have Ny527:=Sd.mk hy527
         clear hy527
         replace H:=Option.bind_eq_some_iff.mp H
         obtain⟨t532,A790,H⟩:=H
         replace H:(some t532)=some r:=H
         have A79:=Sd.mk A790
         clear A790
         obtain rfl:=Option.some.inj H
         try go_wp2_with (first|((with_reducible refine gate_dst (N:=55) rfl ?_);refine Kd.R_lit (Kd.int .i64) _ 3 ?hg (N:=55) ?hd (xs:=([]:List Int)) (inner:=[]) (ok:=fun _=>True) (okp:=fun _=>True) ?hr ?hp (fun _ hk=>hk) trivial (Below.refl _ _) (Nat.le_refl _) (by simp) ?_;(case hd=>rfl);(case hg=>rfl);(case hr=>first|(go_simp;done)|(go_simp;rfl));(case hp=>exact(Reps.none _ _));intro v495 w80 ho81 hb hg_ hnew_;clear hg_ hnew_;(first|rw[← Ny494.out] at ho81|(simp only[Int.reduceToNat] at ho81;rw[← Ny494.out] at ho81));replace HO_6:=Sd.mk (Kd.N_elder' (Kd.Nz HO_6.out) (Kd.R_base ho81) hb);replace HO_8:=Sd.mk (Kd.N_elder' (Kd.Nz HO_8.out) (Kd.R_base ho81) hb);have HO496:=Sd.mk (Kd.R_lower (Kd.R_new' (Kd.R_new' ho81 (Kd.R_lt (Kd.Rz HO_5.out))) (Kd.R_lt (Kd.Rz HO_7.out))) (below_size bz));replace HO_5:=Sd.mk (Kd.R_elder' (Kd.Rz HO_5.out) (Kd.R_base ho81) hb);replace HO_7:=Sd.mk (Kd.R_elder' (Kd.Rz HO_7.out) (Kd.R_base ho81) hb);replace HB:=Sd.mk (below_step bz hb);clear hb ho81;obtain⟨Ao83,co83,eo83⟩:=Kd.R_slice HO_5.out;subst eo83;have q82:(x9_4:Int)≤((t477.length:Int):Int):=dz;obtain⟨i082,hi082,_,hsz82,_⟩:=info_parts info3;have hroom82:t477.length≤co83:=(Kd.R_reads' HO_5.out).2.1;have hC82:Kd.F (Kd.int .i64) _ _ Ao83 t477.length t477:=(Kd.V_at (base:=w.heap.size) (Kd.R_V (Kd.R_apart' (Kd.R_apart' (HO_5.out) (Kd.N_typed HO_6.out) (by decide)) (Kd.N_typed HO_8.out) (by decide)))).2.2;have q082:(0:Int)≤(x9_4:Int):=dz;have hcut82:=cut_from (P:=Try.prog) 22 3 .i64 Try.underlying22 hi082 1 hsz82 Ao83 t477.length co83 x9_4 q082 q82;have hr82:=Kd.F_cut (m:=(x9_4:Int).toNat) (c:=co83) hC82 (by omega) hroom82;obtain⟨A82,hA82⟩:∃ Aq_,Aq_=(if co83=(x9_4:Int).toNat then Ao83 else(Ao83:Option Addr).map (·.add ((x9_4:Int).toNat*1))):=⟨_,rfl⟩;obtain⟨c82,hc82⟩:∃ cq_,cq_=co83-(x9_4:Int).toNat:=⟨_,rfl⟩;have hy82:y497.length=t477.length-(x9_4:Int).toNat:=(by rw[Ny497.out,List.length_drop]<;>omega);rw[show (t477).drop (x9_4:Int).toNat=y497 from Ny497.out.symm] at hr82;replace hr82:Kd.F (Kd.int .i64) _ _ A82 y497.length y497:=(by rw[hA82];exact hr82);rw[← hy82,← hA82,← hc82] at hcut82;have HO501:=Sd.mk (show Kd.V (Kd.int .i64) 3 _ w.heap.size _ (.slice A82 y497.length c82) y497 from Kd.V_mk (by rw[hy82,hc82];exact Nat.sub_le_sub_right hroom82 _) hr82);have HC501:=Sd.mk (show y497.length≤c82 from by rw[hy82,hc82];exact Nat.sub_le_sub_right hroom82 _);clear hr82 hC82 hroom82 hi082 hsz82 hc82;have KY82:=Sd.mk hy82;have KA82:=Sd.mk hA82;clear hy82 hA82;replace q82:=eq_true q82)|((with_reducible refine gate_builtin (b:=.append) (xs:=#[.tmp 55,.tmp 58]) rfl ?_);at_builtin;refine Kd.R_append_rows (Kd.int .i64) (w0:=w) w.heap.size rfl (.tmp 55) (.tmp 58) 22 3 (.int .i64 0) 8 rfl Try.underlying22 info3 rfl (by decide) (by omega) v495 y494 y497 _ _ _ (fun k_=>some k_≠(.slice Ao83 t477.length co83:Value).ownBlock∧some k_≠(v484:Value).ownBlock) (fun _=>False) rfl rfl ?aO ?aR (fun _ _ h=>h) (fun _ h=>h.elim) ?aF ?aB ?aS ?aL ?_;(case aR=>repeat (first|exact(Kd.V_reads' HO501.out).2.2|(with_reducible refine Kd.C_alloc ?_ _)|(with_reducible refine Kd.C_drewN ?_ _)|(with_reducible refine Kd.C_drew ?_)));(case aB=>exact bz);(case aF=>exact(fun k_ hk=>⟨Kd.fresh' (Kd.R_lt (Kd.Rz HO_5.out)) k_ hk,Kd.fresh' (Kd.R_lt (Kd.Rz HO_7.out)) k_ hk⟩));(case aO=>exact(Kd.Rz <| Kd.R_mono HO496.out (fun _ hk=>⟨hk.1.2,hk.2⟩)));(case aS=>exact(below_size bz));(case aL=>have:=LMc36.out;omega);intro v503 w84 ho hb hg hat;rw[← Ny502.out] at ho;replace HO_5:=Sd.mk (Kd.R_after (ok:=(fun k_=>some k_≠(v484:Value).ownBlock)) (Kd.Rz HO_5.out) hg hat);replace HO_6:=Sd.mk (Kd.N_afterv (ok:=(fun k_=>some k_≠(.slice Ao83 t477.length co83:Value).ownBlock∧some k_≠(v484:Value).ownBlock∧some k_≠(v487:Value).ownBlock)) (Kd.Nz HO_6.out) hg hat);replace HO_7:=Sd.mk (Kd.R_after (ok:=(fun k_=>some k_≠(.slice Ao83 t477.length co83:Value).ownBlock)) (Kd.Rz HO_7.out) hg hat);replace HO_8:=Sd.mk (Kd.N_afterv (ok:=(fun k_=>some k_≠(.slice Ao83 t477.length co83:Value).ownBlock∧some k_≠(v481:Value).ownBlock∧some k_≠(v484:Value).ownBlock)) (Kd.Nz HO_8.out) hg hat);replace HO501:=Sd.mk (Kd.V_afterv (ok:=(fun k_=>some k_≠(v481:Value).ownBlock∧some k_≠(v484:Value).ownBlock∧some k_≠(v487:Value).ownBlock)) (Kd.Vz <| Kd.V_mono HO501.out (fun _ hk=>⟨⟨hk.1.2,⟨hk.1.1.1,hk.2⟩⟩,hk.1.1.2⟩)) hg hat);replace HB:=Sd.mk (hb);have HO504:=Sd.mk (ho);clear HO496;clear ho hb hg hat))
         have n0_:=Sd.mk (Kd.R_drew HO_5.out)
         have n1_:=Sd.mk (Kd.N_drew HO_6.out)
         have n2_:=Sd.mk (Kd.R_drew HO_7.out)
         have n3_:=Sd.mk (Kd.N_drew HO_8.out)
         have n4_:=Sd.mk (Kd.V_drew HO501.out)
         have n5_:=Sd.mk (Kd.R_drew HO504.out)
         have n6_:=Sd.mk (below_drew1 HB.out)
         clear HO_5
         clear HO_6
         clear HO_7
         clear HO_8
         clear HO501
         clear HO504
         clear HB
         have HO_5:=n0_
         have HO_6:=n1_
         have HO_7:=n2_
         have HO_8:=n3_
         have HO501:=n4_
         have HO504:=n5_
         have HB:=n6_
         clear n0_ n1_ n2_ n3_ n4_ n5_ n6_
         obtain⟨Ao86,co86,eo86⟩:=Kd.R_slice HO_7.out
         (first|subst eo86|(injection eo86 with f1_ f2_ f3_;have f4_:=f1_.symm;have f5_:=f3_.symm;clear f1_ f2_ f3_;subst f4_;subst f5_))
         refine start_ (n:=21) (S:=fun w'=>True) (ds:=[]) #[F,F,F,F,F,F,F,F,F,F,F,F,F,F,F,F,F,F,F,F,F] (by kernel_rfl) rfl rfl trivial (fun hHeld=>?_);refine with_tabW spec_l2Minus.tab7 spec_l2Minus.bits7 (fun HT_ HW_=>?_)
         generalize w84.drew=w85 at HO_5 HO_6 HO_7 HO_8 HO501 HO504 HB hHeld ⊢
         refine pq 0 (some 60) HT_.out rfl rfl ?_
         refine pq 1 (some 61) HT_.out rfl rfl ?_
         refine pq 2 (some 62) HT_.out rfl rfl ?_
         refine pq 3 (some 63) HT_.out rfl rfl ?_
         refine pq 4 (some 64) HT_.out rfl rfl ?_
         refine pq 5 (some 65) HT_.out rfl rfl ?_
         refine pq 6 (some 66) HT_.out rfl rfl ?_
         refine pq 7 (some 67) HT_.out rfl rfl ?_
         refine pq 8 (some 68) HT_.out rfl rfl ?_
         refine pq 9 (some 69) HT_.out rfl rfl ?_
         refine pq 10 (some 70) HT_.out rfl rfl ?_
         refine pu 11 (some 71) HT_.out rfl rfl ?_
         refine pu 12 (some 72) HT_.out rfl rfl ?_
         refine pu 13 (some 73) HT_.out rfl rfl ?_
         refine pu 14 (some 74) HT_.out rfl rfl ?_
         refine pu 15 (some 75) HT_.out rfl rfl ?_
         refine pu 16 (some 76) HT_.out rfl rfl ?_
         refine pu 17 (some 77) HT_.out rfl rfl ?_
         refine pu 18 (some 78) HT_.out rfl rfl ?_
         refine pu 19 (some 79) HT_.out rfl rfl ?_
         refine pq 20 (some 80) HT_.out rfl rfl ?_
         refine done_ (done_of HT_.out (by kernel_rfl)) ?_
         obtain⟨Ao88,co88,eo88⟩:=Kd.N_slice HO_6.out
         subst eo88
         have q87:(x9_4:Int)≤((t480.length:Int):Int):=dz
         obtain⟨i087,hi087,_,hsz87,_⟩:=info_parts info22
         have hroom87:t480.length≤co88:=(Kd.N_reads' HO_6.out).2.1
         have hC87:Kd.F (Kd.slice 3 (Kd.int .i64)) _ _ Ao88 t480.length t480:=(Kd.V_at (base:=w.heap.size) (Kd.N_V HO_6.out)).2.2
         have q087:(0:Int)≤(x9_4:Int):=dz
         have hcut87:=cut_from (P:=Try.prog) 52 22 .i64 Try.underlying52 hi087 1 hsz87 Ao88 t480.length co88 x9_4 q087 q87
         have hr87:=Kd.F_cut (m:=(x9_4:Int).toNat) (c:=co88) hC87 (by omega) hroom87
         obtain⟨A87,hA87⟩:∃ Aq_,Aq_=(if co88=(x9_4:Int).toNat then Ao88 else(Ao88:Option Addr).map (·.add ((x9_4:Int).toNat*1))):=⟨_,rfl⟩
         obtain⟨c87,hc87⟩:∃ cq_,cq_=co88-(x9_4:Int).toNat:=⟨_,rfl⟩
         have hy87:y527.length=t480.length-(x9_4:Int).toNat:=(by rw[Ny527.out,List.length_drop]<;>omega)
         rw[show (t480).drop (x9_4:Int).toNat=y527 from Ny527.out.symm] at hr87
         replace hr87:Kd.F (Kd.slice 3 (Kd.int .i64)) _ _ A87 y527.length y527:=(by rw[hA87];exact hr87)
         rw[← hy87,← hA87,← hc87] at hcut87
         have HO531:=Sd.mk (show Kd.V (Kd.slice 3 (Kd.int .i64)) 22 _ w.heap.size _ (.slice A87 y527.length c87) y527 from Kd.V_mk (by rw[hy87,hc87];exact Nat.sub_le_sub_right hroom87 _) hr87)
         have HC531:=Sd.mk (show y527.length≤c87 from by rw[hy87,hc87];exact Nat.sub_le_sub_right hroom87 _)
         clear hr87 hC87 hroom87 hi087 hsz87 hc87
         have KY87:=Sd.mk hy87
         have KA87:=Sd.mk hA87
         clear hy87 hA87
         replace q87:=eq_true q87
         obtain⟨Ao89,co89,eo89⟩:=Kd.R_slice HO504.out
         subst eo89
         try go_wp2_with (first|((with_reducible refine gate_callee (f:=54) rfl ?_);refine goesL_ (some 96) rfl rfl Try.func54 (by kernel_rfl) rfl #[.slice Ao89 y502.length co89,.slice A87 y527.length c87] rfl az ?_;(with_reducible refine(spec_l1Make.calls kj4 _ _ y502 _ _ y527 t532 _ ?side1 ?side2 ?side3 ?side4 A79.out).mono ?_);(case side1=>exact Kd.Cz (Kd.R_reads' HO504.out).2.2);(case side2=>exact(Kd.R_reads' HO504.out).2.1);(case side3=>exact Kd.Cz (Kd.V_reads' HO531.out).2.2);(case side4=>exact(Kd.V_reads' HO531.out).2.1);rintro e w90 ⟨v533,rfl,ho0,hb⟩;refine⟨_,rfl,?_⟩;replace HO_6:=Sd.mk (Kd.N_elder' (Kd.Nz HO_6.out) (Kd.R_base ho0) hb);replace HO_8:=Sd.mk (Kd.N_elder' (Kd.Nz HO_8.out) (Kd.R_base ho0) hb);replace HO501:=Sd.mk (Kd.V_elder' (Kd.Vz HO501.out) (Kd.R_base ho0) hb);replace HO531:=Sd.mk (Kd.V_elder' (Kd.Vz HO531.out) (Kd.R_base ho0) hb);have HO534:=Sd.mk (Kd.R_lower (Kd.R_new' (Kd.R_new' (Kd.R_new' ho0 (Kd.R_lt (Kd.Rz HO_5.out))) (Kd.R_lt (Kd.Rz HO_7.out))) (Kd.R_lt (Kd.Rz HO504.out))) (below_size bz));replace HO_5:=Sd.mk (Kd.R_elder' (Kd.Rz HO_5.out) (Kd.R_base ho0) hb);replace HO_7:=Sd.mk (Kd.R_elder' (Kd.Rz HO_7.out) (Kd.R_base ho0) hb);replace HO504:=Sd.mk (Kd.R_elder' (Kd.Rz HO504.out) (Kd.R_base ho0) hb);replace HB:=Sd.mk (below_step bz hb);(try clear hb);(try clear hb2);(try clear hk);(try clear hi);(try clear ho0)))
         go_ret
         exact⟨_,by first|rfl|(simp[errW_none,errW_some]<;>rfl)|(simp[*,errW_none,errW_some]<;>rfl),Kd.Rz <| Kd.R_mono HO534.out (fun _ hk=>trivial),bz⟩
        ·rw[if_neg c78] at H
         exact absurd H (by simp)
      ·rw[if_neg c37] at H
       have c37b0:decide (x9_4<(t477.length:Int))=false:=decide_eq_false c37
       clear c37
       have c91b0:=eq_true (dz:0≤x9_4)
       by_cases c92:x9_4≤(t480.length:Int)
       ·rw[if_pos c92] at H
        have c92b0:=eq_true c92
        have c92b1:decide (x9_4≤(t480.length:Int))=true:=decide_eq_true c92
        clear c92
        obtain⟨y535,hy535⟩:∃ y_:List (List Int),y_=(t480.drop (x9_4:Int).toNat):=⟨_,rfl⟩
        replace H:((spec_l1Make.f kj4 y502 y535).bind fun t540=>(some t540))=some r:=hz hy535 H
        have Ny535:=Sd.mk hy535
        clear hy535
        replace H:=Option.bind_eq_some_iff.mp H
        obtain⟨t540,A930,H⟩:=H
        replace H:(some t540)=some r:=H
        have A93:=Sd.mk A930
        clear A930
        obtain rfl:=Option.some.inj H
        try go_wp2_with (first|((with_reducible refine gate_dst (N:=55) rfl ?_);refine Kd.R_lit (Kd.int .i64) _ 3 ?hg (N:=55) ?hd (xs:=([]:List Int)) (inner:=[]) (ok:=fun _=>True) (okp:=fun _=>True) ?hr ?hp (fun _ hk=>hk) trivial (Below.refl _ _) (Nat.le_refl _) (by simp) ?_;(case hd=>rfl);(case hg=>rfl);(case hr=>first|(go_simp;done)|(go_simp;rfl));(case hp=>exact(Reps.none _ _));intro v495 w94 ho95 hb hg_ hnew_;clear hg_ hnew_;(first|rw[← Ny494.out] at ho95|(simp only[Int.reduceToNat] at ho95;rw[← Ny494.out] at ho95));replace HO_6:=Sd.mk (Kd.N_elder' (Kd.Nz HO_6.out) (Kd.R_base ho95) hb);replace HO_8:=Sd.mk (Kd.N_elder' (Kd.Nz HO_8.out) (Kd.R_base ho95) hb);have HO496:=Sd.mk (Kd.R_lower (Kd.R_new' (Kd.R_new' ho95 (Kd.R_lt (Kd.Rz HO_5.out))) (Kd.R_lt (Kd.Rz HO_7.out))) (below_size bz));replace HO_5:=Sd.mk (Kd.R_elder' (Kd.Rz HO_5.out) (Kd.R_base ho95) hb);replace HO_7:=Sd.mk (Kd.R_elder' (Kd.Rz HO_7.out) (Kd.R_base ho95) hb);replace HB:=Sd.mk (below_step bz hb);clear hb ho95;obtain⟨Ao97,co97,eo97⟩:=Kd.R_slice HO_5.out;subst eo97;have q96:(x9_4:Int)≤((t477.length:Int):Int):=dz;obtain⟨i096,hi096,_,hsz96,_⟩:=info_parts info3;have hroom96:t477.length≤co97:=(Kd.R_reads' HO_5.out).2.1;have hC96:Kd.F (Kd.int .i64) _ _ Ao97 t477.length t477:=(Kd.V_at (base:=w.heap.size) (Kd.R_V (Kd.R_apart' (Kd.R_apart' (HO_5.out) (Kd.N_typed HO_6.out) (by decide)) (Kd.N_typed HO_8.out) (by decide)))).2.2;have q096:(0:Int)≤(x9_4:Int):=dz;have hcut96:=cut_from (P:=Try.prog) 22 3 .i64 Try.underlying22 hi096 1 hsz96 Ao97 t477.length co97 x9_4 q096 q96;have hr96:=Kd.F_cut (m:=(x9_4:Int).toNat) (c:=co97) hC96 (by omega) hroom96;obtain⟨A96,hA96⟩:∃ Aq_,Aq_=(if co97=(x9_4:Int).toNat then Ao97 else(Ao97:Option Addr).map (·.add ((x9_4:Int).toNat*1))):=⟨_,rfl⟩;obtain⟨c96,hc96⟩:∃ cq_,cq_=co97-(x9_4:Int).toNat:=⟨_,rfl⟩;have hy96:y497.length=t477.length-(x9_4:Int).toNat:=(by rw[Ny497.out,List.length_drop]<;>omega);rw[show (t477).drop (x9_4:Int).toNat=y497 from Ny497.out.symm] at hr96;replace hr96:Kd.F (Kd.int .i64) _ _ A96 y497.length y497:=(by rw[hA96];exact hr96);rw[← hy96,← hA96,← hc96] at hcut96;have HO501:=Sd.mk (show Kd.V (Kd.int .i64) 3 _ w.heap.size _ (.slice A96 y497.length c96) y497 from Kd.V_mk (by rw[hy96,hc96];exact Nat.sub_le_sub_right hroom96 _) hr96);have HC501:=Sd.mk (show y497.length≤c96 from by rw[hy96,hc96];exact Nat.sub_le_sub_right hroom96 _);clear hr96 hC96 hroom96 hi096 hsz96 hc96;have KY96:=Sd.mk hy96;have KA96:=Sd.mk hA96;clear hy96 hA96;replace q96:=eq_true q96)|((with_reducible refine gate_builtin (b:=.append) (xs:=#[.tmp 55,.tmp 58]) rfl ?_);at_builtin;refine Kd.R_append_rows (Kd.int .i64) (w0:=w) w.heap.size rfl (.tmp 55) (.tmp 58) 22 3 (.int .i64 0) 8 rfl Try.underlying22 info3 rfl (by decide) (by omega) v495 y494 y497 _ _ _ (fun k_=>some k_≠(.slice Ao97 t477.length co97:Value).ownBlock∧some k_≠(v484:Value).ownBlock) (fun _=>False) rfl rfl ?aO ?aR (fun _ _ h=>h) (fun _ h=>h.elim) ?aF ?aB ?aS ?aL ?_;(case aR=>repeat (first|exact(Kd.V_reads' HO501.out).2.2|(with_reducible refine Kd.C_alloc ?_ _)|(with_reducible refine Kd.C_drewN ?_ _)|(with_reducible refine Kd.C_drew ?_)));(case aB=>exact bz);(case aF=>exact(fun k_ hk=>⟨Kd.fresh' (Kd.R_lt (Kd.Rz HO_5.out)) k_ hk,Kd.fresh' (Kd.R_lt (Kd.Rz HO_7.out)) k_ hk⟩));(case aO=>exact(Kd.Rz <| Kd.R_mono HO496.out (fun _ hk=>⟨hk.1.2,hk.2⟩)));(case aS=>exact(below_size bz));(case aL=>have:=LMc36.out;omega);intro v503 w98 ho hb hg hat;rw[← Ny502.out] at ho;replace HO_5:=Sd.mk (Kd.R_after (ok:=(fun k_=>some k_≠(v484:Value).ownBlock)) (Kd.Rz HO_5.out) hg hat);replace HO_6:=Sd.mk (Kd.N_afterv (ok:=(fun k_=>some k_≠(.slice Ao97 t477.length co97:Value).ownBlock∧some k_≠(v484:Value).ownBlock∧some k_≠(v487:Value).ownBlock)) (Kd.Nz HO_6.out) hg hat);replace HO_7:=Sd.mk (Kd.R_after (ok:=(fun k_=>some k_≠(.slice Ao97 t477.length co97:Value).ownBlock)) (Kd.Rz HO_7.out) hg hat);replace HO_8:=Sd.mk (Kd.N_afterv (ok:=(fun k_=>some k_≠(.slice Ao97 t477.length co97:Value).ownBlock∧some k_≠(v481:Value).ownBlock∧some k_≠(v484:Value).ownBlock)) (Kd.Nz HO_8.out) hg hat);replace HO501:=Sd.mk (Kd.V_afterv (ok:=(fun k_=>some k_≠(v481:Value).ownBlock∧some k_≠(v484:Value).ownBlock∧some k_≠(v487:Value).ownBlock)) (Kd.Vz <| Kd.V_mono HO501.out (fun _ hk=>⟨⟨hk.1.2,⟨hk.1.1.1,hk.2⟩⟩,hk.1.1.2⟩)) hg hat);replace HB:=Sd.mk (hb);have HO504:=Sd.mk (ho);clear HO496;clear ho hb hg hat))
        have n0_:=Sd.mk (Kd.R_drew HO_5.out)
        have n1_:=Sd.mk (Kd.N_drew HO_6.out)
        have n2_:=Sd.mk (Kd.R_drew HO_7.out)
        have n3_:=Sd.mk (Kd.N_drew HO_8.out)
        have n4_:=Sd.mk (Kd.V_drew HO501.out)
        have n5_:=Sd.mk (Kd.R_drew HO504.out)
        have n6_:=Sd.mk (below_drew1 HB.out)
        clear HO_5
        clear HO_6
        clear HO_7
        clear HO_8
        clear HO501
        clear HO504
        clear HB
        have HO_5:=n0_
        have HO_6:=n1_
        have HO_7:=n2_
        have HO_8:=n3_
        have HO501:=n4_
        have HO504:=n5_
        have HB:=n6_
        clear n0_ n1_ n2_ n3_ n4_ n5_ n6_
        refine start_ (n:=21) (S:=fun w'=>True) (ds:=[]) #[F,F,F,F,F,F,F,F,F,F,F,F,F,F,F,F,F,F,F,F,F] (by kernel_rfl) rfl rfl trivial (fun hHeld=>?_);refine with_tabW spec_l2Minus.tab7 spec_l2Minus.bits7 (fun HT_ HW_=>?_)
        generalize w98.drew=w99 at HO_5 HO_6 HO_7 HO_8 HO501 HO504 HB hHeld ⊢
        refine pq 0 (some 60) HT_.out rfl rfl ?_
        refine pq 1 (some 61) HT_.out rfl rfl ?_
        refine pq 2 (some 62) HT_.out rfl rfl ?_
        refine pq 3 (some 63) HT_.out rfl rfl ?_
        refine pq 4 (some 64) HT_.out rfl rfl ?_
        refine pu 5 (some 65) HT_.out rfl rfl ?_
        refine pu 6 (some 66) HT_.out rfl rfl ?_
        refine pu 7 (some 67) HT_.out rfl rfl ?_
        refine pu 8 (some 68) HT_.out rfl rfl ?_
        refine pq 9 (some 69) HT_.out rfl rfl ?_
        refine pq 10 (some 70) HT_.out rfl rfl ?_
        refine pu 11 (some 71) HT_.out rfl rfl ?_
        refine pu 12 (some 72) HT_.out rfl rfl ?_
        refine pu 13 (some 73) HT_.out rfl rfl ?_
        refine pu 14 (some 74) HT_.out rfl rfl ?_
        refine pu 15 (some 75) HT_.out rfl rfl ?_
        refine pu 16 (some 76) HT_.out rfl rfl ?_
        refine pu 17 (some 77) HT_.out rfl rfl ?_
        refine pu 18 (some 78) HT_.out rfl rfl ?_
        refine pu 19 (some 79) HT_.out rfl rfl ?_
        refine pq 20 (some 80) HT_.out rfl rfl ?_
        refine done_ (done_of HT_.out (by kernel_rfl)) ?_
        obtain⟨Ao101,co101,eo101⟩:=Kd.N_slice HO_6.out
        subst eo101
        have q100:(x9_4:Int)≤((t480.length:Int):Int):=dz
        obtain⟨i0100,hi0100,_,hsz100,_⟩:=info_parts info22
        have hroom100:t480.length≤co101:=(Kd.N_reads' HO_6.out).2.1
        have hC100:Kd.F (Kd.slice 3 (Kd.int .i64)) _ _ Ao101 t480.length t480:=(Kd.V_at (base:=w.heap.size) (Kd.N_V HO_6.out)).2.2
        have q0100:(0:Int)≤(x9_4:Int):=dz
        have hcut100:=cut_from (P:=Try.prog) 52 22 .i64 Try.underlying52 hi0100 1 hsz100 Ao101 t480.length co101 x9_4 q0100 q100
        have hr100:=Kd.F_cut (m:=(x9_4:Int).toNat) (c:=co101) hC100 (by omega) hroom100
        obtain⟨A100,hA100⟩:∃ Aq_,Aq_=(if co101=(x9_4:Int).toNat then Ao101 else(Ao101:Option Addr).map (·.add ((x9_4:Int).toNat*1))):=⟨_,rfl⟩
        obtain⟨c100,hc100⟩:∃ cq_,cq_=co101-(x9_4:Int).toNat:=⟨_,rfl⟩
        have hy100:y535.length=t480.length-(x9_4:Int).toNat:=(by rw[Ny535.out,List.length_drop]<;>omega)
        rw[show (t480).drop (x9_4:Int).toNat=y535 from Ny535.out.symm] at hr100
        replace hr100:Kd.F (Kd.slice 3 (Kd.int .i64)) _ _ A100 y535.length y535:=(by rw[hA100];exact hr100)
        rw[← hy100,← hA100,← hc100] at hcut100
        have HO539:=Sd.mk (show Kd.V (Kd.slice 3 (Kd.int .i64)) 22 _ w.heap.size _ (.slice A100 y535.length c100) y535 from Kd.V_mk (by rw[hy100,hc100];exact Nat.sub_le_sub_right hroom100 _) hr100)
        have HC539:=Sd.mk (show y535.length≤c100 from by rw[hy100,hc100];exact Nat.sub_le_sub_right hroom100 _)
        clear hr100 hC100 hroom100 hi0100 hsz100 hc100
        have KY100:=Sd.mk hy100
        have KA100:=Sd.mk hA100
        clear hy100 hA100
        replace q100:=eq_true q100
        obtain⟨Ao102,co102,eo102⟩:=Kd.R_slice HO504.out
        subst eo102
        try go_wp2_with (first|((with_reducible refine gate_callee (f:=54) rfl ?_);refine goesL_ (some 96) rfl rfl Try.func54 (by kernel_rfl) rfl #[.slice Ao102 y502.length co102,.slice A100 y535.length c100] rfl az ?_;(with_reducible refine(spec_l1Make.calls kj4 _ _ y502 _ _ y535 t540 _ ?side1 ?side2 ?side3 ?side4 A93.out).mono ?_);(case side1=>exact Kd.Cz (Kd.R_reads' HO504.out).2.2);(case side2=>exact(Kd.R_reads' HO504.out).2.1);(case side3=>exact Kd.Cz (Kd.V_reads' HO539.out).2.2);(case side4=>exact(Kd.V_reads' HO539.out).2.1);rintro e w103 ⟨v541,rfl,ho0,hb⟩;refine⟨_,rfl,?_⟩;replace HO_6:=Sd.mk (Kd.N_elder' (Kd.Nz HO_6.out) (Kd.R_base ho0) hb);replace HO_8:=Sd.mk (Kd.N_elder' (Kd.Nz HO_8.out) (Kd.R_base ho0) hb);replace HO501:=Sd.mk (Kd.V_elder' (Kd.Vz HO501.out) (Kd.R_base ho0) hb);replace HO539:=Sd.mk (Kd.V_elder' (Kd.Vz HO539.out) (Kd.R_base ho0) hb);have HO542:=Sd.mk (Kd.R_lower (Kd.R_new' (Kd.R_new' (Kd.R_new' ho0 (Kd.R_lt (Kd.Rz HO_5.out))) (Kd.R_lt (Kd.Rz HO_7.out))) (Kd.R_lt (Kd.Rz HO504.out))) (below_size bz));replace HO_5:=Sd.mk (Kd.R_elder' (Kd.Rz HO_5.out) (Kd.R_base ho0) hb);replace HO_7:=Sd.mk (Kd.R_elder' (Kd.Rz HO_7.out) (Kd.R_base ho0) hb);replace HO504:=Sd.mk (Kd.R_elder' (Kd.Rz HO504.out) (Kd.R_base ho0) hb);replace HB:=Sd.mk (below_step bz hb);(try clear hb);(try clear hb2);(try clear hk);(try clear hi);(try clear ho0)))
        go_ret
        exact⟨_,by first|rfl|(simp[errW_none,errW_some]<;>rfl)|(simp[*,errW_none,errW_some]<;>rfl),Kd.Rz <| Kd.R_mono HO542.out (fun _ hk=>trivial),bz⟩
       ·rw[if_neg c92] at H
        exact absurd H (by simp)
     ·rw[if_neg c36] at H
      exact absurd H (by simp)
    ·rw[if_neg c35] at H
     exact absurd H (by simp)
   ·rw[if_neg c34] at H
    exact absurd H (by simp)
end Go.Proofs.Ytfblcanijhnhmaa.P