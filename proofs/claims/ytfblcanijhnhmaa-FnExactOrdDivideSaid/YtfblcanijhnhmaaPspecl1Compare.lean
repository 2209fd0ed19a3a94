/- One Go function comes to what its Lean function tells. -/
import Derived.Test.YtfblcanijhnhmaaP0
import Derived.Test.YtfblcanijhnhmaaPspecl1Terms
namespace Go.Proofs.Ytfblcanijhnhmaa.P
open Go.RowKit YtfblcanijhnhmaaW.PrintWords YtfblcanijhnhmaaW.PrintLast YtfblcanijhnhmaaW.PrintMore
set_option linter.unusedVariables false
set_option linter.unusedSimpArgs false
/-! ### spec_l1Compare: function 53 -/
mutual
def spec_l1Compare.l0:Nat→List Int→List (List Int)→List Int→List (List Int)→Int→Option (Int)
 | 0,_,_,_,_,_=>none
 | k+1,x5,x6,x7,x8,x9=>if x9<(x5.length:Int) then(spec_l1Compare.j1 k x5 x6 x7 x8 x9 (decide (x9<(x7.length:Int)))) else(spec_l1Compare.j1 k x5 x6 x7 x8 x9 false)
def spec_l1Compare.j1:Nat→List Int→List (List Int)→List Int→List (List Int)→Int→Bool→Option (Int)
 | 0,_,_,_,_,_,_=>none
 | k+1,x5,x6,x7,x8,x9,x30=>if x30=true then(if 0≤x9 then(if x9<(x6.length:Int) then(if x9<(x8.length:Int) then((spec_l1Compare.f k (rd_L1 x6 x9) (rd_L1 x8 x9)).bind fun t145=>(if t145=0 then(if x9<(x5.length:Int) then(if x9<(x7.length:Int) then(if(rd x5 x9)=(rd x7 x9) then(spec_l1Compare.l0 k x5 x6 x7 x8 (wrap64 (x9+1))) else(if(rd x5 x9)<(rd x7 x9) then(some (-1)) else(some 1))) else(none)) else(none)) else(some t145))) else(none)) else(none)) else(none)) else(if(x5.length:Int)<(x7.length:Int) then(some (-1)) else(if(x5.length:Int)>(x7.length:Int) then(some 1) else(some 0)))
def spec_l1Compare.f:Nat→List Int→List Int→Option (Int)
 | 0,_,_=>none
 | k+1,l0,l1=>(spec_l1Terms.f k l0).bind fun bt131=>((spec_l1Terms.f k l1).bind fun bt137=>(spec_l1Compare.l0 k bt131.1 bt131.2 bt137.1 bt137.2 0))
end
theorem spec_l1Compare.mono_l:∀ k,(∀ y0 y1,LeO (spec_l1Compare.f k y0 y1) (spec_l1Compare.f (k+1) y0 y1))∧(∀ y0 y1 y2 y3 y4,LeO (spec_l1Compare.l0 k y0 y1 y2 y3 y4) (spec_l1Compare.l0 (k+1) y0 y1 y2 y3 y4))∧(∀ y0 y1 y2 y3 y4 y5,LeO (spec_l1Compare.j1 k y0 y1 y2 y3 y4 y5) (spec_l1Compare.j1 (k+1) y0 y1 y2 y3 y4 y5))
 | 0=>⟨fun _ _ r h=>by simp[spec_l1Compare.f] at h,fun _ _ _ _ _ r h=>by simp[spec_l1Compare.l0] at h,fun _ _ _ _ _ _ r h=>by simp[spec_l1Compare.j1] at h⟩
 | k+1=>by
  obtain⟨ih0,ih1,ih2⟩:=spec_l1Compare.mono_l k
  refine⟨?_,?_,?_⟩
  ·intro y0 y1
   unfold spec_l1Compare.f
   repeat' first|(with_reducible first|exact ih0 _ _|exact ih1 _ _ _ _ _|exact spec_l1Terms.mono _ _|exact LeO.refl _|exact LeO.none _|refine LeO.ite ?_ ?_|refine LeO.bind ?_ (fun _=>?_))|exact ih0 _ _|exact ih1 _ _ _ _ _|exact spec_l1Terms.mono _ _|exact LeO.none _|refine LeO.ite ?_ ?_|refine LeO.bind ?_ (fun _=>?_)
  ·intro y0 y1 y2 y3 y4
   unfold spec_l1Compare.l0
   repeat' first|(with_reducible first|exact ih1 _ _ _ _ _|exact ih2 _ _ _ _ _ _|exact LeO.refl _|exact LeO.none _|refine LeO.ite ?_ ?_|refine LeO.bind ?_ (fun _=>?_))|exact ih1 _ _ _ _ _|exact ih2 _ _ _ _ _ _|exact LeO.none _|refine LeO.ite ?_ ?_|refine LeO.bind ?_ (fun _=>?_)
  ·intro y0 y1 y2 y3 y4 y5
   unfold spec_l1Compare.j1
   repeat' first|(with_reducible first|exact ih0 _ _|exact ih1 _ _ _ _ _|exact ih2 _ _ _ _ _ _|exact LeO.refl _|exact LeO.none _|refine LeO.ite ?_ ?_|refine LeO.bind ?_ (fun _=>?_))|exact ih0 _ _|exact ih1 _ _ _ _ _|exact ih2 _ _ _ _ _ _|exact LeO.none _|refine LeO.ite ?_ ?_|refine LeO.bind ?_ (fun _=>?_)
theorem spec_l1Compare.mono:∀ a0 a1 k,LeO (spec_l1Compare.f k a0 a1) (spec_l1Compare.f (k+1) a0 a1):=by
 intro a0 a1 k;obtain⟨ih0,ih1,ih2⟩:=spec_l1Compare.mono_l k;exact ih0 a0 a1
def spec_l1Compare.T6:Bool × List (List Nat × List Nat):=(true,[([],[]),([],[]),([0,1],[0,1]),([2],[2]),([],[]),([],[]),([4,5],[4,5]),([6],[6]),([3,7],[3,7]),([8,8,0,1,2,3,4,5,6,7,8],[8])])
def spec_l1Compare.B6:List Nat:=[0,0,3,7,0,0,48,112,255,511]
theorem spec_l1Compare.tab6:rtab .any (opsOf Try.f53 6)=spec_l1Compare.T6:=by kernel_rfl
theorem spec_l1Compare.bits6:waitsOk spec_l1Compare.T6.2 spec_l1Compare.B6=true:=by kernel_rfl
def spec_l1Compare.T9:Bool × List (List Nat × List Nat):=(true,[([],[]),([],[]),([0,1],[0,1]),([2],[2]),([],[]),([],[]),([4,5],[4,5]),([6],[6]),([3,7],[3,7])])
def spec_l1Compare.B9:List Nat:=[0,0,3,7,0,0,48,112,255]
theorem spec_l1Compare.tab9:rtab .any (opsOf Try.f53 9)=spec_l1Compare.T9:=by kernel_rfl
theorem spec_l1Compare.bits9:waitsOk spec_l1Compare.T9.2 spec_l1Compare.B9=true:=by kernel_rfl
def spec_l1Compare.T10:Bool × List (List Nat × List Nat):=(true,[([],[]),([],[]),([0,1],[0,1]),([2],[2]),([],[]),([],[]),([4,5],[4,5]),([6],[6]),([3,7],[3,7])])
def spec_l1Compare.B10:List Nat:=[0,0,3,7,0,0,48,112,255]
theorem spec_l1Compare.tab10:rtab .any (opsOf Try.f53 10)=spec_l1Compare.T10:=by kernel_rfl
theorem spec_l1Compare.bits10:waitsOk spec_l1Compare.T10.2 spec_l1Compare.B10=true:=by kernel_rfl
set_option maxHeartbeats 8000000 in
set_option maxRecDepth 100000 in
theorem spec_l1Compare.calls (k:Nat):∀ (A0:Option Addr) (c0:Nat) (l0:List Int) (A1:Option Addr) (c1:Nat) (l1:List Int) (r:Int) (w:World) (hr0:Kd.C (Kd.int .i64) w A0 l0.length l0) (hc0:l0.length≤c0) (hr1:Kd.C (Kd.int .i64) w A1 l1.length l1) (hc1:l1.length≤c1) (h:spec_l1Compare.f k l0 l1=some r),
  Calls Try.prog 53 #[.slice A0 l0.length c0,.slice A1 l1.length c1] w fun e w'=>e=.returned (.int .i64 r)∧Below w.heap.size w w':=by
 induction k using Nat.strongRecOn with
 | _ k ih =>
 intro A0 c0 l0 A1 c1 l1 r w hr0 hc0 hr1 hc1 h
 cases k with
 | zero=>exact absurd h (by simp[spec_l1Compare.f])
 | succ k =>
 simp only[spec_l1Compare.f] at h;have HR0:=Sd.mk hr0;have HC0:=Sd.mk hc0;clear hr0 hc0;have HR1:=Sd.mk hr1;have HC1:=Sd.mk hc1;clear hr1 hc1;have HB:=Sd.mk (Below.refl w.heap.size w);have H:((spec_l1Terms.f k l0).bind fun bt131=>((spec_l1Terms.f k l1).bind fun bt137=>(spec_l1Compare.l0 k bt131.1 bt131.2 bt137.1 bt137.2 0)))=some r:=h;clear h;replace H:=Option.bind_eq_some_iff.mp H;obtain⟨⟨t131,t134⟩,A30,H⟩:=H;replace H:((spec_l1Terms.f k l1).bind fun bt137=>(spec_l1Compare.l0 k t131 t134 bt137.1 bt137.2 0))=some r:=H;have A3:=Sd.mk A30;clear A30;replace H:=Option.bind_eq_some_iff.mp H;obtain⟨⟨t137,t140⟩,A40,H⟩:=H;replace H:(spec_l1Compare.l0 k t131 t134 t137 t140 0)=some r:=H;have A4:=Sd.mk A40;clear A40;have H':=Sd.mk H;clear H;go_enter Try.func53,Try.ntmps53;go_wp2_with (first|((with_reducible refine gate_callee (f:=52) rfl ?_);refine goesL_ (some 13) rfl rfl Try.func52 (by kernel_rfl) rfl #[.slice A0 l0.length c0] rfl az ?_;(with_reducible refine(spec_l1Terms.calls k (fun k_=>k_<w.heap.size) _ _ l0 t131 t134 _ ?side1 A3.out).mono ?_);(case side1=>exact Kd.V_mk HC0.out (Kd.F_below (Kd.C_F (Kd.heap_int .i64) HR0.out) bz));rintro e w5 ⟨v132,v135,rfl,ho0,ho1,hb⟩;refine⟨_,rfl,?_⟩;have HO133:=Sd.mk (Kd.R_lower (Kd.R_mono (ok':=fun k_=>True) ho0 (fun _ hk_=>trivial)) (below_size bz));have HO136:=Sd.mk (Kd.N_lower (Kd.N_mono (ok':=fun k_=>some k_≠(v132:Value).ownBlock) ho1 (fun k_ hk_=>hk_.2)) (below_size bz));replace HB:=Sd.mk (below_step bz hb);(try clear hb);(try clear hb2);(try clear hk);(try clear hi);(try clear ho0);(try clear ho1))|((with_reducible refine gate_callee (f:=52) rfl ?_);refine goesL_ (some 18) rfl rfl Try.func52 (by kernel_rfl) rfl #[.slice A1 l1.length c1] rfl az ?_;(with_reducible refine(spec_l1Terms.calls k (fun k_=>k_<w.heap.size) _ _ l1 t137 t140 _ ?side1 A4.out).mono ?_);(case side1=>exact Kd.V_mk HC1.out (Kd.F_below (Kd.C_F (Kd.heap_int .i64) HR1.out) bz));rintro e w6 ⟨v138,v141,rfl,ho0,ho1,hb⟩;refine⟨_,rfl,?_⟩;have HO139:=Sd.mk (Kd.R_lower (Kd.R_new' (Kd.R_mono (ok':=fun k_=>True) ho0 (fun _ hk_=>trivial)) (Kd.R_lt (Kd.Rz HO133.out))) (below_size bz));have HO142:=Sd.mk (Kd.N_lower (Kd.N_mono (ok':=fun k_=>some k_≠(v138:Value).ownBlock∧some k_≠(v132:Value).ownBlock∧some k_≠(v135:Value).ownBlock) ho1 (fun k_ hk_=>⟨hk_.2,Or.elim hk_.1 (fun hs_=>fun e_=>Nat.not_le.2 hs_ (Kd.R_base HO133.out k_ e_.symm)) (fun hn_=>(Kd.fresh' (Kd.R_lt (Kd.Rz HO133.out)) k_ hn_)),Or.elim hk_.1 (fun hs_=>fun e_=>Nat.not_le.2 hs_ (Kd.N_base HO136.out k_ e_.symm)) (fun hn_=>(Kd.fresh' (Kd.N_lt (Kd.Nz HO136.out)) k_ hn_))⟩)) (below_size bz));replace HO133:=Sd.mk (Kd.R_elder' (Kd.Rz HO133.out) (Kd.R_base ho0) hb);replace HO136:=Sd.mk (Kd.N_mono (Kd.N_told (Kd.N_told (Kd.N_old (Kd.Nz HO136.out) hb) (Kd.R_base ho0)) (Kd.N_base ho1)) (fun _ h_=>h_.1));replace HB:=Sd.mk (below_step bz hb);(try clear hb);(try clear hb2);(try clear hk);(try clear hi);(try clear ho0);(try clear ho1)))
 go_loopg [9] k (fun kq v9 w'=>∃ (x9_1:Int),v9=.int .i64 x9_1∧Sd (spec_l1Compare.l0 kq t131 t134 t137 t140 x9_1=some r)∧Sd (kq≤k)∧Sd (Kd.R (Kd.int .i64) 3 w' w.heap.size (fun k_=>some k_≠(v138:Value).ownBlock) v132 t131)∧Sd (Kd.N (Kd.slice 3 (Kd.int .i64)) 22 w' w.heap.size (fun k_=>some k_≠(v132:Value).ownBlock∧some k_≠(v138:Value).ownBlock∧some k_≠(v141:Value).ownBlock) v135 t134)∧Sd (Kd.R (Kd.int .i64) 3 w' w.heap.size (fun k_=>some k_≠(v132:Value).ownBlock) v138 t137)∧Sd (Kd.N (Kd.slice 3 (Kd.int .i64)) 22 w' w.heap.size (fun k_=>some k_≠(v132:Value).ownBlock∧some k_≠(v135:Value).ownBlock∧some k_≠(v138:Value).ownBlock) v141 t140)∧Sd (Below w.heap.size w w'))
 case atStart=>exact⟨(0),(by first|rfl|(simp;done)|(simp[*];done)),H',⟨Nat.le_refl _⟩,⟨Kd.Rz <| Kd.R_mono HO133.out (fun _ hk=>hk.2)⟩,⟨Kd.Nz <| Kd.N_mono HO136.out (fun _ hk=>⟨hk.1.1,⟨hk.1.2,hk.2⟩⟩)⟩,⟨Kd.Rz <| Kd.R_mono HO139.out (fun _ hk=>hk.2)⟩,⟨Kd.Nz <| Kd.N_mono HO142.out (fun _ hk=>⟨hk.2.1,⟨hk.2.2,hk.1⟩⟩)⟩,⟨bz⟩⟩
 case round =>
  clear H'
  try clear c1
  try clear p2
  try clear c5
  obtain⟨x9_1,rfl,HA,HK1,HO_5,HO_6,HO_7,HO_8,HB⟩:=hrel
  cases gk with
  | zero=>exact absurd HA.out (by simp[spec_l1Compare.l0])
  | succ k1 =>
   have H:=HA.out;clear HA;simp only[spec_l1Compare.l0] at H;have HC7:=Sd.mk H;clear H
   go_upto_region 4 with (fail)
   go_cut [30] (fun v30 wc=>∃ (kq:Nat) (x30_6:Bool),v30=.bool x30_6∧Sd (spec_l1Compare.j1 kq t131 t134 t137 t140 x9_1 x30_6=some r)∧Sd (kq≤k1)∧Sd (Kd.R (Kd.int .i64) 3 wc w.heap.size (fun k_=>some k_≠(v138:Value).ownBlock) v132 t131)∧Sd (Kd.N (Kd.slice 3 (Kd.int .i64)) 22 wc w.heap.size (fun k_=>some k_≠(v132:Value).ownBlock∧some k_≠(v138:Value).ownBlock∧some k_≠(v141:Value).ownBlock) v135 t134)∧Sd (Kd.R (Kd.int .i64) 3 wc w.heap.size (fun k_=>some k_≠(v132:Value).ownBlock) v138 t137)∧Sd (Kd.N (Kd.slice 3 (Kd.int .i64)) 22 wc w.heap.size (fun k_=>some k_≠(v132:Value).ownBlock∧some k_≠(v135:Value).ownBlock∧some k_≠(v138:Value).ownBlock) v141 t140)∧Sd (Below w.heap.size w wc))
   case first =>
    have H:=HC7.out;clear HC7
    by_cases c8:x9_1<(t131.length:Int)
    ·rw[if_pos c8] at H
     have c8b0:decide (x9_1<(t131.length:Int))=true:=decide_eq_true c8;clear c8
     (first|rw[c8b0]|(simp only[i64_w,i32_w];rw[c8b0])|skip)
     have H':=Sd.mk H;clear H;obtain⟨Ao9,co9,eo9⟩:=Kd.R_slice HO_5.out;subst eo9;obtain⟨Ao10,co10,eo10⟩:=Kd.R_slice HO_7.out;subst eo10;go_wp2;go_meet
     case rel=>exact⟨_,(decide (x9_1<(t137.length:Int))),(by first|rfl|(simp;done)|(simp[*];done)),H',⟨by have:=HK1.out;first|omega|exact Nat.le_refl _⟩,⟨by(with_reducible repeat (first|apply Kd.R_alloc|apply Kd.R_drewN|apply Kd.R_drew));exact HO_5.out⟩,⟨by(with_reducible repeat (first|apply Kd.N_alloc|apply Kd.N_drewN|apply Kd.N_drew));exact HO_6.out⟩,⟨by(with_reducible repeat (first|apply Kd.R_alloc|apply Kd.R_drewN|apply Kd.R_drew));exact HO_7.out⟩,⟨by(with_reducible repeat (first|apply Kd.N_alloc|apply Kd.N_drewN|apply Kd.N_drew));exact HO_8.out⟩,⟨bz⟩⟩
    ·rw[if_neg c8] at H
     have c8b0:decide (x9_1<(t131.length:Int))=false:=decide_eq_false c8;clear c8
     (first|rw[c8b0]|(simp only[i64_w,i32_w];rw[c8b0])|skip)
     have H':=Sd.mk H;clear H;obtain⟨Ao11,co11,eo11⟩:=Kd.R_slice HO_5.out;subst eo11;go_wp2;go_meet
     case rel=>exact⟨_,(false),(by first|rfl|(simp;done)|(simp[*];done)),H',⟨by have:=HK1.out;first|omega|exact Nat.le_refl _⟩,⟨by(with_reducible repeat (first|apply Kd.R_alloc|apply Kd.R_drewN|apply Kd.R_drew));exact HO_5.out⟩,⟨by(with_reducible repeat (first|apply Kd.N_alloc|apply Kd.N_drewN|apply Kd.N_drew));exact HO_6.out⟩,⟨by(with_reducible repeat (first|apply Kd.R_alloc|apply Kd.R_drewN|apply Kd.R_drew));exact HO_7.out⟩,⟨by(with_reducible repeat (first|apply Kd.N_alloc|apply Kd.N_drewN|apply Kd.N_drew));exact HO_8.out⟩,⟨bz⟩⟩
   case rest =>
    clear HC7
    try clear c1
    try clear p2
    try clear c5
    try clear c8
    try clear c8b0
    try clear p2
    obtain⟨kq,x30_6,rfl,HA,HJ6,HO_5,HO_6,HO_7,HO_8,HB⟩:=hcut
    cases kq with
    | zero=>exact absurd HA.out (by simp[spec_l1Compare.j1])
    | succ kj6 =>
     have H:=HA.out;clear HA;simp only[spec_l1Compare.j1] at H
     by_cases c12:x30_6=true
     ·subst c12
      have H1:(if 0≤x9_1 then(if x9_1<(t134.length:Int) then(if x9_1<(t140.length:Int) then((spec_l1Compare.f kj6 (rd_L1 t134 x9_1) (rd_L1 t140 x9_1)).bind fun t145=>(if t145=0 then(if x9_1<(t131.length:Int) then(if x9_1<(t137.length:Int) then(if(rd t131 x9_1)=(rd t137 x9_1) then(spec_l1Compare.l0 kj6 t131 t134 t137 t140 (wrap64 (x9_1+1))) else(if(rd t131 x9_1)<(rd t137 x9_1) then(some (-1)) else(some 1))) else(none)) else(none)) else(some t145))) else(none)) else(none)) else(none))=some r:=by rw[if_pos rfl] at H;exact H
      clear H;have H:=H1;clear H1
      by_cases c13:0≤x9_1
      ·rw[if_pos c13] at H
       have c13b0:decide (0≤x9_1)=true:=decide_eq_true c13;clear c13
       by_cases c14:x9_1<(t134.length:Int)
       ·rw[if_pos c14] at H
        have c14b0:decide (x9_1<(t134.length:Int))=true:=decide_eq_true c14;clear c14
        by_cases c15:x9_1<(t140.length:Int)
        ·rw[if_pos c15] at H
         have c15b0:decide (x9_1<(t140.length:Int))=true:=decide_eq_true c15;clear c15;replace H:=Option.bind_eq_some_iff.mp H;obtain⟨t145,A160,H⟩:=H;replace H:(if t145=0 then(if x9_1<(t131.length:Int) then(if x9_1<(t137.length:Int) then(if(rd t131 x9_1)=(rd t137 x9_1) then(spec_l1Compare.l0 kj6 t131 t134 t137 t140 (wrap64 (x9_1+1))) else(if(rd t131 x9_1)<(rd t137 x9_1) then(some (-1)) else(some 1))) else(none)) else(none)) else(some t145))=some r:=H;have A16:=Sd.mk A160;clear A160
         by_cases c17:t145=0
         ·rw[if_pos c17] at H
          have c17b0:(t145 == 0)=true:=beq_iff_eq.mpr c17;have c17b1:(t145 != 0)=false:=bne_eq_false_iff_eq.mpr c17;clear c17
          by_cases c18:x9_1<(t131.length:Int)
          ·rw[if_pos c18] at H
           have c18b0:decide (x9_1<(t131.length:Int))=true:=decide_eq_true c18;clear c18
           by_cases c19:x9_1<(t137.length:Int)
           ·rw[if_pos c19] at H
            have c19b0:decide (x9_1<(t137.length:Int))=true:=decide_eq_true c19;clear c19
            by_cases c20:(rd t131 x9_1)=(rd t137 x9_1)
            ·rw[if_pos c20] at H
             have c20b0:((rd t131 x9_1) == (rd t137 x9_1))=true:=beq_iff_eq.mpr c20;have c20b1:((rd t131 x9_1) != (rd t137 x9_1))=false:=bne_eq_false_iff_eq.mpr c20;clear c20;have H':=Sd.mk H;clear H
             try go_wp2
             have n0_:=Sd.mk (Kd.R_drew HO_5.out);have n1_:=Sd.mk (Kd.N_drew HO_6.out);have n2_:=Sd.mk (Kd.R_drew HO_7.out);have n3_:=Sd.mk (Kd.N_drew HO_8.out);have n4_:=Sd.mk (below_drew1 HB.out);clear HO_5;clear HO_6;clear HO_7;clear HO_8;clear HB;have HO_5:=n0_;have HO_6:=n1_;have HO_7:=n2_;have HO_8:=n3_;have HB:=n4_;clear n0_ n1_ n2_ n3_ n4_;obtain⟨Ao22,co22,eo22⟩:=Kd.N_slice HO_6.out
             (first|subst eo22|(injection eo22 with f1_ f2_ f3_;have f4_:=f1_.symm;have f5_:=f3_.symm;clear f1_ f2_ f3_;subst f4_;subst f5_))
             have p143:0≤(x9_1:Int):=dz;have q143:x9_1<(t134.length:Int):=dz;obtain⟨ad143,A143_0,c143_0,e143,hx143_0,hl143_0,hi143_0⟩:=at_L1 (Kd.N_reads' HO_6.out).2.2 x9_1 p143 q143;cases e143;obtain⟨ce143,hce143,hMe143,hcc143⟩:=Kd.N_get HO_6.out [] x9_1 p143 (by first|exact q143|exact dz|(have e_:=(Kd.N_reads' HO_6.out).1;omega));obtain⟨ua143_0,uc143_0,rfl,ul143_0,ge143_0⟩:=Kd.FK_slice_open hMe143;have hv143_0:=hcc143 0 _ rfl;rw[Nat.add_zero,show ((Kd.slice 3 (Kd.int .i64))).sz=1 from rfl,Nat.mul_one] at hv143_0;replace hv143_0:=Option.some.inj (hv143_0.symm.trans hx143_0)
             injection hv143_0 with hva_ hvn_ hvc_
             rw[hva_] at ge143_0;rw[hvc_] at ul143_0;have HL143_0:=Sd.mk (show Kd.V (Kd.int .i64) 3 _ w.heap.size _ _ (rd_L1 t134 x9_1) from Kd.V_mk ul143_0 ge143_0);clear hva_ hvn_ hvc_ ge143_0 ul143_0;clear hcc143 hce143;have HR143_0:=Sd.mk hi143_0;have HC143_0:=Sd.mk hl143_0;clear hi143_0 hl143_0;replace p143:=eq_true p143;replace q143:=eq_true q143;obtain⟨Ao23,co23,eo23⟩:=Kd.N_slice HO_8.out
             (first|subst eo23|(injection eo23 with f1_ f2_ f3_;have f4_:=f1_.symm;have f5_:=f3_.symm;clear f1_ f2_ f3_;subst f4_;subst f5_))
             have p144:0≤(x9_1:Int):=dz;have q144:x9_1<(t140.length:Int):=dz;obtain⟨ad144,A144_0,c144_0,e144,hx144_0,hl144_0,hi144_0⟩:=at_L1 (Kd.N_reads' HO_8.out).2.2 x9_1 p144 q144;cases e144;obtain⟨ce144,hce144,hMe144,hcc144⟩:=Kd.N_get HO_8.out [] x9_1 p144 (by first|exact q144|exact dz|(have e_:=(Kd.N_reads' HO_8.out).1;omega));obtain⟨ua144_0,uc144_0,rfl,ul144_0,ge144_0⟩:=Kd.FK_slice_open hMe144;have hv144_0:=hcc144 0 _ rfl;rw[Nat.add_zero,show ((Kd.slice 3 (Kd.int .i64))).sz=1 from rfl,Nat.mul_one] at hv144_0;replace hv144_0:=Option.some.inj (hv144_0.symm.trans hx144_0)
             injection hv144_0 with hva_ hvn_ hvc_
             rw[hva_] at ge144_0;rw[hvc_] at ul144_0;have HL144_0:=Sd.mk (show Kd.V (Kd.int .i64) 3 _ w.heap.size _ _ (rd_L1 t140 x9_1) from Kd.V_mk ul144_0 ge144_0);clear hva_ hvn_ hvc_ ge144_0 ul144_0;clear hcc144 hce144;have HR144_0:=Sd.mk hi144_0;have HC144_0:=Sd.mk hl144_0;clear hi144_0 hl144_0;replace p144:=eq_true p144;replace q144:=eq_true q144;refine start_ (n:=10) (S:=fun w'=>w'.cell? (ad143.add (x9_1).toNat)=some (.slice A143_0 (rd_L1 t134 x9_1).length c143_0)∧w'.cell? (ad144.add (x9_1).toNat)=some (.slice A144_0 (rd_L1 t140 x9_1).length c144_0)) (ds:=[]) #[F,F,F,F,F,F,F,F,F,F] (by kernel_rfl) rfl rfl ⟨hx143_0,hx144_0⟩ (fun hHeld=>?_);refine with_tabW spec_l1Compare.tab6 spec_l1Compare.bits6 (fun HT_ HW_=>?_)
             generalize wc.drew=w21 at HO_5 HO_6 HO_7 HO_8 HB HL143_0 HL144_0 HR143_0 HR144_0 hx143_0 hx144_0 hHeld ⊢
             refine pq 0 (some 33) HT_.out rfl rfl ?_;refine pq 1 (some 34) HT_.out rfl rfl ?_;refine pq 2 (some 35) HT_.out rfl rfl ?_;refine pq 4 (some 37) HT_.out rfl rfl ?_;refine pq 5 (some 38) HT_.out rfl rfl ?_;refine pq 6 (some 39) HT_.out rfl rfl ?_;refine take_ (i:=3) (N:=some 36) (v:=?_) (a':=?_) #[T,T,T,T,T,T,T,F,F,F] rfl rfl (take_ofW HT_.out HW_.out (by kernel_rfl)) (fun _ _ _ h=>h) (Or.inl ⟨by rfl,?_⟩) hHeld ?_ ?_
             rotate_left;(· rintro w' ⟨s0,s1⟩;go_simp;with_reducible rfl);rotate_left;(· simp only[Act.put,s1,s2,s3,i64_w,i32_w];rfl)
             refine take_ (i:=7) (N:=some 40) (v:=?_) (a':=?_) #[T,T,T,T,T,T,T,T,F,F] rfl rfl (take_ofW HT_.out HW_.out (by kernel_rfl)) (fun _ _ _ h=>h) (Or.inl ⟨by rfl,?_⟩) hHeld ?_ ?_
             rotate_left;(· rintro w' ⟨s0,s1⟩;go_simp;with_reducible rfl);rotate_left;(· simp only[Act.put,s1,s2,s3,i64_w,i32_w];rfl)
             refine one_ (i:=8) (N:=some 41) #[T,T,T,T,T,T,T,T,T,F] rfl rfl (one_of HT_.out (by kernel_rfl)) (by decide) (fun K hK=>?_);refine goes_ Try.func53 (by kernel_rfl) rfl #[.slice A143_0 (rd_L1 t134 x9_1).length c143_0,.slice A144_0 (rd_L1 t140 x9_1).length c144_0] (by rfl) rfl rfl az ?_
             with_reducible refine(ih kj6 (by have:=HK1.out;have:=HJ6.out;omega) _ _ (rd_L1 t134 x9_1) _ _ (rd_L1 t140 x9_1) t145 _ ?side1 ?side2 ?side3 ?side4 A16.out).mono ?_
             (case side1=>exact(Kd.Cz HR143_0.out))
             (case side2=>exact HC143_0.out)
             (case side3=>exact(Kd.Cz HR144_0.out))
             (case side4=>exact HC144_0.out)
             rintro e w24 ⟨rfl,hb⟩;have HS0_:=(hb.cell (World.block_lt_of_cell? _ _ (hHeld.1))).trans (hHeld.1);have HS1_:=(hb.cell (World.block_lt_of_cell? _ _ (hHeld.2))).trans (hHeld.2);refine⟨_,rfl,?_⟩;have n0_:=Sd.mk (Kd.R_below (Kd.Rz HO_5.out) hb);have n1_:=Sd.mk (Kd.N_below (Kd.Nz HO_6.out) hb);have n2_:=Sd.mk (Kd.R_below (Kd.Rz HO_7.out) hb);have n3_:=Sd.mk (Kd.N_below (Kd.Nz HO_8.out) hb);have n4_:=Sd.mk (Kd.V_below (Kd.Vz HL143_0.out) hb);have n5_:=Sd.mk (Kd.V_below (Kd.Vz HL144_0.out) hb);have n6_:=Sd.mk (Kd.C_below (Kd.Cz HR143_0.out) hb);have n7_:=Sd.mk (Kd.C_below (Kd.Cz HR144_0.out) hb);have n8_:=Sd.mk (below_step bz hb);clear HO_5;clear HO_6;clear HO_7;clear HO_8;clear HL143_0;clear HL144_0;clear HR143_0;clear HR144_0;clear HB;have HO_5:=n0_;have HO_6:=n1_;have HO_7:=n2_;have HO_8:=n3_;have HL143_0:=n4_;have HL144_0:=n5_;have HR143_0:=n6_;have HR144_0:=n7_;have HB:=n8_;clear n0_ n1_ n2_ n3_ n4_ n5_ n6_ n7_ n8_
             (try clear hb)
             (try clear hb2)
             (try clear hk)
             (try clear hi)
             refine hK.out _ _ ⟨HS0_,HS1_⟩ (fun hHeld=>?_);clear hK K;refine norm_ (a':=?_) ?_ ?_
             rotate_left
             ·show Act.put _ (some 41) _=_
              simp only[Act.put,s1,s2,s3,i64_w,i32_w]
              rfl
             refine pq 9 (some 10) HT_.out rfl rfl ?_;refine done_ (done_of HT_.out (by kernel_rfl)) ?_
             try go_wp2
             have n0_:=Sd.mk (Kd.R_drew HO_5.out);have n1_:=Sd.mk (Kd.N_drew HO_6.out);have n2_:=Sd.mk (Kd.R_drew HO_7.out);have n3_:=Sd.mk (Kd.N_drew HO_8.out);have n4_:=Sd.mk (Kd.V_drew HL143_0.out);have n5_:=Sd.mk (Kd.V_drew HL144_0.out);have n6_:=Sd.mk (Kd.C_drew HR143_0.out);have n7_:=Sd.mk (Kd.C_drew HR144_0.out);have n8_:=Sd.mk (below_drew1 HB.out);clear HO_5;clear HO_6;clear HO_7;clear HO_8;clear HL143_0;clear HL144_0;clear HR143_0;clear HR144_0;clear HB;have HO_5:=n0_;have HO_6:=n1_;have HO_7:=n2_;have HO_8:=n3_;have HL143_0:=n4_;have HL144_0:=n5_;have HR143_0:=n6_;have HR144_0:=n7_;have HB:=n8_;clear n0_ n1_ n2_ n3_ n4_ n5_ n6_ n7_ n8_;obtain⟨Ao26,co26,eo26⟩:=Kd.R_slice HO_5.out
             (first|subst eo26|(injection eo26 with f1_ f2_ f3_;have f4_:=f1_.symm;have f5_:=f3_.symm;clear f1_ f2_ f3_;subst f4_;subst f5_))
             have p146:0≤(x9_1:Int):=dz;have q146:x9_1<(t131.length:Int):=dz;obtain⟨ad146,e146,hx146_0⟩:=Kd.at_int (Kd.R_reads' HO_5.out).2.2 x9_1 p146 q146;cases e146;replace p146:=eq_true p146;replace q146:=eq_true q146;obtain⟨Ao27,co27,eo27⟩:=Kd.R_slice HO_7.out
             (first|subst eo27|(injection eo27 with f1_ f2_ f3_;have f4_:=f1_.symm;have f5_:=f3_.symm;clear f1_ f2_ f3_;subst f4_;subst f5_))
             have p147:0≤(x9_1:Int):=dz;have q147:x9_1<(t137.length:Int):=dz;obtain⟨ad147,e147,hx147_0⟩:=Kd.at_int (Kd.R_reads' HO_7.out).2.2 x9_1 p147 q147;cases e147;replace p147:=eq_true p147;replace q147:=eq_true q147;refine start_ (n:=9) (S:=fun w'=>w'.cell? (ad146.add (x9_1).toNat)=some (.int .i64 (rd t131 x9_1))∧w'.cell? (ad147.add (x9_1).toNat)=some (.int .i64 (rd t137 x9_1))) (ds:=[]) #[F,F,F,F,F,F,F,F,F] (by kernel_rfl) rfl rfl ⟨hx146_0,hx147_0⟩ (fun hHeld=>?_);refine with_tabW spec_l1Compare.tab9 spec_l1Compare.bits9 (fun HT_ HW_=>?_)
             generalize w24.drew=w25 at HO_5 HO_6 HO_7 HO_8 HL143_0 HL144_0 HR143_0 HR144_0 HB hx146_0 hx147_0 hHeld ⊢
             refine pq 0 (some 45) HT_.out rfl rfl ?_;refine pq 1 (some 46) HT_.out rfl rfl ?_;refine pq 2 (some 47) HT_.out rfl rfl ?_;refine pq 4 (some 49) HT_.out rfl rfl ?_;refine pq 5 (some 50) HT_.out rfl rfl ?_;refine pq 6 (some 51) HT_.out rfl rfl ?_;refine take_ (i:=3) (N:=some 48) (v:=?_) (a':=?_) #[T,T,T,T,T,T,T,F,F] rfl rfl (take_ofW HT_.out HW_.out (by kernel_rfl)) (fun _ _ _ h=>h) (Or.inl ⟨by rfl,?_⟩) hHeld ?_ ?_
             rotate_left;(· rintro w' ⟨s0,s1⟩;go_simp;with_reducible rfl);rotate_left;(· simp only[Act.put,s1,s2,s3,i64_w,i32_w];rfl)
             refine take_ (i:=7) (N:=some 52) (v:=?_) (a':=?_) #[T,T,T,T,T,T,T,T,F] rfl rfl (take_ofW HT_.out HW_.out (by kernel_rfl)) (fun _ _ _ h=>h) (Or.inl ⟨by rfl,?_⟩) hHeld ?_ ?_
             rotate_left;(· rintro w' ⟨s0,s1⟩;go_simp;with_reducible rfl);rotate_left;(· simp only[Act.put,s1,s2,s3,i64_w,i32_w];rfl)
             refine pq 8 (some 53) HT_.out rfl rfl ?_;refine done_ (done_of HT_.out (by kernel_rfl)) ?_
             try go_wp2
             go_roundg kj6
             case measure=>have:=HK1.out;have:=HJ6.out;omega
             case rel=>exact⟨(wrap64 (x9_1+1)),(by first|rfl|(simp;done)|(simp[*];done)),H',⟨by have:=HK1.out;have:=HJ6.out;omega⟩,⟨by(with_reducible repeat (first|apply Kd.R_alloc|apply Kd.R_drewN|apply Kd.R_drew));exact HO_5.out⟩,⟨by(with_reducible repeat (first|apply Kd.N_alloc|apply Kd.N_drewN|apply Kd.N_drew));exact HO_6.out⟩,⟨by(with_reducible repeat (first|apply Kd.R_alloc|apply Kd.R_drewN|apply Kd.R_drew));exact HO_7.out⟩,⟨by(with_reducible repeat (first|apply Kd.N_alloc|apply Kd.N_drewN|apply Kd.N_drew));exact HO_8.out⟩,⟨bz⟩⟩
            ·rw[if_neg c20] at H
             have c20b0:((rd t131 x9_1) == (rd t137 x9_1))=false:=beq_eq_false_iff_ne.mpr c20;have c20b1:((rd t131 x9_1) != (rd t137 x9_1))=true:=bne_iff_ne.mpr c20
             by_cases c28:(rd t131 x9_1)<(rd t137 x9_1)
             ·rw[if_pos c28] at H
              have c28b0:decide ((rd t131 x9_1)<(rd t137 x9_1))=true:=decide_eq_true c28;clear c28;obtain rfl:=Option.some.inj H
              try go_wp2
              have n0_:=Sd.mk (Kd.R_drew HO_5.out);have n1_:=Sd.mk (Kd.N_drew HO_6.out);have n2_:=Sd.mk (Kd.R_drew HO_7.out);have n3_:=Sd.mk (Kd.N_drew HO_8.out);have n4_:=Sd.mk (below_drew1 HB.out);clear HO_5;clear HO_6;clear HO_7;clear HO_8;clear HB;have HO_5:=n0_;have HO_6:=n1_;have HO_7:=n2_;have HO_8:=n3_;have HB:=n4_;clear n0_ n1_ n2_ n3_ n4_;obtain⟨Ao30,co30,eo30⟩:=Kd.N_slice HO_6.out
              (first|subst eo30|(injection eo30 with f1_ f2_ f3_;have f4_:=f1_.symm;have f5_:=f3_.symm;clear f1_ f2_ f3_;subst f4_;subst f5_))
              have p143:0≤(x9_1:Int):=dz;have q143:x9_1<(t134.length:Int):=dz;obtain⟨ad143,A143_0,c143_0,e143,hx143_0,hl143_0,hi143_0⟩:=at_L1 (Kd.N_reads' HO_6.out).2.2 x9_1 p143 q143;cases e143;obtain⟨ce143,hce143,hMe143,hcc143⟩:=Kd.N_get HO_6.out [] x9_1 p143 (by first|exact q143|exact dz|(have e_:=(Kd.N_reads' HO_6.out).1;omega));obtain⟨ua143_0,uc143_0,rfl,ul143_0,ge143_0⟩:=Kd.FK_slice_open hMe143;have hv143_0:=hcc143 0 _ rfl;rw[Nat.add_zero,show ((Kd.slice 3 (Kd.int .i64))).sz=1 from rfl,Nat.mul_one] at hv143_0;replace hv143_0:=Option.some.inj (hv143_0.symm.trans hx143_0)
              injection hv143_0 with hva_ hvn_ hvc_
              rw[hva_] at ge143_0;rw[hvc_] at ul143_0;have HL143_0:=Sd.mk (show Kd.V (Kd.int .i64) 3 _ w.heap.size _ _ (rd_L1 t134 x9_1) from Kd.V_mk ul143_0 ge143_0);clear hva_ hvn_ hvc_ ge143_0 ul143_0;clear hcc143 hce143;have HR143_0:=Sd.mk hi143_0;have HC143_0:=Sd.mk hl143_0;clear hi143_0 hl143_0;replace p143:=eq_true p143;replace q143:=eq_true q143;obtain⟨Ao31,co31,eo31⟩:=Kd.N_slice HO_8.out
              (first|subst eo31|(injection eo31 with f1_ f2_ f3_;have f4_:=f1_.symm;have f5_:=f3_.symm;clear f1_ f2_ f3_;subst f4_;subst f5_))
              have p144:0≤(x9_1:Int):=dz;have q144:x9_1<(t140.length:Int):=dz;obtain⟨ad144,A144_0,c144_0,e144,hx144_0,hl144_0,hi144_0⟩:=at_L1 (Kd.N_reads' HO_8.out).2.2 x9_1 p144 q144;cases e144;obtain⟨ce144,hce144,hMe144,hcc144⟩:=Kd.N_get HO_8.out [] x9_1 p144 (by first|exact q144|exact dz|(have e_:=(Kd.N_reads' HO_8.out).1;omega));obtain⟨ua144_0,uc144_0,rfl,ul144_0,ge144_0⟩:=Kd.FK_slice_open hMe144;have hv144_0:=hcc144 0 _ rfl;rw[Nat.add_zero,show ((Kd.slice 3 (Kd.int .i64))).sz=1 from rfl,Nat.mul_one] at hv144_0;replace hv144_0:=Option.some.inj (hv144_0.symm.trans hx144_0)
              injection hv144_0 with hva_ hvn_ hvc_
              rw[hva_] at ge144_0;rw[hvc_] at ul144_0;have HL144_0:=Sd.mk (show Kd.V (Kd.int .i64) 3 _ w.heap.size _ _ (rd_L1 t140 x9_1) from Kd.V_mk ul144_0 ge144_0);clear hva_ hvn_ hvc_ ge144_0 ul144_0;clear hcc144 hce144;have HR144_0:=Sd.mk hi144_0;have HC144_0:=Sd.mk hl144_0;clear hi144_0 hl144_0;replace p144:=eq_true p144;replace q144:=eq_true q144;refine start_ (n:=10) (S:=fun w'=>w'.cell? (ad143.add (x9_1).toNat)=some (.slice A143_0 (rd_L1 t134 x9_1).length c143_0)∧w'.cell? (ad144.add (x9_1).toNat)=some (.slice A144_0 (rd_L1 t140 x9_1).length c144_0)) (ds:=[]) #[F,F,F,F,F,F,F,F,F,F] (by kernel_rfl) rfl rfl ⟨hx143_0,hx144_0⟩ (fun hHeld=>?_);refine with_tabW spec_l1Compare.tab6 spec_l1Compare.bits6 (fun HT_ HW_=>?_)
              generalize wc.drew=w29 at HO_5 HO_6 HO_7 HO_8 HB HL143_0 HL144_0 HR143_0 HR144_0 hx143_0 hx144_0 hHeld ⊢
              refine pq 0 (some 33) HT_.out rfl rfl ?_;refine pq 1 (some 34) HT_.out rfl rfl ?_;refine pq 2 (some 35) HT_.out rfl rfl ?_;refine pq 4 (some 37) HT_.out rfl rfl ?_;refine pq 5 (some 38) HT_.out rfl rfl ?_;refine pq 6 (some 39) HT_.out rfl rfl ?_;refine take_ (i:=3) (N:=some 36) (v:=?_) (a':=?_) #[T,T,T,T,T,T,T,F,F,F] rfl rfl (take_ofW HT_.out HW_.out (by kernel_rfl)) (fun _ _ _ h=>h) (Or.inl ⟨by rfl,?_⟩) hHeld ?_ ?_
              rotate_left;(· rintro w' ⟨s0,s1⟩;go_simp;with_reducible rfl);rotate_left;(· simp only[Act.put,s1,s2,s3,i64_w,i32_w];rfl)
              refine take_ (i:=7) (N:=some 40) (v:=?_) (a':=?_) #[T,T,T,T,T,T,T,T,F,F] rfl rfl (take_ofW HT_.out HW_.out (by kernel_rfl)) (fun _ _ _ h=>h) (Or.inl ⟨by rfl,?_⟩) hHeld ?_ ?_
              rotate_left;(· rintro w' ⟨s0,s1⟩;go_simp;with_reducible rfl);rotate_left;(· simp only[Act.put,s1,s2,s3,i64_w,i32_w];rfl)
              refine one_ (i:=8) (N:=some 41) #[T,T,T,T,T,T,T,T,T,F] rfl rfl (one_of HT_.out (by kernel_rfl)) (by decide) (fun K hK=>?_);refine goes_ Try.func53 (by kernel_rfl) rfl #[.slice A143_0 (rd_L1 t134 x9_1).length c143_0,.slice A144_0 (rd_L1 t140 x9_1).length c144_0] (by rfl) rfl rfl az ?_
              with_reducible refine(ih kj6 (by have:=HK1.out;have:=HJ6.out;omega) _ _ (rd_L1 t134 x9_1) _ _ (rd_L1 t140 x9_1) t145 _ ?side1 ?side2 ?side3 ?side4 A16.out).mono ?_
              (case side1=>exact(Kd.Cz HR143_0.out))
              (case side2=>exact HC143_0.out)
              (case side3=>exact(Kd.Cz HR144_0.out))
              (case side4=>exact HC144_0.out)
              rintro e w32 ⟨rfl,hb⟩;have HS0_:=(hb.cell (World.block_lt_of_cell? _ _ (hHeld.1))).trans (hHeld.1);have HS1_:=(hb.cell (World.block_lt_of_cell? _ _ (hHeld.2))).trans (hHeld.2);refine⟨_,rfl,?_⟩;have n0_:=Sd.mk (Kd.R_below (Kd.Rz HO_5.out) hb);have n1_:=Sd.mk (Kd.N_below (Kd.Nz HO_6.out) hb);have n2_:=Sd.mk (Kd.R_below (Kd.Rz HO_7.out) hb);have n3_:=Sd.mk (Kd.N_below (Kd.Nz HO_8.out) hb);have n4_:=Sd.mk (Kd.V_below (Kd.Vz HL143_0.out) hb);have n5_:=Sd.mk (Kd.V_below (Kd.Vz HL144_0.out) hb);have n6_:=Sd.mk (Kd.C_below (Kd.Cz HR143_0.out) hb);have n7_:=Sd.mk (Kd.C_below (Kd.Cz HR144_0.out) hb);have n8_:=Sd.mk (below_step bz hb);clear HO_5;clear HO_6;clear HO_7;clear HO_8;clear HL143_0;clear HL144_0;clear HR143_0;clear HR144_0;clear HB;have HO_5:=n0_;have HO_6:=n1_;have HO_7:=n2_;have HO_8:=n3_;have HL143_0:=n4_;have HL144_0:=n5_;have HR143_0:=n6_;have HR144_0:=n7_;have HB:=n8_;clear n0_ n1_ n2_ n3_ n4_ n5_ n6_ n7_ n8_
              (try clear hb)
              (try clear hb2)
              (try clear hk)
              (try clear hi)
              refine hK.out _ _ ⟨HS0_,HS1_⟩ (fun hHeld=>?_);clear hK K;refine norm_ (a':=?_) ?_ ?_
              rotate_left
              ·show Act.put _ (some 41) _=_
               simp only[Act.put,s1,s2,s3,i64_w,i32_w]
               rfl
              refine pq 9 (some 10) HT_.out rfl rfl ?_;refine done_ (done_of HT_.out (by kernel_rfl)) ?_
              try go_wp2
              have n0_:=Sd.mk (Kd.R_drew HO_5.out);have n1_:=Sd.mk (Kd.N_drew HO_6.out);have n2_:=Sd.mk (Kd.R_drew HO_7.out);have n3_:=Sd.mk (Kd.N_drew HO_8.out);have n4_:=Sd.mk (Kd.V_drew HL143_0.out);have n5_:=Sd.mk (Kd.V_drew HL144_0.out);have n6_:=Sd.mk (Kd.C_drew HR143_0.out);have n7_:=Sd.mk (Kd.C_drew HR144_0.out);have n8_:=Sd.mk (below_drew1 HB.out);clear HO_5;clear HO_6;clear HO_7;clear HO_8;clear HL143_0;clear HL144_0;clear HR143_0;clear HR144_0;clear HB;have HO_5:=n0_;have HO_6:=n1_;have HO_7:=n2_;have HO_8:=n3_;have HL143_0:=n4_;have HL144_0:=n5_;have HR143_0:=n6_;have HR144_0:=n7_;have HB:=n8_;clear n0_ n1_ n2_ n3_ n4_ n5_ n6_ n7_ n8_;obtain⟨Ao34,co34,eo34⟩:=Kd.R_slice HO_5.out
              (first|subst eo34|(injection eo34 with f1_ f2_ f3_;have f4_:=f1_.symm;have f5_:=f3_.symm;clear f1_ f2_ f3_;subst f4_;subst f5_))
              have p146:0≤(x9_1:Int):=dz;have q146:x9_1<(t131.length:Int):=dz;obtain⟨ad146,e146,hx146_0⟩:=Kd.at_int (Kd.R_reads' HO_5.out).2.2 x9_1 p146 q146;cases e146;replace p146:=eq_true p146;replace q146:=eq_true q146;obtain⟨Ao35,co35,eo35⟩:=Kd.R_slice HO_7.out
              (first|subst eo35|(injection eo35 with f1_ f2_ f3_;have f4_:=f1_.symm;have f5_:=f3_.symm;clear f1_ f2_ f3_;subst f4_;subst f5_))
              have p147:0≤(x9_1:Int):=dz;have q147:x9_1<(t137.length:Int):=dz;obtain⟨ad147,e147,hx147_0⟩:=Kd.at_int (Kd.R_reads' HO_7.out).2.2 x9_1 p147 q147;cases e147;replace p147:=eq_true p147;replace q147:=eq_true q147;refine start_ (n:=9) (S:=fun w'=>w'.cell? (ad146.add (x9_1).toNat)=some (.int .i64 (rd t131 x9_1))∧w'.cell? (ad147.add (x9_1).toNat)=some (.int .i64 (rd t137 x9_1))) (ds:=[]) #[F,F,F,F,F,F,F,F,F] (by kernel_rfl) rfl rfl ⟨hx146_0,hx147_0⟩ (fun hHeld=>?_);refine with_tabW spec_l1Compare.tab9 spec_l1Compare.bits9 (fun HT_ HW_=>?_)
              generalize w32.drew=w33 at HO_5 HO_6 HO_7 HO_8 HL143_0 HL144_0 HR143_0 HR144_0 HB hx146_0 hx147_0 hHeld ⊢
              refine pq 0 (some 45) HT_.out rfl rfl ?_;refine pq 1 (some 46) HT_.out rfl rfl ?_;refine pq 2 (some 47) HT_.out rfl rfl ?_;refine pq 4 (some 49) HT_.out rfl rfl ?_;refine pq 5 (some 50) HT_.out rfl rfl ?_;refine pq 6 (some 51) HT_.out rfl rfl ?_;refine take_ (i:=3) (N:=some 48) (v:=?_) (a':=?_) #[T,T,T,T,T,T,T,F,F] rfl rfl (take_ofW HT_.out HW_.out (by kernel_rfl)) (fun _ _ _ h=>h) (Or.inl ⟨by rfl,?_⟩) hHeld ?_ ?_
              rotate_left;(· rintro w' ⟨s0,s1⟩;go_simp;with_reducible rfl);rotate_left;(· simp only[Act.put,s1,s2,s3,i64_w,i32_w];rfl)
              refine take_ (i:=7) (N:=some 52) (v:=?_) (a':=?_) #[T,T,T,T,T,T,T,T,F] rfl rfl (take_ofW HT_.out HW_.out (by kernel_rfl)) (fun _ _ _ h=>h) (Or.inl ⟨by rfl,?_⟩) hHeld ?_ ?_
              rotate_left;(· rintro w' ⟨s0,s1⟩;go_simp;with_reducible rfl);rotate_left;(· simp only[Act.put,s1,s2,s3,i64_w,i32_w];rfl)
              refine pq 8 (some 53) HT_.out rfl rfl ?_;refine done_ (done_of HT_.out (by kernel_rfl)) ?_
              try go_wp2
              have n0_:=Sd.mk (Kd.R_drew HO_5.out);have n1_:=Sd.mk (Kd.N_drew HO_6.out);have n2_:=Sd.mk (Kd.R_drew HO_7.out);have n3_:=Sd.mk (Kd.N_drew HO_8.out);have n4_:=Sd.mk (Kd.V_drew HL143_0.out);have n5_:=Sd.mk (Kd.V_drew HL144_0.out);have n6_:=Sd.mk (Kd.C_drew HR143_0.out);have n7_:=Sd.mk (Kd.C_drew HR144_0.out);have n8_:=Sd.mk (below_drew1 HB.out);clear HO_5;clear HO_6;clear HO_7;clear HO_8;clear HL143_0;clear HL144_0;clear HR143_0;clear HR144_0;clear HB;have HO_5:=n0_;have HO_6:=n1_;have HO_7:=n2_;have HO_8:=n3_;have HL143_0:=n4_;have HL144_0:=n5_;have HR143_0:=n6_;have HR144_0:=n7_;have HB:=n8_;clear n0_ n1_ n2_ n3_ n4_ n5_ n6_ n7_ n8_;have p148:0≤(x9_1:Int):=dz;have q148:x9_1<(t131.length:Int):=dz;obtain⟨ad148,e148,hx148_0⟩:=Kd.at_int (Kd.R_reads' HO_5.out).2.2 x9_1 p148 q148;obtain rfl:ad146=ad148:=(by injection e148);replace p148:=eq_true p148;replace q148:=eq_true q148;have p149:0≤(x9_1:Int):=dz;have q149:x9_1<(t137.length:Int):=dz;obtain⟨ad149,e149,hx149_0⟩:=Kd.at_int (Kd.R_reads' HO_7.out).2.2 x9_1 p149 q149;obtain rfl:ad147=ad149:=(by injection e149);replace p149:=eq_true p149;replace q149:=eq_true q149;refine start_ (n:=9) (S:=fun w'=>w'.cell? (ad146.add (x9_1).toNat)=some (.int .i64 (rd t131 x9_1))∧w'.cell? (ad147.add (x9_1).toNat)=some (.int .i64 (rd t137 x9_1))) (ds:=[]) #[F,F,F,F,F,F,F,F,F] (by kernel_rfl) rfl rfl ⟨hx148_0,hx149_0⟩ (fun hHeld=>?_);refine with_tabW spec_l1Compare.tab10 spec_l1Compare.bits10 (fun HT_ HW_=>?_)
              generalize w33.drew=w36 at HO_5 HO_6 HO_7 HO_8 HL143_0 HL144_0 HR143_0 HR144_0 HB hx148_0 hx149_0 hHeld ⊢
              refine pq 0 (some 54) HT_.out rfl rfl ?_;refine pq 1 (some 55) HT_.out rfl rfl ?_;refine pq 2 (some 56) HT_.out rfl rfl ?_;refine pq 4 (some 58) HT_.out rfl rfl ?_;refine pq 5 (some 59) HT_.out rfl rfl ?_;refine pq 6 (some 60) HT_.out rfl rfl ?_;refine take_ (i:=3) (N:=some 57) (v:=?_) (a':=?_) #[T,T,T,T,T,T,T,F,F] rfl rfl (take_ofW HT_.out HW_.out (by kernel_rfl)) (fun _ _ _ h=>h) (Or.inl ⟨by rfl,?_⟩) hHeld ?_ ?_
              rotate_left;(· rintro w' ⟨s0,s1⟩;go_simp;with_reducible rfl);rotate_left;(· simp only[Act.put,s1,s2,s3,i64_w,i32_w];rfl)
              refine take_ (i:=7) (N:=some 61) (v:=?_) (a':=?_) #[T,T,T,T,T,T,T,T,F] rfl rfl (take_ofW HT_.out HW_.out (by kernel_rfl)) (fun _ _ _ h=>h) (Or.inl ⟨by rfl,?_⟩) hHeld ?_ ?_
              rotate_left;(· rintro w' ⟨s0,s1⟩;go_simp;with_reducible rfl);rotate_left;(· simp only[Act.put,s1,s2,s3,i64_w,i32_w];rfl)
              refine pq 8 (some 62) HT_.out rfl rfl ?_;refine done_ (done_of HT_.out (by kernel_rfl)) ?_
              try go_wp2
              go_ret;exact⟨by first|rfl|(simp[errW_none,errW_some]<;>rfl)|(simp[*,errW_none,errW_some]<;>rfl),bz⟩
             ·rw[if_neg c28] at H
              have c28b0:decide ((rd t131 x9_1)<(rd t137 x9_1))=false:=decide_eq_false c28;clear c28;obtain rfl:=Option.some.inj H
              try go_wp2
              have n0_:=Sd.mk (Kd.R_drew HO_5.out);have n1_:=Sd.mk (Kd.N_drew HO_6.out);have n2_:=Sd.mk (Kd.R_drew HO_7.out);have n3_:=Sd.mk (Kd.N_drew HO_8.out);have n4_:=Sd.mk (below_drew1 HB.out);clear HO_5;clear HO_6;clear HO_7;clear HO_8;clear HB;have HO_5:=n0_;have HO_6:=n1_;have HO_7:=n2_;have HO_8:=n3_;have HB:=n4_;clear n0_ n1_ n2_ n3_ n4_;obtain⟨Ao38,co38,eo38⟩:=Kd.N_slice HO_6.out
              (first|subst eo38|(injection eo38 with f1_ f2_ f3_;have f4_:=f1_.symm;have f5_:=f3_.symm;clear f1_ f2_ f3_;subst f4_;subst f5_))
              have p143:0≤(x9_1:Int):=dz;have q143:x9_1<(t134.length:Int):=dz;obtain⟨ad143,A143_0,c143_0,e143,hx143_0,hl143_0,hi143_0⟩:=at_L1 (Kd.N_reads' HO_6.out).2.2 x9_1 p143 q143;cases e143;obtain⟨ce143,hce143,hMe143,hcc143⟩:=Kd.N_get HO_6.out [] x9_1 p143 (by first|exact q143|exact dz|(have e_:=(Kd.N_reads' HO_6.out).1;omega));obtain⟨ua143_0,uc143_0,rfl,ul143_0,ge143_0⟩:=Kd.FK_slice_open hMe143;have hv143_0:=hcc143 0 _ rfl;rw[Nat.add_zero,show ((Kd.slice 3 (Kd.int .i64))).sz=1 from rfl,Nat.mul_one] at hv143_0;replace hv143_0:=Option.some.inj (hv143_0.symm.trans hx143_0)
              injection hv143_0 with hva_ hvn_ hvc_
              rw[hva_] at ge143_0;rw[hvc_] at ul143_0;have HL143_0:=Sd.mk (show Kd.V (Kd.int .i64) 3 _ w.heap.size _ _ (rd_L1 t134 x9_1) from Kd.V_mk ul143_0 ge143_0);clear hva_ hvn_ hvc_ ge143_0 ul143_0;clear hcc143 hce143;have HR143_0:=Sd.mk hi143_0;have HC143_0:=Sd.mk hl143_0;clear hi143_0 hl143_0;replace p143:=eq_true p143;replace q143:=eq_true q143;obtain⟨Ao39,co39,eo39⟩:=Kd.N_slice HO_8.out
              (first|subst eo39|(injection eo39 with f1_ f2_ f3_;have f4_:=f1_.symm;have f5_:=f3_.symm;clear f1_ f2_ f3_;subst f4_;subst f5_))
              have p144:0≤(x9_1:Int):=dz;have q144:x9_1<(t140.length:Int):=dz;obtain⟨ad144,A144_0,c144_0,e144,hx144_0,hl144_0,hi144_0⟩:=at_L1 (Kd.N_reads' HO_8.out).2.2 x9_1 p144 q144;cases e144;obtain⟨ce144,hce144,hMe144,hcc144⟩:=Kd.N_get HO_8.out [] x9_1 p144 (by first|exact q144|exact dz|(have e_:=(Kd.N_reads' HO_8.out).1;omega));obtain⟨ua144_0,uc144_0,rfl,ul144_0,ge144_0⟩:=Kd.FK_slice_open hMe144;have hv144_0:=hcc144 0 _ rfl;rw[Nat.add_zero,show ((Kd.slice 3 (Kd.int .i64))).sz=1 from rfl,Nat.mul_one] at hv144_0;replace hv144_0:=Option.some.inj (hv144_0.symm.trans hx144_0)
              injection hv144_0 with hva_ hvn_ hvc_
              rw[hva_] at ge144_0;rw[hvc_] at ul144_0;have HL144_0:=Sd.mk (show Kd.V (Kd.int .i64) 3 _ w.heap.size _ _ (rd_L1 t140 x9_1) from Kd.V_mk ul144_0 ge144_0);clear hva_ hvn_ hvc_ ge144_0 ul144_0;clear hcc144 hce144;have HR144_0:=Sd.mk hi144_0;have HC144_0:=Sd.mk hl144_0;clear hi144_0 hl144_0;replace p144:=eq_true p144;replace q144:=eq_true q144;refine start_ (n:=10) (S:=fun w'=>w'.cell? (ad143.add (x9_1).toNat)=some (.slice A143_0 (rd_L1 t134 x9_1).length c143_0)∧w'.cell? (ad144.add (x9_1).toNat)=some (.slice A144_0 (rd_L1 t140 x9_1).length c144_0)) (ds:=[]) #[F,F,F,F,F,F,F,F,F,F] (by kernel_rfl) rfl rfl ⟨hx143_0,hx144_0⟩ (fun hHeld=>?_);refine with_tabW spec_l1Compare.tab6 spec_l1Compare.bits6 (fun HT_ HW_=>?_)
              generalize wc.drew=w37 at HO_5 HO_6 HO_7 HO_8 HB HL143_0 HL144_0 HR143_0 HR144_0 hx143_0 hx144_0 hHeld ⊢
              refine pq 0 (some 33) HT_.out rfl rfl ?_;refine pq 1 (some 34) HT_.out rfl rfl ?_;refine pq 2 (some 35) HT_.out rfl rfl ?_;refine pq 4 (some 37) HT_.out rfl rfl ?_;refine pq 5 (some 38) HT_.out rfl rfl ?_;refine pq 6 (some 39) HT_.out rfl rfl ?_;refine take_ (i:=3) (N:=some 36) (v:=?_) (a':=?_) #[T,T,T,T,T,T,T,F,F,F] rfl rfl (take_ofW HT_.out HW_.out (by kernel_rfl)) (fun _ _ _ h=>h) (Or.inl ⟨by rfl,?_⟩) hHeld ?_ ?_
              rotate_left;(· rintro w' ⟨s0,s1⟩;go_simp;with_reducible rfl);rotate_left;(· simp only[Act.put,s1,s2,s3,i64_w,i32_w];rfl)
              refine take_ (i:=7) (N:=some 40) (v:=?_) (a':=?_) #[T,T,T,T,T,T,T,T,F,F] rfl rfl (take_ofW HT_.out HW_.out (by kernel_rfl)) (fun _ _ _ h=>h) (Or.inl ⟨by rfl,?_⟩) hHeld ?_ ?_
              rotate_left;(· rintro w' ⟨s0,s1⟩;go_simp;with_reducible rfl);rotate_left;(· simp only[Act.put,s1,s2,s3,i64_w,i32_w];rfl)
              refine one_ (i:=8) (N:=some 41) #[T,T,T,T,T,T,T,T,T,F] rfl rfl (one_of HT_.out (by kernel_rfl)) (by decide) (fun K hK=>?_);refine goes_ Try.func53 (by kernel_rfl) rfl #[.slice A143_0 (rd_L1 t134 x9_1).length c143_0,.slice A144_0 (rd_L1 t140 x9_1).length c144_0] (by rfl) rfl rfl az ?_
              with_reducible refine(ih kj6 (by have:=HK1.out;have:=HJ6.out;omega) _ _ (rd_L1 t134 x9_1) _ _ (rd_L1 t140 x9_1) t145 _ ?side1 ?side2 ?side3 ?side4 A16.out).mono ?_
              (case side1=>exact(Kd.Cz HR143_0.out))
              (case side2=>exact HC143_0.out)
              (case side3=>exact(Kd.Cz HR144_0.out))
              (case side4=>exact HC144_0.out)
              rintro e w40 ⟨rfl,hb⟩;have HS0_:=(hb.cell (World.block_lt_of_cell? _ _ (hHeld.1))).trans (hHeld.1);have HS1_:=(hb.cell (World.block_lt_of_cell? _ _ (hHeld.2))).trans (hHeld.2);refine⟨_,rfl,?_⟩;have n0_:=Sd.mk (Kd.R_below (Kd.Rz HO_5.out) hb);have n1_:=Sd.mk (Kd.N_below (Kd.Nz HO_6.out) hb);have n2_:=Sd.mk (Kd.R_below (Kd.Rz HO_7.out) hb);have n3_:=Sd.mk (Kd.N_below (Kd.Nz HO_8.out) hb);have n4_:=Sd.mk (Kd.V_below (Kd.Vz HL143_0.out) hb);have n5_:=Sd.mk (Kd.V_below (Kd.Vz HL144_0.out) hb);have n6_:=Sd.mk (Kd.C_below (Kd.Cz HR143_0.out) hb);have n7_:=Sd.mk (Kd.C_below (Kd.Cz HR144_0.out) hb);have n8_:=Sd.mk (below_step bz hb);clear HO_5;clear HO_6;clear HO_7;clear HO_8;clear HL143_0;clear HL144_0;clear HR143_0;clear HR144_0;clear HB;have HO_5:=n0_;have HO_6:=n1_;have HO_7:=n2_;have HO_8:=n3_;have HL143_0:=n4_;have HL144_0:=n5_;have HR143_0:=n6_;have HR144_0:=n7_;have HB:=n8_;clear n0_ n1_ n2_ n3_ n4_ n5_ n6_ n7_ n8_
              (try clear hb)
              (try clear hb2)
              (try clear hk)
              (try clear hi)
              refine hK.out _ _ ⟨HS0_,HS1_⟩ (fun hHeld=>?_);clear hK K;refine norm_ (a':=?_) ?_ ?_
              rotate_left
              ·show Act.put _ (some 41) _=_
               simp only[Act.put,s1,s2,s3,i64_w,i32_w]
               rfl
              refine pq 9 (some 10) HT_.out rfl rfl ?_;refine done_ (done_of HT_.out (by kernel_rfl)) ?_
              try go_wp2
              have n0_:=Sd.mk (Kd.R_drew HO_5.out);have n1_:=Sd.mk (Kd.N_drew HO_6.out);have n2_:=Sd.mk (Kd.R_drew HO_7.out);have n3_:=Sd.mk (Kd.N_drew HO_8.out);have n4_:=Sd.mk (Kd.V_drew HL143_0.out);have n5_:=Sd.mk (Kd.V_drew HL144_0.out);have n6_:=Sd.mk (Kd.C_drew HR143_0.out);have n7_:=Sd.mk (Kd.C_drew HR144_0.out);have n8_:=Sd.mk (below_drew1 HB.out);clear HO_5;clear HO_6;clear HO_7;clear HO_8;clear HL143_0;clear HL144_0;clear HR143_0;clear HR144_0;clear HB;have HO_5:=n0_;have HO_6:=n1_;have HO_7:=n2_;have HO_8:=n3_;have HL143_0:=n4_;have HL144_0:=n5_;have HR143_0:=n6_;have HR144_0:=n7_;have HB:=n8_;clear n0_ n1_ n2_ n3_ n4_ n5_ n6_ n7_ n8_;obtain⟨Ao42,co42,eo42⟩:=Kd.R_slice HO_5.out
              (first|subst eo42|(injection eo42 with f1_ f2_ f3_;have f4_:=f1_.symm;have f5_:=f3_.symm;clear f1_ f2_ f3_;subst f4_;subst f5_))
              have p146:0≤(x9_1:Int):=dz;have q146:x9_1<(t131.length:Int):=dz;obtain⟨ad146,e146,hx146_0⟩:=Kd.at_int (Kd.R_reads' HO_5.out).2.2 x9_1 p146 q146;cases e146;replace p146:=eq_true p146;replace q146:=eq_true q146;obtain⟨Ao43,co43,eo43⟩:=Kd.R_slice HO_7.out
              (first|subst eo43|(injection eo43 with f1_ f2_ f3_;have f4_:=f1_.symm;have f5_:=f3_.symm;clear f1_ f2_ f3_;subst f4_;subst f5_))
              have p147:0≤(x9_1:Int):=dz;have q147:x9_1<(t137.length:Int):=dz;obtain⟨ad147,e147,hx147_0⟩:=Kd.at_int (Kd.R_reads' HO_7.out).2.2 x9_1 p147 q147;cases e147;replace p147:=eq_true p147;replace q147:=eq_true q147;refine start_ (n:=9) (S:=fun w'=>w'.cell? (ad146.add (x9_1).toNat)=some (.int .i64 (rd t131 x9_1))∧w'.cell? (ad147.add (x9_1).toNat)=some (.int .i64 (rd t137 x9_1))) (ds:=[]) #[F,F,F,F,F,F,F,F,F] (by kernel_rfl) rfl rfl ⟨hx146_0,hx147_0⟩ (fun hHeld=>?_);refine with_tabW spec_l1Compare.tab9 spec_l1Compare.bits9 (fun HT_ HW_=>?_)
              generalize w40.drew=w41 at HO_5 HO_6 HO_7 HO_8 HL143_0 HL144_0 HR143_0 HR144_0 HB hx146_0 hx147_0 hHeld ⊢
              refine pq 0 (some 45) HT_.out rfl rfl ?_;refine pq 1 (some 46) HT_.out rfl rfl ?_;refine pq 2 (some 47) HT_.out rfl rfl ?_;refine pq 4 (some 49) HT_.out rfl rfl ?_;refine pq 5 (some 50) HT_.out rfl rfl ?_;refine pq 6 (some 51) HT_.out rfl rfl ?_;refine take_ (i:=3) (N:=some 48) (v:=?_) (a':=?_) #[T,T,T,T,T,T,T,F,F] rfl rfl (take_ofW HT_.out HW_.out (by kernel_rfl)) (fun _ _ _ h=>h) (Or.inl ⟨by rfl,?_⟩) hHeld ?_ ?_
              rotate_left;(· rintro w' ⟨s0,s1⟩;go_simp;with_reducible rfl);rotate_left;(· simp only[Act.put,s1,s2,s3,i64_w,i32_w];rfl)
              refine take_ (i:=7) (N:=some 52) (v:=?_) (a':=?_) #[T,T,T,T,T,T,T,T,F] rfl rfl (take_ofW HT_.out HW_.out (by kernel_rfl)) (fun _ _ _ h=>h) (Or.inl ⟨by rfl,?_⟩) hHeld ?_ ?_
              rotate_left;(· rintro w' ⟨s0,s1⟩;go_simp;with_reducible rfl);rotate_left;(· simp only[Act.put,s1,s2,s3,i64_w,i32_w];rfl)
              refine pq 8 (some 53) HT_.out rfl rfl ?_;refine done_ (done_of HT_.out (by kernel_rfl)) ?_
              try go_wp2
              have n0_:=Sd.mk (Kd.R_drew HO_5.out);have n1_:=Sd.mk (Kd.N_drew HO_6.out);have n2_:=Sd.mk (Kd.R_drew HO_7.out);have n3_:=Sd.mk (Kd.N_drew HO_8.out);have n4_:=Sd.mk (Kd.V_drew HL143_0.out);have n5_:=Sd.mk (Kd.V_drew HL144_0.out);have n6_:=Sd.mk (Kd.C_drew HR143_0.out);have n7_:=Sd.mk (Kd.C_drew HR144_0.out);have n8_:=Sd.mk (below_drew1 HB.out);clear HO_5;clear HO_6;clear HO_7;clear HO_8;clear HL143_0;clear HL144_0;clear HR143_0;clear HR144_0;clear HB;have HO_5:=n0_;have HO_6:=n1_;have HO_7:=n2_;have HO_8:=n3_;have HL143_0:=n4_;have HL144_0:=n5_;have HR143_0:=n6_;have HR144_0:=n7_;have HB:=n8_;clear n0_ n1_ n2_ n3_ n4_ n5_ n6_ n7_ n8_;have p148:0≤(x9_1:Int):=dz;have q148:x9_1<(t131.length:Int):=dz;obtain⟨ad148,e148,hx148_0⟩:=Kd.at_int (Kd.R_reads' HO_5.out).2.2 x9_1 p148 q148;obtain rfl:ad146=ad148:=(by injection e148);replace p148:=eq_true p148;replace q148:=eq_true q148;have p149:0≤(x9_1:Int):=dz;have q149:x9_1<(t137.length:Int):=dz;obtain⟨ad149,e149,hx149_0⟩:=Kd.at_int (Kd.R_reads' HO_7.out).2.2 x9_1 p149 q149;obtain rfl:ad147=ad149:=(by injection e149);replace p149:=eq_true p149;replace q149:=eq_true q149;refine start_ (n:=9) (S:=fun w'=>w'.cell? (ad146.add (x9_1).toNat)=some (.int .i64 (rd t131 x9_1))∧w'.cell? (ad147.add (x9_1).toNat)=some (.int .i64 (rd t137 x9_1))) (ds:=[]) #[F,F,F,F,F,F,F,F,F] (by kernel_rfl) rfl rfl ⟨hx148_0,hx149_0⟩ (fun hHeld=>?_);refine with_tabW spec_l1Compare.tab10 spec_l1Compare.bits10 (fun HT_ HW_=>?_)
              generalize w41.drew=w44 at HO_5 HO_6 HO_7 HO_8 HL143_0 HL144_0 HR143_0 HR144_0 HB hx148_0 hx149_0 hHeld ⊢
              refine pq 0 (some 54) HT_.out rfl rfl ?_;refine pq 1 (some 55) HT_.out rfl rfl ?_;refine pq 2 (some 56) HT_.out rfl rfl ?_;refine pq 4 (some 58) HT_.out rfl rfl ?_;refine pq 5 (some 59) HT_.out rfl rfl ?_;refine pq 6 (some 60) HT_.out rfl rfl ?_;refine take_ (i:=3) (N:=some 57) (v:=?_) (a':=?_) #[T,T,T,T,T,T,T,F,F] rfl rfl (take_ofW HT_.out HW_.out (by kernel_rfl)) (fun _ _ _ h=>h) (Or.inl ⟨by rfl,?_⟩) hHeld ?_ ?_
              rotate_left;(· rintro w' ⟨s0,s1⟩;go_simp;with_reducible rfl);rotate_left;(· simp only[Act.put,s1,s2,s3,i64_w,i32_w];rfl)
              refine take_ (i:=7) (N:=some 61) (v:=?_) (a':=?_) #[T,T,T,T,T,T,T,T,F] rfl rfl (take_ofW HT_.out HW_.out (by kernel_rfl)) (fun _ _ _ h=>h) (Or.inl ⟨by rfl,?_⟩) hHeld ?_ ?_
              rotate_left;(· rintro w' ⟨s0,s1⟩;go_simp;with_reducible rfl);rotate_left;(· simp only[Act.put,s1,s2,s3,i64_w,i32_w];rfl)
              refine pq 8 (some 62) HT_.out rfl rfl ?_;refine done_ (done_of HT_.out (by kernel_rfl)) ?_
              try go_wp2
              go_ret;exact⟨by first|rfl|(simp[errW_none,errW_some]<;>rfl)|(simp[*,errW_none,errW_some]<;>rfl),bz⟩
           ·rw[if_neg c19] at H
            exact absurd H (by simp)
          ·rw[if_neg c18] at H
           exact absurd H (by simp)
         ·rw[if_neg c17] at H
          have c17b0:(t145 == 0)=false:=beq_eq_false_iff_ne.mpr c17;have c17b1:(t145 != 0)=true:=bne_iff_ne.mpr c17;obtain rfl:=Option.some.inj H
          try go_wp2
          have n0_:=Sd.mk (Kd.R_drew HO_5.out);have n1_:=Sd.mk (Kd.N_drew HO_6.out);have n2_:=Sd.mk (Kd.R_drew HO_7.out);have n3_:=Sd.mk (Kd.N_drew HO_8.out);have n4_:=Sd.mk (below_drew1 HB.out);clear HO_5;clear HO_6;clear HO_7;clear HO_8;clear HB;have HO_5:=n0_;have HO_6:=n1_;have HO_7:=n2_;have HO_8:=n3_;have HB:=n4_;clear n0_ n1_ n2_ n3_ n4_;obtain⟨Ao46,co46,eo46⟩:=Kd.N_slice HO_6.out
          (first|subst eo46|(injection eo46 with f1_ f2_ f3_;have f4_:=f1_.symm;have f5_:=f3_.symm;clear f1_ f2_ f3_;subst f4_;subst f5_))
          have p143:0≤(x9_1:Int):=dz;have q143:x9_1<(t134.length:Int):=dz;obtain⟨ad143,A143_0,c143_0,e143,hx143_0,hl143_0,hi143_0⟩:=at_L1 (Kd.N_reads' HO_6.out).2.2 x9_1 p143 q143;cases e143;obtain⟨ce143,hce143,hMe143,hcc143⟩:=Kd.N_get HO_6.out [] x9_1 p143 (by first|exact q143|exact dz|(have e_:=(Kd.N_reads' HO_6.out).1;omega));obtain⟨ua143_0,uc143_0,rfl,ul143_0,ge143_0⟩:=Kd.FK_slice_open hMe143;have hv143_0:=hcc143 0 _ rfl;rw[Nat.add_zero,show ((Kd.slice 3 (Kd.int .i64))).sz=1 from rfl,Nat.mul_one] at hv143_0;replace hv143_0:=Option.some.inj (hv143_0.symm.trans hx143_0)
          injection hv143_0 with hva_ hvn_ hvc_
          rw[hva_] at ge143_0;rw[hvc_] at ul143_0;have HL143_0:=Sd.mk (show Kd.V (Kd.int .i64) 3 _ w.heap.size _ _ (rd_L1 t134 x9_1) from Kd.V_mk ul143_0 ge143_0);clear hva_ hvn_ hvc_ ge143_0 ul143_0;clear hcc143 hce143;have HR143_0:=Sd.mk hi143_0;have HC143_0:=Sd.mk hl143_0;clear hi143_0 hl143_0;replace p143:=eq_true p143;replace q143:=eq_true q143;obtain⟨Ao47,co47,eo47⟩:=Kd.N_slice HO_8.out
          (first|subst eo47|(injection eo47 with f1_ f2_ f3_;have f4_:=f1_.symm;have f5_:=f3_.symm;clear f1_ f2_ f3_;subst f4_;subst f5_))
          have p144:0≤(x9_1:Int):=dz;have q144:x9_1<(t140.length:Int):=dz;obtain⟨ad144,A144_0,c144_0,e144,hx144_0,hl144_0,hi144_0⟩:=at_L1 (Kd.N_reads' HO_8.out).2.2 x9_1 p144 q144;cases e144;obtain⟨ce144,hce144,hMe144,hcc144⟩:=Kd.N_get HO_8.out [] x9_1 p144 (by first|exact q144|exact dz|(have e_:=(Kd.N_reads' HO_8.out).1;omega));obtain⟨ua144_0,uc144_0,rfl,ul144_0,ge144_0⟩:=Kd.FK_slice_open hMe144;have hv144_0:=hcc144 0 _ rfl;rw[Nat.add_zero,show ((Kd.slice 3 (Kd.int .i64))).sz=1 from rfl,Nat.mul_one] at hv144_0;replace hv144_0:=Option.some.inj (hv144_0.symm.trans hx144_0)
          injection hv144_0 with hva_ hvn_ hvc_
          rw[hva_] at ge144_0;rw[hvc_] at ul144_0;have HL144_0:=Sd.mk (show Kd.V (Kd.int .i64) 3 _ w.heap.size _ _ (rd_L1 t140 x9_1) from Kd.V_mk ul144_0 ge144_0);clear hva_ hvn_ hvc_ ge144_0 ul144_0;clear hcc144 hce144;have HR144_0:=Sd.mk hi144_0;have HC144_0:=Sd.mk hl144_0;clear hi144_0 hl144_0;replace p144:=eq_true p144;replace q144:=eq_true q144;refine start_ (n:=10) (S:=fun w'=>w'.cell? (ad143.add (x9_1).toNat)=some (.slice A143_0 (rd_L1 t134 x9_1).length c143_0)∧w'.cell? (ad144.add (x9_1).toNat)=some (.slice A144_0 (rd_L1 t140 x9_1).length c144_0)) (ds:=[]) #[F,F,F,F,F,F,F,F,F,F] (by kernel_rfl) rfl rfl ⟨hx143_0,hx144_0⟩ (fun hHeld=>?_);refine with_tabW spec_l1Compare.tab6 spec_l1Compare.bits6 (fun HT_ HW_=>?_)
          generalize wc.drew=w45 at HO_5 HO_6 HO_7 HO_8 HB HL143_0 HL144_0 HR143_0 HR144_0 hx143_0 hx144_0 hHeld ⊢
          refine pq 0 (some 33) HT_.out rfl rfl ?_;refine pq 1 (some 34) HT_.out rfl rfl ?_;refine pq 2 (some 35) HT_.out rfl rfl ?_;refine pq 4 (some 37) HT_.out rfl rfl ?_;refine pq 5 (some 38) HT_.out rfl rfl ?_;refine pq 6 (some 39) HT_.out rfl rfl ?_;refine take_ (i:=3) (N:=some 36) (v:=?_) (a':=?_) #[T,T,T,T,T,T,T,F,F,F] rfl rfl (take_ofW HT_.out HW_.out (by kernel_rfl)) (fun _ _ _ h=>h) (Or.inl ⟨by rfl,?_⟩) hHeld ?_ ?_
          rotate_left;(· rintro w' ⟨s0,s1⟩;go_simp;with_reducible rfl);rotate_left;(· simp only[Act.put,s1,s2,s3,i64_w,i32_w];rfl)
          refine take_ (i:=7) (N:=some 40) (v:=?_) (a':=?_) #[T,T,T,T,T,T,T,T,F,F] rfl rfl (take_ofW HT_.out HW_.out (by kernel_rfl)) (fun _ _ _ h=>h) (Or.inl ⟨by rfl,?_⟩) hHeld ?_ ?_
          rotate_left;(· rintro w' ⟨s0,s1⟩;go_simp;with_reducible rfl);rotate_left;(· simp only[Act.put,s1,s2,s3,i64_w,i32_w];rfl)
          refine one_ (i:=8) (N:=some 41) #[T,T,T,T,T,T,T,T,T,F] rfl rfl (one_of HT_.out (by kernel_rfl)) (by decide) (fun K hK=>?_);refine goes_ Try.func53 (by kernel_rfl) rfl #[.slice A143_0 (rd_L1 t134 x9_1).length c143_0,.slice A144_0 (rd_L1 t140 x9_1).length c144_0] (by rfl) rfl rfl az ?_
          with_reducible refine(ih kj6 (by have:=HK1.out;have:=HJ6.out;omega) _ _ (rd_L1 t134 x9_1) _ _ (rd_L1 t140 x9_1) t145 _ ?side1 ?side2 ?side3 ?side4 A16.out).mono ?_
          (case side1=>exact(Kd.Cz HR143_0.out))
          (case side2=>exact HC143_0.out)
          (case side3=>exact(Kd.Cz HR144_0.out))
          (case side4=>exact HC144_0.out)
          rintro e w48 ⟨rfl,hb⟩;have HS0_:=(hb.cell (World.block_lt_of_cell? _ _ (hHeld.1))).trans (hHeld.1);have HS1_:=(hb.cell (World.block_lt_of_cell? _ _ (hHeld.2))).trans (hHeld.2);refine⟨_,rfl,?_⟩;have n0_:=Sd.mk (Kd.R_below (Kd.Rz HO_5.out) hb);have n1_:=Sd.mk (Kd.N_below (Kd.Nz HO_6.out) hb);have n2_:=Sd.mk (Kd.R_below (Kd.Rz HO_7.out) hb);have n3_:=Sd.mk (Kd.N_below (Kd.Nz HO_8.out) hb);have n4_:=Sd.mk (Kd.V_below (Kd.Vz HL143_0.out) hb);have n5_:=Sd.mk (Kd.V_below (Kd.Vz HL144_0.out) hb);have n6_:=Sd.mk (Kd.C_below (Kd.Cz HR143_0.out) hb);have n7_:=Sd.mk (Kd.C_below (Kd.Cz HR144_0.out) hb);have n8_:=Sd.mk (below_step bz hb);clear HO_5;clear HO_6;clear HO_7;clear HO_8;clear HL143_0;clear HL144_0;clear HR143_0;clear HR144_0;clear HB;have HO_5:=n0_;have HO_6:=n1_;have HO_7:=n2_;have HO_8:=n3_;have HL143_0:=n4_;have HL144_0:=n5_;have HR143_0:=n6_;have HR144_0:=n7_;have HB:=n8_;clear n0_ n1_ n2_ n3_ n4_ n5_ n6_ n7_ n8_
          (try clear hb)
          (try clear hb2)
          (try clear hk)
          (try clear hi)
          refine hK.out _ _ ⟨HS0_,HS1_⟩ (fun hHeld=>?_);clear hK K;refine norm_ (a':=?_) ?_ ?_
          rotate_left
          ·show Act.put _ (some 41) _=_
           simp only[Act.put,s1,s2,s3,i64_w,i32_w]
           rfl
          refine pq 9 (some 10) HT_.out rfl rfl ?_;refine done_ (done_of HT_.out (by kernel_rfl)) ?_
          try go_wp2
          go_ret;exact⟨by first|rfl|(simp[errW_none,errW_some]<;>rfl)|(simp[*,errW_none,errW_some]<;>rfl),bz⟩
        ·rw[if_neg c15] at H
         exact absurd H (by simp)
       ·rw[if_neg c14] at H
        exact absurd H (by simp)
      ·rw[if_neg c13] at H
       exact absurd H (by simp)
     ·replace c12:=Bool.eq_false_iff.mpr c12
      subst c12
      have H1:(if(t131.length:Int)<(t137.length:Int) then(some (-1)) else(if(t131.length:Int)>(t137.length:Int) then(some 1) else(some 0)))=some r:=by rw[if_neg (show ¬ (false=true) by decide)] at H;exact H
      clear H;have H:=H1;clear H1
      by_cases c49:(t131.length:Int)<(t137.length:Int)
      ·rw[if_pos c49] at H
       have c49b0:decide ((t131.length:Int)<(t137.length:Int))=true:=decide_eq_true c49;have c49b1:decide (t131.length<t137.length)=true:=decide_eq_true (Int.ofNat_lt.mp c49);clear c49;obtain rfl:=Option.some.inj H;obtain⟨Ao50,co50,eo50⟩:=Kd.R_slice HO_5.out;subst eo50;obtain⟨Ao51,co51,eo51⟩:=Kd.R_slice HO_7.out;subst eo51;go_wp2;go_ret;exact⟨by first|rfl|(simp[errW_none,errW_some]<;>rfl)|(simp[*,errW_none,errW_some]<;>rfl),bz⟩
      ·rw[if_neg c49] at H
       have c49b0:decide ((t131.length:Int)<(t137.length:Int))=false:=decide_eq_false c49;have c49b1:decide (t131.length<t137.length)=false:=decide_eq_false (fun h=>c49 (Int.ofNat_lt.mpr h));clear c49
       by_cases c52:(t131.length:Int)>(t137.length:Int)
       ·rw[if_pos c52] at H
        have c52b0:decide ((t137.length:Int)<(t131.length:Int))=true:=decide_eq_true c52;have c52b1:decide (t137.length<t131.length)=true:=decide_eq_true (Int.ofNat_lt.mp c52);clear c52;obtain rfl:=Option.some.inj H;obtain⟨Ao53,co53,eo53⟩:=Kd.R_slice HO_5.out;subst eo53;obtain⟨Ao54,co54,eo54⟩:=Kd.R_slice HO_7.out;subst eo54;go_wp2;go_ret;exact⟨by first|rfl|(simp[errW_none,errW_some]<;>rfl)|(simp[*,errW_none,errW_some]<;>rfl),bz⟩
       ·rw[if_neg c52] at H
        have c52b0:decide ((t137.length:Int)<(t131.length:Int))=false:=decide_eq_false c52;have c52b1:decide (t137.length<t131.length)=false:=decide_eq_false (fun h=>c52 (Int.ofNat_lt.mpr h));clear c52;obtain rfl:=Option.some.inj H;obtain⟨Ao55,co55,eo55⟩:=Kd.R_slice HO_5.out;subst eo55;obtain⟨Ao56,co56,eo56⟩:=Kd.R_slice HO_7.out;subst eo56;go_wp2;go_ret;exact⟨by first|rfl|(simp[errW_none,errW_some]<;>rfl)|(simp[*,errW_none,errW_some]<;>rfl),bz⟩
end Go.Proofs.Ytfblcanijhnhmaa.P