/- One Go function comes to what its Lean function tells. -/
import Derived.Test.YtfkecmnklpjelaaP0
import Derived.Test.YtfkecmnklpjelaaPspecl1Terms
namespace Go.Proofs.Ytfkecmnklpjelaa.P
open Go.RowKit YtfkecmnklpjelaaW.PrintWords YtfkecmnklpjelaaW.PrintLast YtfkecmnklpjelaaW.PrintMore
set_option linter.unusedVariables false
set_option linter.unusedSimpArgs false
/-! ### spec_l1Compare: function 45 -/
mutual
def spec_l1Compare.l0:Nat→List Int→List (List Int)→List Int→List (List Int)→Int→Option (Int)
 | 0,_,_,_,_,_=>none
 | k+1,x5,x6,x7,x8,x9=>if x9<(x5.length:Int) then(spec_l1Compare.j1 k x5 x6 x7 x8 x9 (decide (x9<(x7.length:Int)))) else(spec_l1Compare.j1 k x5 x6 x7 x8 x9 false)
def spec_l1Compare.j1:Nat→List Int→List (List Int)→List Int→List (List Int)→Int→Bool→Option (Int)
 | 0,_,_,_,_,_,_=>none
 | k+1,x5,x6,x7,x8,x9,x30=>if x30=true then(if 0≤x9 then(if x9<(x6.length:Int) then(if x9<(x8.length:Int) then((spec_l1Compare.f k (rd_L1 x6 x9) (rd_L1 x8 x9)).bind fun t136=>(if t136=0 then(if x9<(x5.length:Int) then(if x9<(x7.length:Int) then(if(rd x5 x9)=(rd x7 x9) then(spec_l1Compare.l0 k x5 x6 x7 x8 (wrap64 (x9+1))) else(if(rd x5 x9)<(rd x7 x9) then(some (-1)) else(some 1))) else(none)) else(none)) else(some t136))) else(none)) else(none)) else(none)) else(if(x5.length:Int)<(x7.length:Int) then(some (-1)) else(if(x5.length:Int)>(x7.length:Int) then(some 1) else(some 0)))
def spec_l1Compare.f:Nat→List Int→List Int→Option (Int)
 | 0,_,_=>none
 | k+1,l0,l1=>(spec_l1Terms.f k l0).bind fun bt122=>((spec_l1Terms.f k l1).bind fun bt128=>(spec_l1Compare.l0 k bt122.1 bt122.2 bt128.1 bt128.2 0))
end
theorem spec_l1Compare.mono_l:∀ k,(∀ y0 y1,LeO (spec_l1Compare.f k y0 y1) (spec_l1Compare.f (k+1) y0 y1))∧(∀ y0 y1 y2 y3 y4,LeO (spec_l1Compare.l0 k y0 y1 y2 y3 y4) (spec_l1Compare.l0 (k+1) y0 y1 y2 y3 y4))∧(∀ y0 y1 y2 y3 y4 y5,LeO (spec_l1Compare.j1 k y0 y1 y2 y3 y4 y5) (spec_l1Compare.j1 (k+1) y0 y1 y2 y3 y4 y5))
 | 0=>⟨fun _ _ r h=>by simp[spec_l1Compare.f] at h,fun _ _ _ _ _ r h=>by simp[spec_l1Compare.l0] at h,fun _ _ _ _ _ _ r h=>by simp[spec_l1Compare.j1] at h⟩
 | k+1=>by
  obtain⟨ih0,ih1,ih2⟩:=spec_l1Compare.mono_l k
  refine⟨?_,?_,?_⟩
  ·intro y0 y1
   unfold spec_l1Compare.f
   repeat' first|(with_reducible first|exact ih0 _ _|exact ih1 _ _ _ _ _|exact spec_l1Terms.mono _ _|exact LeO.refl _|exact LeO.none _|refine LeO.ite ?_ ?_|refine LeO.bind ?_ (fun _=>?_))|exact ih0 _ _|exact ih1 _ _ _ _ _|exact spec_l1Terms.mono _ _|exact LeO.none _|refine LeO.ite ?_ ?_|refine LeO.bind ?_ (fun _=>?_)
  ·intro y0 y1 y2 y3 y4
   unfold spec_l1Compare.l0
   repeat' first|(with_reducible first|exact ih1 _ _ _ _ _|exact ih2 _ _ _ _ _ _|exact LeO.refl _|exact LeO.none _|refine LeO.ite ?_ ?_|refine LeO.bind ?_ (fun _=>?_))|exact ih1 _ _ _ _ _|exact ih2 _ _ _ _ _ _|exact LeO.none _|refine LeO.ite ?_ ?_|refine LeO.bind ?_ (fun _=>?_)
  ·intro y0 y1 y2 y3 y4 y5
   unfold spec_l1Compare.j1
   repeat' first|(with_reducible first|exact ih0 _ _|exact ih1 _ _ _ _ _|exact ih2 _ _ _ _ _ _|exact LeO.refl _|exact LeO.none _|refine LeO.ite ?_ ?_|refine LeO.bind ?_ (fun _=>?_))|exact ih0 _ _|exact ih1 _ _ _ _ _|exact ih2 _ _ _ _ _ _|exact LeO.none _|refine LeO.ite ?_ ?_|refine LeO.bind ?_ (fun _=>?_)
theorem spec_l1Compare.mono:∀ a0 a1 k,LeO (spec_l1Compare.f k a0 a1) (spec_l1Compare.f (k+1) a0 a1):=by
 intro a0 a1 k
 obtain⟨ih0,ih1,ih2⟩:=spec_l1Compare.mono_l k
 exact ih0 a0 a1
def spec_l1Compare.T6:Bool × List (List Nat × List Nat):=(true,[([],[]),([],[]),([0,1],[0,1]),([2],[2]),([],[]),([],[]),([4,5],[4,5]),([6],[6]),([3,7],[3,7]),([8,8,0,1,2,3,4,5,6,7,8],[8])])
def spec_l1Compare.B6:List Nat:=[0,0,3,7,0,0,48,112,255,511]
theorem spec_l1Compare.tab6:rtab .any (opsOf Try.f45 6)=spec_l1Compare.T6:=by kernel_rfl
theorem spec_l1Compare.bits6:waitsOk spec_l1Compare.T6.2 spec_l1Compare.B6=true:=by kernel_rfl
def spec_l1Compare.T9:Bool × List (List Nat × List Nat):=(true,[([],[]),([],[]),([0,1],[0,1]),([2],[2]),([],[]),([],[]),([4,5],[4,5]),([6],[6]),([3,7],[3,7])])
def spec_l1Compare.B9:List Nat:=[0,0,3,7,0,0,48,112,255]
theorem spec_l1Compare.tab9:rtab .any (opsOf Try.f45 9)=spec_l1Compare.T9:=by kernel_rfl
theorem spec_l1Compare.bits9:waitsOk spec_l1Compare.T9.2 spec_l1Compare.B9=true:=by kernel_rfl
def spec_l1Compare.T10:Bool × List (List Nat × List Nat):=(true,[([],[]),([],[]),([0,1],[0,1]),([2],[2]),([],[]),([],[]),([4,5],[4,5]),([6],[6]),([3,7],[3,7])])
def spec_l1Compare.B10:List Nat:=[0,0,3,7,0,0,48,112,255]
theorem spec_l1Compare.tab10:rtab .any (opsOf Try.f45 10)=spec_l1Compare.T10:=by kernel_rfl
theorem spec_l1Compare.bits10:waitsOk spec_l1Compare.T10.2 spec_l1Compare.B10=true:=by kernel_rfl
set_option maxHeartbeats 8000000 in
set_option maxRecDepth 100000 in
theorem spec_l1Compare.calls (k:Nat):∀ (A0:Option Addr) (c0:Nat) (l0:List Int) (A1:Option Addr) (c1:Nat) (l1:List Int) (r:Int) (w:World) (hr0:Kd.C (Kd.int .i64) w A0 l0.length l0) (hc0:l0.length≤c0) (hr1:Kd.C (Kd.int .i64) w A1 l1.length l1) (hc1:l1.length≤c1) (h:spec_l1Compare.f k l0 l1=some r),
  Calls Try.prog 45 #[.slice A0 l0.length c0,.slice A1 l1.length c1] w fun e w'=>e=.returned (.int .i64 r)∧Below w.heap.size w w':=by
 induction k using Nat.strongRecOn with
 | _ k ih =>
 intro A0 c0 l0 A1 c1 l1 r w hr0 hc0 hr1 hc1 h
 cases k with
 | zero=>exact absurd h (by simp[spec_l1Compare.f])
 | succ k =>
 simp only[spec_l1Compare.f] at h
 have HR0:=Sd.mk hr0
 have HC0:=Sd.mk hc0
 clear hr0 hc0
 have HR1:=Sd.mk hr1
 have HC1:=Sd.mk hc1
 clear hr1 hc1
 have HB:=Sd.mk (Below.refl w.heap.size w)
 have H:((spec_l1Terms.f k l0).bind fun bt122=>((spec_l1Terms.f k l1).bind fun bt128=>(spec_l1Compare.l0 k bt122.1 bt122.2 bt128.1 bt128.2 0)))=some r:=h
 clear h
 replace H:=Option.bind_eq_some_iff.mp H
 obtain⟨⟨t122,t125⟩,A30,H⟩:=H
 replace H:((spec_l1Terms.f k l1).bind fun bt128=>(spec_l1Compare.l0 k t122 t125 bt128.1 bt128.2 0))=some r:=H
 have A3:=Sd.mk A30
 clear A30
 replace H:=Option.bind_eq_some_iff.mp H
 obtain⟨⟨t128,t131⟩,A40,H⟩:=H
 replace H:(spec_l1Compare.l0 k t122 t125 t128 t131 0)=some r:=H
 have A4:=Sd.mk A40
 clear A40
 have H':=Sd.mk H
 clear H
 go_enter Try.func45,Try.ntmps45
 go_wp2_with (first|((with_reducible refine gate_callee (f:=46) rfl ?_);refine goesL_ (some 13) rfl rfl Try.func46 (by kernel_rfl) rfl #[.slice A0 l0.length c0] rfl az ?_;(with_reducible refine(spec_l1Terms.calls k (fun k_=>k_<w.heap.size) _ _ l0 t122 t125 _ ?side1 A3.out).mono ?_);(case side1=>exact Kd.V_mk HC0.out (Kd.F_below (Kd.C_F (Kd.heap_int .i64) HR0.out) bz));rintro e w5 ⟨v123,v126,rfl,ho0,ho1,hb⟩;refine⟨_,rfl,?_⟩;have HO124:=Sd.mk (Kd.R_lower (Kd.R_mono (ok':=fun k_=>True) ho0 (fun _ hk_=>trivial)) (below_size bz));have HO127:=Sd.mk (Kd.N_lower (Kd.N_mono (ok':=fun k_=>some k_≠(v123:Value).ownBlock) ho1 (fun k_ hk_=>hk_.2)) (below_size bz));replace HB:=Sd.mk (below_step bz hb);(try clear hb);(try clear hb2);(try clear hk);(try clear hi);(try clear ho0);(try clear ho1))|((with_reducible refine gate_callee (f:=46) rfl ?_);refine goesL_ (some 18) rfl rfl Try.func46 (by kernel_rfl) rfl #[.slice A1 l1.length c1] rfl az ?_;(with_reducible refine(spec_l1Terms.calls k (fun k_=>k_<w.heap.size) _ _ l1 t128 t131 _ ?side1 A4.out).mono ?_);(case side1=>exact Kd.V_mk HC1.out (Kd.F_below (Kd.C_F (Kd.heap_int .i64) HR1.out) bz));rintro e w6 ⟨v129,v132,rfl,ho0,ho1,hb⟩;refine⟨_,rfl,?_⟩;have HO130:=Sd.mk (Kd.R_lower (Kd.R_new' (Kd.R_mono (ok':=fun k_=>True) ho0 (fun _ hk_=>trivial)) (Kd.R_lt (Kd.Rz HO124.out))) (below_size bz));have HO133:=Sd.mk (Kd.N_lower (Kd.N_mono (ok':=fun k_=>some k_≠(v129:Value).ownBlock∧some k_≠(v123:Value).ownBlock∧some k_≠(v126:Value).ownBlock) ho1 (fun k_ hk_=>⟨hk_.2,Or.elim hk_.1 (fun hs_=>fun e_=>Nat.not_le.2 hs_ (Kd.R_base HO124.out k_ e_.symm)) (fun hn_=>(Kd.fresh' (Kd.R_lt (Kd.Rz HO124.out)) k_ hn_)),Or.elim hk_.1 (fun hs_=>fun e_=>Nat.not_le.2 hs_ (Kd.N_base HO127.out k_ e_.symm)) (fun hn_=>(Kd.fresh' (Kd.N_lt (Kd.Nz HO127.out)) k_ hn_))⟩)) (below_size bz));replace HO124:=Sd.mk (Kd.R_elder' (Kd.Rz HO124.out) (Kd.R_base ho0) hb);replace HO127:=Sd.mk (Kd.N_mono (Kd.N_told (Kd.N_told (Kd.N_old (Kd.Nz HO127.out) hb) (Kd.R_base ho0)) (Kd.N_base ho1)) (fun _ h_=>h_.1));replace HB:=Sd.mk (below_step bz hb);(try clear hb);(try clear hb2);(try clear hk);(try clear hi);(try clear ho0);(try clear ho1)))
 go_loopg [9] k (fun kq v9 w'=>∃ (x9_1:Int),v9=.int .i64 x9_1∧Sd (spec_l1Compare.l0 kq t122 t125 t128 t131 x9_1=some r)∧Sd (kq≤k)∧Sd (Kd.R (Kd.int .i64) 3 w' w.heap.size (fun k_=>some k_≠(v129:Value).ownBlock) v123 t122)∧Sd (Kd.N (Kd.slice 3 (Kd.int .i64)) 22 w' w.heap.size (fun k_=>some k_≠(v123:Value).ownBlock∧some k_≠(v129:Value).ownBlock∧some k_≠(v132:Value).ownBlock) v126 t125)∧Sd (Kd.R (Kd.int .i64) 3 w' w.heap.size (fun k_=>some k_≠(v123:Value).ownBlock) v129 t128)∧Sd (Kd.N (Kd.slice 3 (Kd.int .i64)) 22 w' w.heap.size (fun k_=>some k_≠(v123:Value).ownBlock∧some k_≠(v126:Value).ownBlock∧some k_≠(v129:Value).ownBlock) v132 t131)∧Sd (Below w.heap.size w w'))
 case atStart=>exact⟨(0),(by first|rfl|(simp;done)|(simp[*];done)),H',⟨Nat.le_refl _⟩,⟨Kd.Rz <| Kd.R_mono HO124.out (fun _ hk=>hk.2)⟩,⟨Kd.Nz <| Kd.N_mono HO127.out (fun _ hk=>⟨hk.1.1,⟨hk.1.2,hk.2⟩⟩)⟩,⟨Kd.Rz <| Kd.R_mono HO130.out (fun _ hk=>hk.2)⟩,⟨Kd.Nz <| Kd.N_mono HO133.out (fun _ hk=>⟨hk.2.1,⟨hk.2.2,hk.1⟩⟩)⟩,⟨bz⟩⟩
 case round =>
  clear H'
  try clear c1
  try clear p2
  try clear c4
  obtain⟨x9_1,rfl,HA,HK1,HO_5,HO_6,HO_7,HO_8,HB⟩:=hrel
  cases gk with
  | zero=>exact absurd HA.out (by simp[spec_l1Compare.l0])
  | succ k1 =>
   have H:=HA.out
   clear HA
   simp only[spec_l1Compare.l0] at H
   have HC7:=Sd.mk H
   clear H
   go_upto_region 4 with (fail)
   go_cut [30] (fun v30 wc=>∃ (kq:Nat) (x30_6:Bool),v30=.bool x30_6∧Sd (spec_l1Compare.j1 kq t122 t125 t128 t131 x9_1 x30_6=some r)∧Sd (kq≤k1)∧Sd (Kd.R (Kd.int .i64) 3 wc w.heap.size (fun k_=>some k_≠(v129:Value).ownBlock) v123 t122)∧Sd (Kd.N (Kd.slice 3 (Kd.int .i64)) 22 wc w.heap.size (fun k_=>some k_≠(v123:Value).ownBlock∧some k_≠(v129:Value).ownBlock∧some k_≠(v132:Value).ownBlock) v126 t125)∧Sd (Kd.R (Kd.int .i64) 3 wc w.heap.size (fun k_=>some k_≠(v123:Value).ownBlock) v129 t128)∧Sd (Kd.N (Kd.slice 3 (Kd.int .i64)) 22 wc w.heap.size (fun k_=>some k_≠(v123:Value).ownBlock∧some k_≠(v126:Value).ownBlock∧some k_≠(v129:Value).ownBlock) v132 t131)∧Sd (Below w.heap.size w wc))
   case first =>
    have H:=HC7.out
    clear HC7
    by_cases c8:x9_1<(t122.length:Int)
    ·rw[if_pos c8] at H
     have c8b0:decide (x9_1<(t122.length:Int))=true:=decide_eq_true c8
     clear c8
     (first|rw[c8b0]|(simp only[i64_w,i32_w];rw[c8b0])|skip)
     have H':=Sd.mk H
     clear H
     obtain⟨Ao9,co9,eo9⟩:=Kd.R_slice HO_5.out
     subst eo9
     obtain⟨Ao10,co10,eo10⟩:=Kd.R_slice HO_7.out
     subst eo10
     go_wp2
     go_meet
     case rel=>exact⟨_,(decide (x9_1<(t128.length:Int))),(by first|rfl|(simp;done)|(simp[*];done)),H',⟨by have:=HK1.out;first|omega|exact Nat.le_refl _⟩,⟨by(with_reducible repeat (first|apply Kd.R_alloc|apply Kd.R_drewN|apply Kd.R_drew));exact HO_5.out⟩,⟨by(with_reducible repeat (first|apply Kd.N_alloc|apply Kd.N_drewN|apply Kd.N_drew));exact HO_6.out⟩,⟨by(with_reducible repeat (first|apply Kd.R_alloc|apply Kd.R_drewN|apply Kd.R_drew));exact HO_7.out⟩,⟨by(with_reducible repeat (first|apply Kd.N_alloc|apply Kd.N_drewN|apply Kd.N_drew));exact HO_8.out⟩,⟨bz⟩⟩
    ·rw[if_neg c8] at H
     have c8b0:decide (x9_1<(t122.length:Int))=false:=decide_eq_false c8
     clear c8
     (first|rw[c8b0]|(simp only[i64_w,i32_w];rw[c8b0])|skip)
     have H':=Sd.mk H
     clear H
     obtain⟨Ao11,co11,eo11⟩:=Kd.R_slice HO_5.out
     subst eo11
     go_wp2
     go_meet
     case rel=>exact⟨_,(false),(by first|rfl|(simp;done)|(simp[*];done)),H',⟨by have:=HK1.out;first|omega|exact Nat.le_refl _⟩,⟨by(with_reducible repeat (first|apply Kd.R_alloc|apply Kd.R_drewN|apply Kd.R_drew));exact HO_5.out⟩,⟨by(with_reducible repeat (first|apply Kd.N_alloc|apply Kd.N_drewN|apply Kd.N_drew));exact HO_6.out⟩,⟨by(with_reducible repeat (first|apply Kd.R_alloc|apply Kd.R_drewN|apply Kd.R_drew));exact HO_7.out⟩,⟨by(with_reducible repeat (first|apply Kd.N_alloc|apply Kd.N_drewN|apply Kd.N_drew));exact HO_8.out⟩,⟨bz⟩⟩
   case rest =>
    clear HC7
    try clear c1
    try clear p2
    try clear c4
    try clear c8
    try clear c8b0
    try clear p2
    obtain⟨kq,x30_6,rfl,HA,HJ6,HO_5,HO_6,HO_7,HO_8,HB⟩:=hcut
    cases kq with
    | zero=>exact absurd HA.out (by simp[spec_l1Compare.j1])
    | succ kj6 =>
     have H:=HA.out
     clear HA
     simp only[spec_l1Compare.j1] at H
     by_cases c12:x30_6=true
     ·subst c12
      have H1:(if 0≤x9_1 then(if x9_1<(t125.length:Int) then(if x9_1<(t131.length:Int) then((spec_l1Compare.f kj6 (rd_L1 t125 x9_1) (rd_L1 t131 x9_1)).bind fun t136=>(if t136=0 then(if x9_1<(t122.length:Int) then(if x9_1<(t128.length:Int) then(if(rd t122 x9_1)=(rd t128 x9_1) then(spec_l1Compare.l0 kj6 t122 t125 t128 t131 (wrap64 (x9_1+1))) else(if(rd t122 x9_1)<(rd t128 x9_1) then(some (-1)) else(some 1))) else(none)) else(none)) else(some t136))) else(none)) else(none)) else(none))=some r:=by rw[if_pos rfl] at H;exact H
      clear H
      have H:=H1
      clear H1
      by_cases c13:0≤x9_1
      ·rw[if_pos c13] at H
       have c13b0:decide (0≤x9_1)=true:=decide_eq_true c13
       clear c13
       by_cases c14:x9_1<(t125.length:Int)
       ·rw[if_pos c14] at H
        have c14b0:decide (x9_1<(t125.length:Int))=true:=decide_eq_true c14
        clear c14
        by_cases c15:x9_1<(t131.length:Int)
        ·rw[if_pos c15] at H
         have c15b0:decide (x9_1<(t131.length:Int))=true:=decide_eq_true c15
         clear c15
         replace H:=Option.bind_eq_some_iff.mp H
         obtain⟨t136,A160,H⟩:=H
         replace H:(if t136=0 then(if x9_1<(t122.length:Int) then(if x9_1<(t128.length:Int) then(if(rd t122 x9_1)=(rd t128 x9_1) then(spec_l1Compare.l0 kj6 t122 t125 t128 t131 (wrap64 (x9_1+1))) else(if(rd t122 x9_1)<(rd t128 x9_1) then(some (-1)) else(some 1))) else(none)) else(none)) else(some t136))=some r:=H
         have A16:=Sd.mk A160
         clear A160
         by_cases c17:t136=0
         ·rw[if_pos c17] at H
          have c17b0:(t136 == 0)=true:=beq_iff_eq.mpr c17
          have c17b1:(t136 != 0)=false:=bne_eq_false_iff_eq.mpr c17
          clear c17
          by_cases c18:x9_1<(t122.length:Int)
          ·rw[if_pos c18] at H
           have c18b0:decide (x9_1<(t122.length:Int))=true:=decide_eq_true c18
           clear c18
           by_cases c19:x9_1<(t128.length:Int)
           ·rw[if_pos c19] at H
            have c19b0:decide (x9_1<(t128.length:Int))=true:=decide_eq_true c19
            clear c19
            by_cases c20:(rd t122 x9_1)=(rd t128 x9_1)
            ·rw[if_pos c20] at H
             have c20b0:((rd t122 x9_1) == (rd t128 x9_1))=true:=beq_iff_eq.mpr c20
             have c20b1:((rd t122 x9_1) != (rd t128 x9_1))=false:=bne_eq_false_iff_eq.mpr c20
             clear c20
             have H':=Sd.mk H
             clear H
             try go_wp2
             have n0_:=Sd.mk (Kd.R_drew HO_5.out)
             have n1_:=Sd.mk (Kd.N_drew HO_6.out)
             have n2_:=Sd.mk (Kd.R_drew HO_7.out)
             have n3_:=Sd.mk (Kd.N_drew HO_8.out)
             have n4_:=Sd.mk (below_drew1 HB.out)
             clear HO_5
             clear HO_6
             clear HO_7
             clear HO_8
             clear HB
             have HO_5:=n0_
             have HO_6:=n1_
             have HO_7:=n2_
             have HO_8:=n3_
             have HB:=n4_
             clear n0_ n1_ n2_ n3_ n4_
             obtain⟨Ao22,co22,eo22⟩:=Kd.N_slice HO_6.out
             (first|subst eo22|(injection eo22 with f1_ f2_ f3_;have f4_:=f1_.symm;have f5_:=f3_.symm;clear f1_ f2_ f3_;subst f4_;subst f5_))
             have p134:0≤(x9_1:Int):=dz
             have q134:x9_1<(t125.length:Int):=dz
             obtain⟨ad134,A134_0,c134_0,e134,hx134_0,hl134_0,hi134_0⟩:=at_L1 (Kd.N_reads' HO_6.out).2.2 x9_1 p134 q134
             cases e134
             obtain⟨ce134,hce134,hMe134,hcc134⟩:=Kd.N_get HO_6.out [] x9_1 p134 (by first|exact q134|exact dz|(have e_:=(Kd.N_reads' HO_6.out).1;omega))
             obtain⟨ua134_0,uc134_0,rfl,ul134_0,ge134_0⟩:=Kd.FK_slice_open hMe134
             have hv134_0:=hcc134 0 _ rfl
             rw[Nat.add_zero,show ((Kd.slice 3 (Kd.int .i64))).sz=1 from rfl,Nat.mul_one] at hv134_0
             replace hv134_0:=Option.some.inj (hv134_0.symm.trans hx134_0)
             injection hv134_0 with hva_ hvn_ hvc_
             rw[hva_] at ge134_0
             rw[hvc_] at ul134_0
             have HL134_0:=Sd.mk (show Kd.V (Kd.int .i64) 3 _ w.heap.size _ _ (rd_L1 t125 x9_1) from Kd.V_mk ul134_0 ge134_0)
             clear hva_ hvn_ hvc_ ge134_0 ul134_0
             clear hcc134 hce134
             have HR134_0:=Sd.mk hi134_0
             have HC134_0:=Sd.mk hl134_0
             clear hi134_0 hl134_0
             replace p134:=eq_true p134
             replace q134:=eq_true q134
             obtain⟨Ao23,co23,eo23⟩:=Kd.N_slice HO_8.out
             (first|subst eo23|(injection eo23 with f1_ f2_ f3_;have f4_:=f1_.symm;have f5_:=f3_.symm;clear f1_ f2_ f3_;subst f4_;subst f5_))
             have p135:0≤(x9_1:Int):=dz
             have q135:x9_1<(t131.length:Int):=dz
             obtain⟨ad135,A135_0,c135_0,e135,hx135_0,hl135_0,hi135_0⟩:=at_L1 (Kd.N_reads' HO_8.out).2.2 x9_1 p135 q135
             cases e135
             obtain⟨ce135,hce135,hMe135,hcc135⟩:=Kd.N_get HO_8.out [] x9_1 p135 (by first|exact q135|exact dz|(have e_:=(Kd.N_reads' HO_8.out).1;omega))
             obtain⟨ua135_0,uc135_0,rfl,ul135_0,ge135_0⟩:=Kd.FK_slice_open hMe135
             have hv135_0:=hcc135 0 _ rfl
             rw[Nat.add_zero,show ((Kd.slice 3 (Kd.int .i64))).sz=1 from rfl,Nat.mul_one] at hv135_0
             replace hv135_0:=Option.some.inj (hv135_0.symm.trans hx135_0)
             injection hv135_0 with hva_ hvn_ hvc_
             rw[hva_] at ge135_0
             rw[hvc_] at ul135_0
             have HL135_0:=Sd.mk (show Kd.V (Kd.int .i64) 3 _ w.heap.size _ _ (rd_L1 t131 x9_1) from Kd.V_mk ul135_0 ge135_0)
             clear hva_ hvn_ hvc_ ge135_0 ul135_0
             clear hcc135 hce135
             have HR135_0:=Sd.mk hi135_0
             have HC135_0:=Sd.mk hl135_0
             clear hi135_0 hl135_0
             replace p135:=eq_true p135
             replace q135:=eq_true q135
             refine start_ (n:=10) (S:=fun w'=>w'.cell? (ad134.add (x9_1).toNat)=some (.slice A134_0 (rd_L1 t125 x9_1).length c134_0)∧w'.cell? (ad135.add (x9_1).toNat)=some (.slice A135_0 (rd_L1 t131 x9_1).length c135_0)) (ds:=[]) #[F,F,F,F,F,F,F,F,F,F] (by kernel_rfl) rfl rfl ⟨hx134_0,hx135_0⟩ (fun hHeld=>?_);refine with_tabW spec_l1Compare.tab6 spec_l1Compare.bits6 (fun HT_ HW_=>?_)
             generalize wc.drew=w21 at HO_5 HO_6 HO_7 HO_8 HB HL134_0 HL135_0 HR134_0 HR135_0 hx134_0 hx135_0 hHeld ⊢
             refine pq 0 (some 33) HT_.out rfl rfl ?_
             refine pq 1 (some 34) HT_.out rfl rfl ?_
             refine pq 2 (some 35) HT_.out rfl rfl ?_
             refine pq 4 (some 37) HT_.out rfl rfl ?_
             refine pq 5 (some 38) HT_.out rfl rfl ?_
             refine pq 6 (some 39) HT_.out rfl rfl ?_
             refine take_ (i:=3) (N:=some 36) (v:=?_) (a':=?_) #[T,T,T,T,T,T,T,F,F,F] rfl rfl (take_ofW HT_.out HW_.out (by kernel_rfl)) (fun _ _ _ h=>h) (Or.inl ⟨by rfl,?_⟩) hHeld ?_ ?_
             rotate_left;(· rintro w' ⟨s0,s1⟩;go_simp;with_reducible rfl);rotate_left;(· simp only[Act.put,s1,s2,s3,i64_w,i32_w];rfl)
             refine take_ (i:=7) (N:=some 40) (v:=?_) (a':=?_) #[T,T,T,T,T,T,T,T,F,F] rfl rfl (take_ofW HT_.out HW_.out (by kernel_rfl)) (fun _ _ _ h=>h) (Or.inl ⟨by rfl,?_⟩) hHeld ?_ ?_
             rotate_left;(· rintro w' ⟨s0,s1⟩;go_simp;with_reducible rfl);rotate_left;(· simp only[Act.put,s1,s2,s3,i64_w,i32_w];rfl)
             refine one_ (i:=8) (N:=some 41) #[T,T,T,T,T,T,T,T,T,F] rfl rfl (one_of HT_.out (by kernel_rfl)) (by decide) (fun K hK=>?_)
             refine goes_ Try.func45 (by kernel_rfl) rfl #[.slice A134_0 (rd_L1 t125 x9_1).length c134_0,.slice A135_0 (rd_L1 t131 x9_1).length c135_0] (by rfl) rfl rfl az ?_
             with_reducible refine(ih kj6 (by have:=HK1.out;have:=HJ6.out;omega) _ _ (rd_L1 t125 x9_1) _ _ (rd_L1 t131 x9_1) t136 _ ?side1 ?side2 ?side3 ?side4 A16.out).mono ?_
             (case side1=>exact(Kd.Cz HR134_0.out))
             (case side2=>exact HC134_0.out)
             (case side3=>exact(Kd.Cz HR135_0.out))
             (case side4=>exact HC135_0.out)
             rintro e w24 ⟨rfl,hb⟩
             have HS0_:=(hb.cell (World.block_lt_of_cell? _ _ (hHeld.1))).trans (hHeld.1)
             have HS1_:=(hb.cell (World.block_lt_of_cell? _ _ (hHeld.2))).trans (hHeld.2)
             refine⟨_,rfl,?_⟩
             have n0_:=Sd.mk (Kd.R_below (Kd.Rz HO_5.out) hb)
             have n1_:=Sd.mk (Kd.N_below (Kd.Nz HO_6.out) hb)
             have n2_:=Sd.mk (Kd.R_below (Kd.Rz HO_7.out) hb)
             have n3_:=Sd.mk (Kd.N_below (Kd.Nz HO_8.out) hb)
             have n4_:=Sd.mk (Kd.V_below (Kd.Vz HL134_0.out) hb)
             have n5_:=Sd.mk (Kd.V_below (Kd.Vz HL135_0.out) hb)
             have n6_:=Sd.mk (Kd.C_below (Kd.Cz HR134_0.out) hb)
             have n7_:=Sd.mk (Kd.C_below (Kd.Cz HR135_0.out) hb)
             have n8_:=Sd.mk (below_step bz hb)
             clear HO_5
             clear HO_6
             clear HO_7
             clear HO_8
             clear HL134_0
             clear HL135_0
             clear HR134_0
             clear HR135_0
             clear HB
             have HO_5:=n0_
             have HO_6:=n1_
             have HO_7:=n2_
             have HO_8:=n3_
             have HL134_0:=n4_
             have HL135_0:=n5_
             have HR134_0:=n6_
             have HR135_0:=n7_
             have HB:=n8_
             clear n0_ n1_ n2_ n3_ n4_ n5_ n6_ n7_ n8_
             (try clear hb)
             (try clear hb2)
             (try clear hk)
             (try clear hi)
             refine hK.out _ _ ⟨HS0_,HS1_⟩ (fun hHeld=>?_)
             clear hK K
             refine norm_ (a':=?_) ?_ ?_
             rotate_left
             ·show Act.put _ (some 41) _=_
              simp only[Act.put,s1,s2,s3,i64_w,i32_w]
              rfl
             refine pq 9 (some 10) HT_.out rfl rfl ?_
             refine done_ (done_of HT_.out (by kernel_rfl)) ?_
             try go_wp2
             have n0_:=Sd.mk (Kd.R_drew HO_5.out)
             have n1_:=Sd.mk (Kd.N_drew HO_6.out)
             have n2_:=Sd.mk (Kd.R_drew HO_7.out)
             have n3_:=Sd.mk (Kd.N_drew HO_8.out)
             have n4_:=Sd.mk (Kd.V_drew HL134_0.out)
             have n5_:=Sd.mk (Kd.V_drew HL135_0.out)
             have n6_:=Sd.mk (Kd.C_drew HR134_0.out)
             have n7_:=Sd.mk (Kd.C_drew HR135_0.out)
             have n8_:=Sd.mk (below_drew1 HB.out)
             clear HO_5
             clear HO_6
             clear HO_7
             clear HO_8
             clear HL134_0
             clear HL135_0
             clear HR134_0
             clear HR135_0
             clear HB
             have HO_5:=n0_
             have HO_6:=n1_
             have HO_7:=n2_
             have HO_8:=n3_
             have HL134_0:=n4_
             have HL135_0:=n5_
             have HR134_0:=n6_
             have HR135_0:=n7_
             have HB:=n8_
             clear n0_ n1_ n2_ n3_ n4_ n5_ n6_ n7_ n8_
             obtain⟨Ao26,co26,eo26⟩:=Kd.R_slice HO_5.out
             (first|subst eo26|(injection eo26 with f1_ f2_ f3_;have f4_:=f1_.symm;have f5_:=f3_.symm;clear f1_ f2_ f3_;subst f4_;subst f5_))
             have p137:0≤(x9_1:Int):=dz
             have q137:x9_1<(t122.length:Int):=dz
             obtain⟨ad137,e137,hx137_0⟩:=Kd.at_int (Kd.R_reads' HO_5.out).2.2 x9_1 p137 q137
             cases e137
             replace p137:=eq_true p137
             replace q137:=eq_true q137
             obtain⟨Ao27,co27,eo27⟩:=Kd.R_slice HO_7.out
             (first|subst eo27|(injection eo27 with f1_ f2_ f3_;have f4_:=f1_.symm;have f5_:=f3_.symm;clear f1_ f2_ f3_;subst f4_;subst f5_))
             have p138:0≤(x9_1:Int):=dz
             have q138:x9_1<(t128.length:Int):=dz
             obtain⟨ad138,e138,hx138_0⟩:=Kd.at_int (Kd.R_reads' HO_7.out).2.2 x9_1 p138 q138
             cases e138
             replace p138:=eq_true p138
             replace q138:=eq_true q138
             refine start_ (n:=9) (S:=fun w'=>w'.cell? (ad137.add (x9_1).toNat)=some (.int .i64 (rd t122 x9_1))∧w'.cell? (ad138.add (x9_1).toNat)=some (.int .i64 (rd t128 x9_1))) (ds:=[]) #[F,F,F,F,F,F,F,F,F] (by kernel_rfl) rfl rfl ⟨hx137_0,hx138_0⟩ (fun hHeld=>?_);refine with_tabW spec_l1Compare.tab9 spec_l1Compare.bits9 (fun HT_ HW_=>?_)
             generalize w24.drew=w25 at HO_5 HO_6 HO_7 HO_8 HL134_0 HL135_0 HR134_0 HR135_0 HB hx137_0 hx138_0 hHeld ⊢
             refine pq 0 (some 45) HT_.out rfl rfl ?_
             refine pq 1 (some 46) HT_.out rfl rfl ?_
             refine pq 2 (some 47) HT_.out rfl rfl ?_
             refine pq 4 (some 49) HT_.out rfl rfl ?_
             refine pq 5 (some 50) HT_.out rfl rfl ?_
             refine pq 6 (some 51) HT_.out rfl rfl ?_
             refine take_ (i:=3) (N:=some 48) (v:=?_) (a':=?_) #[T,T,T,T,T,T,T,F,F] rfl rfl (take_ofW HT_.out HW_.out (by kernel_rfl)) (fun _ _ _ h=>h) (Or.inl ⟨by rfl,?_⟩) hHeld ?_ ?_
             rotate_left;(· rintro w' ⟨s0,s1⟩;go_simp;with_reducible rfl);rotate_left;(· simp only[Act.put,s1,s2,s3,i64_w,i32_w];rfl)
             refine take_ (i:=7) (N:=some 52) (v:=?_) (a':=?_) #[T,T,T,T,T,T,T,T,F] rfl rfl (take_ofW HT_.out HW_.out (by kernel_rfl)) (fun _ _ _ h=>h) (Or.inl ⟨by rfl,?_⟩) hHeld ?_ ?_
             rotate_left;(· rintro w' ⟨s0,s1⟩;go_simp;with_reducible rfl);rotate_left;(· simp only[Act.put,s1,s2,s3,i64_w,i32_w];rfl)
             refine pq 8 (some 53) HT_.out rfl rfl ?_
             refine done_ (done_of HT_.out (by kernel_rfl)) ?_
             try go_wp2
             go_roundg kj6
             case measure=>have:=HK1.out;have:=HJ6.out;omega
             case rel=>exact⟨(wrap64 (x9_1+1)),(by first|rfl|(simp;done)|(simp[*];done)),H',⟨by have:=HK1.out;have:=HJ6.out;omega⟩,⟨by(with_reducible repeat (first|apply Kd.R_alloc|apply Kd.R_drewN|apply Kd.R_drew));exact HO_5.out⟩,⟨by(with_reducible repeat (first|apply Kd.N_alloc|apply Kd.N_drewN|apply Kd.N_drew));exact HO_6.out⟩,⟨by(with_reducible repeat (first|apply Kd.R_alloc|apply Kd.R_drewN|apply Kd.R_drew));exact HO_7.out⟩,⟨by(with_reducible repeat (first|apply Kd.N_alloc|apply Kd.N_drewN|apply Kd.N_drew));exact HO_8.out⟩,⟨bz⟩⟩
            ·rw[if_neg c20] at H
             have c20b0:((rd t122 x9_1) == (rd t128 x9_1))=false:=beq_eq_false_iff_ne.mpr c20
             have c20b1:((rd t122 x9_1) != (rd t128 x9_1))=true:=bne_iff_ne.mpr c20
             by_cases c28:(rd t122 x9_1)<(rd t128 x9_1)
             ·rw[if_pos c28] at H
              have c28b0:decide ((rd t122 x9_1)<(rd t128 x9_1))=true:=decide_eq_true c28
              clear c28
              obtain rfl:=Option.some.inj H
              try go_wp2
              have n0_:=Sd.mk (Kd.R_drew HO_5.out)
              have n1_:=Sd.mk (Kd.N_drew HO_6.out)
              have n2_:=Sd.mk (Kd.R_drew HO_7.out)
              have n3_:=Sd.mk (Kd.N_drew HO_8.out)
              have n4_:=Sd.mk (below_drew1 HB.out)
              clear HO_5
              clear HO_6
              clear HO_7
              clear HO_8
              clear HB
              have HO_5:=n0_
              have HO_6:=n1_
              have HO_7:=n2_
              have HO_8:=n3_
              have HB:=n4_
              clear n0_ n1_ n2_ n3_ n4_
              obtain⟨Ao30,co30,eo30⟩:=Kd.N_slice HO_6.out
              (first|subst eo30|(injection eo30 with f1_ f2_ f3_;have f4_:=f1_.symm;have f5_:=f3_.symm;clear f1_ f2_ f3_;subst f4_;subst f5_))
              have p134:0≤(x9_1:Int):=dz
              have q134:x9_1<(t125.length:Int):=dz
              obtain⟨ad134,A134_0,c134_0,e134,hx134_0,hl134_0,hi134_0⟩:=at_L1 (Kd.N_reads' HO_6.out).2.2 x9_1 p134 q134
              cases e134
              obtain⟨ce134,hce134,hMe134,hcc134⟩:=Kd.N_get HO_6.out [] x9_1 p134 (by first|exact q134|exact dz|(have e_:=(Kd.N_reads' HO_6.out).1;omega))
              obtain⟨ua134_0,uc134_0,rfl,ul134_0,ge134_0⟩:=Kd.FK_slice_open hMe134
              have hv134_0:=hcc134 0 _ rfl
              rw[Nat.add_zero,show ((Kd.slice 3 (Kd.int .i64))).sz=1 from rfl,Nat.mul_one] at hv134_0
              replace hv134_0:=Option.some.inj (hv134_0.symm.trans hx134_0)
              injection hv134_0 with hva_ hvn_ hvc_
              rw[hva_] at ge134_0
              rw[hvc_] at ul134_0
              have HL134_0:=Sd.mk (show Kd.V (Kd.int .i64) 3 _ w.heap.size _ _ (rd_L1 t125 x9_1) from Kd.V_mk ul134_0 ge134_0)
              clear hva_ hvn_ hvc_ ge134_0 ul134_0
              clear hcc134 hce134
              have HR134_0:=Sd.mk hi134_0
              have HC134_0:=Sd.mk hl134_0
              clear hi134_0 hl134_0
              replace p134:=eq_true p134
              replace q134:=eq_true q134
              obtain⟨Ao31,co31,eo31⟩:=Kd.N_slice HO_8.out
              (first|subst eo31|(injection eo31 with f1_ f2_ f3_;have f4_:=f1_.symm;have f5_:=f3_.symm;clear f1_ f2_ f3_;subst f4_;subst f5_))
              have p135:0≤(x9_1:Int):=dz
              have q135:x9_1<(t131.length:Int):=dz
              obtain⟨ad135,A135_0,c135_0,e135,hx135_0,hl135_0,hi135_0⟩:=at_L1 (Kd.N_reads' HO_8.out).2.2 x9_1 p135 q135
              cases e135
              obtain⟨ce135,hce135,hMe135,hcc135⟩:=Kd.N_get HO_8.out [] x9_1 p135 (by first|exact q135|exact dz|(have e_:=(Kd.N_reads' HO_8.out).1;omega))
              obtain⟨ua135_0,uc135_0,rfl,ul135_0,ge135_0⟩:=Kd.FK_slice_open hMe135
              have hv135_0:=hcc135 0 _ rfl
              rw[Nat.add_zero,show ((Kd.slice 3 (Kd.int .i64))).sz=1 from rfl,Nat.mul_one] at hv135_0
              replace hv135_0:=Option.some.inj (hv135_0.symm.trans hx135_0)
              injection hv135_0 with hva_ hvn_ hvc_
              rw[hva_] at ge135_0
              rw[hvc_] at ul135_0
              have HL135_0:=Sd.mk (show Kd.V (Kd.int .i64) 3 _ w.heap.size _ _ (rd_L1 t131 x9_1) from Kd.V_mk ul135_0 ge135_0)
              clear hva_ hvn_ hvc_ ge135_0 ul135_0
              clear hcc135 hce135
              have HR135_0:=Sd.mk hi135_0
              have HC135_0:=Sd.mk hl135_0
              clear hi135_0 hl135_0
              replace p135:=eq_true p135
              replace q135:=eq_true q135
              refine start_ (n:=10) (S:=fun w'=>w'.cell? (ad134.add (x9_1).toNat)=some (.slice A134_0 (rd_L1 t125 x9_1).length c134_0)∧w'.cell? (ad135.add (x9_1).toNat)=some (.slice A135_0 (rd_L1 t131 x9_1).length c135_0)) (ds:=[]) #[F,F,F,F,F,F,F,F,F,F] (by kernel_rfl) rfl rfl ⟨hx134_0,hx135_0⟩ (fun hHeld=>?_);refine with_tabW spec_l1Compare.tab6 spec_l1Compare.bits6 (fun HT_ HW_=>?_)
              generalize wc.drew=w29 at HO_5 HO_6 HO_7 HO_8 HB HL134_0 HL135_0 HR134_0 HR135_0 hx134_0 hx135_0 hHeld ⊢
              refine pq 0 (some 33) HT_.out rfl rfl ?_
              refine pq 1 (some 34) HT_.out rfl rfl ?_
              refine pq 2 (some 35) HT_.out rfl rfl ?_
              refine pq 4 (some 37) HT_.out rfl rfl ?_
              refine pq 5 (some 38) HT_.out rfl rfl ?_
              refine pq 6 (some 39) HT_.out rfl rfl ?_
              refine take_ (i:=3) (N:=some 36) (v:=?_) (a':=?_) #[T,T,T,T,T,T,T,F,F,F] rfl rfl (take_ofW HT_.out HW_.out (by kernel_rfl)) (fun _ _ _ h=>h) (Or.inl ⟨by rfl,?_⟩) hHeld ?_ ?_
              rotate_left;(· rintro w' ⟨s0,s1⟩;go_simp;with_reducible rfl);rotate_left;(· simp only[Act.put,s1,s2,s3,i64_w,i32_w];rfl)
              refine take_ (i:=7) (N:=some 40) (v:=?_) (a':=?_) #[T,T,T,T,T,T,T,T,F,F] rfl rfl (take_ofW HT_.out HW_.out (by kernel_rfl)) (fun _ _ _ h=>h) (Or.inl ⟨by rfl,?_⟩) hHeld ?_ ?_
              rotate_left;(· rintro w' ⟨s0,s1⟩;go_simp;with_reducible rfl);rotate_left;(· simp only[Act.put,s1,s2,s3,i64_w,i32_w];rfl)
              refine one_ (i:=8) (N:=some 41) #[T,T,T,T,T,T,T,T,T,F] rfl rfl (one_of HT_.out (by kernel_rfl)) (by decide) (fun K hK=>?_)
              refine goes_ Try.func45 (by kernel_rfl) rfl #[.slice A134_0 (rd_L1 t125 x9_1).length c134_0,.slice A135_0 (rd_L1 t131 x9_1).length c135_0] (by rfl) rfl rfl az ?_
              with_reducible refine(ih kj6 (by have:=HK1.out;have:=HJ6.out;omega) _ _ (rd_L1 t125 x9_1) _ _ (rd_L1 t131 x9_1) t136 _ ?side1 ?side2 ?side3 ?side4 A16.out).mono ?_
              (case side1=>exact(Kd.Cz HR134_0.out))
              (case side2=>exact HC134_0.out)
              (case side3=>exact(Kd.Cz HR135_0.out))
              (case side4=>exact HC135_0.out)
              rintro e w32 ⟨rfl,hb⟩
              have HS0_:=(hb.cell (World.block_lt_of_cell? _ _ (hHeld.1))).trans (hHeld.1)
              have HS1_:=(hb.cell (World.block_lt_of_cell? _ _ (hHeld.2))).trans (hHeld.2)
              refine⟨_,rfl,?_⟩
              have n0_:=Sd.mk (Kd.R_below (Kd.Rz HO_5.out) hb)
              have n1_:=Sd.mk (Kd.N_below (Kd.Nz HO_6.out) hb)
              have n2_:=Sd.mk (Kd.R_below (Kd.Rz HO_7.out) hb)
              have n3_:=Sd.mk (Kd.N_below (Kd.Nz HO_8.out) hb)
              have n4_:=Sd.mk (Kd.V_below (Kd.Vz HL134_0.out) hb)
              have n5_:=Sd.mk (Kd.V_below (Kd.Vz HL135_0.out) hb)
              have n6_:=Sd.mk (Kd.C_below (Kd.Cz HR134_0.out) hb)
              have n7_:=Sd.mk (Kd.C_below (Kd.Cz HR135_0.out) hb)
              have n8_:=Sd.mk (below_step bz hb)
              clear HO_5
              clear HO_6
              clear HO_7
              clear HO_8
              clear HL134_0
              clear HL135_0
              clear HR134_0
              clear HR135_0
              clear HB
              have HO_5:=n0_
              have HO_6:=n1_
              have HO_7:=n2_
              have HO_8:=n3_
              have HL134_0:=n4_
              have HL135_0:=n5_
              have HR134_0:=n6_
              have HR135_0:=n7_
              have HB:=n8_
              clear n0_ n1_ n2_ n3_ n4_ n5_ n6_ n7_ n8_
              (try clear hb)
              (try clear hb2)
              (try clear hk)
              (try clear hi)
              refine hK.out _ _ ⟨HS0_,HS1_⟩ (fun hHeld=>?_)
              clear hK K
              refine norm_ (a':=?_) ?_ ?_
              rotate_left
              ·show Act.put _ (some 41) _=_
               simp only[Act.put,s1,s2,s3,i64_w,i32_w]
               rfl
              refine pq 9 (some 10) HT_.out rfl rfl ?_
              refine done_ (done_of HT_.out (by kernel_rfl)) ?_
              try go_wp2
              have n0_:=Sd.mk (Kd.R_drew HO_5.out)
              have n1_:=Sd.mk (Kd.N_drew HO_6.out)
              have n2_:=Sd.mk (Kd.R_drew HO_7.out)
              have n3_:=Sd.mk (Kd.N_drew HO_8.out)
              have n4_:=Sd.mk (Kd.V_drew HL134_0.out)
              have n5_:=Sd.mk (Kd.V_drew HL135_0.out)
              have n6_:=Sd.mk (Kd.C_drew HR134_0.out)
              have n7_:=Sd.mk (Kd.C_drew HR135_0.out)
              have n8_:=Sd.mk (below_drew1 HB.out)
              clear HO_5
              clear HO_6
              clear HO_7
              clear HO_8
              clear HL134_0
              clear HL135_0
              clear HR134_0
              clear HR135_0
              clear HB
              have HO_5:=n0_
              have HO_6:=n1_
              have HO_7:=n2_
              have HO_8:=n3_
              have HL134_0:=n4_
              have HL135_0:=n5_
              have HR134_0:=n6_
              have HR135_0:=n7_
              have HB:=n8_
              clear n0_ n1_ n2_ n3_ n4_ n5_ n6_ n7_ n8_
              obtain⟨Ao34,co34,eo34⟩:=Kd.R_slice HO_5.out
              (first|subst eo34|(injection eo34 with f1_ f2_ f3_;have f4_:=f1_.symm;have f5_:=f3_.symm;clear f1_ f2_ f3_;subst f4_;subst f5_))
              have p137:0≤(x9_1:Int):=dz
              have q137:x9_1<(t122.length:Int):=dz
              obtain⟨ad137,e137,hx137_0⟩:=Kd.at_int (Kd.R_reads' HO_5.out).2.2 x9_1 p137 q137
              cases e137
              replace p137:=eq_true p137
              replace q137:=eq_true q137
              obtain⟨Ao35,co35,eo35⟩:=Kd.R_slice HO_7.out
              (first|subst eo35|(injection eo35 with f1_ f2_ f3_;have f4_:=f1_.symm;have f5_:=f3_.symm;clear f1_ f2_ f3_;subst f4_;subst f5_))
              have p138:0≤(x9_1:Int):=dz
              have q138:x9_1<(t128.length:Int):=dz
              obtain⟨ad138,e138,hx138_0⟩:=Kd.at_int (Kd.R_reads' HO_7.out).2.2 x9_1 p138 q138
              cases e138
              replace p138:=eq_true p138
              replace q138:=eq_true q138
              refine start_ (n:=9) (S:=fun w'=>w'.cell? (ad137.add (x9_1).toNat)=some (.int .i64 (rd t122 x9_1))∧w'.cell? (ad138.add (x9_1).toNat)=some (.int .i64 (rd t128 x9_1))) (ds:=[]) #[F,F,F,F,F,F,F,F,F] (by kernel_rfl) rfl rfl ⟨hx137_0,hx138_0⟩ (fun hHeld=>?_);refine with_tabW spec_l1Compare.tab9 spec_l1Compare.bits9 (fun HT_ HW_=>?_)
              generalize w32.drew=w33 at HO_5 HO_6 HO_7 HO_8 HL134_0 HL135_0 HR134_0 HR135_0 HB hx137_0 hx138_0 hHeld ⊢
              refine pq 0 (some 45) HT_.out rfl rfl ?_
              refine pq 1 (some 46) HT_.out rfl rfl ?_
              refine pq 2 (some 47) HT_.out rfl rfl ?_
              refine pq 4 (some 49) HT_.out rfl rfl ?_
              refine pq 5 (some 50) HT_.out rfl rfl ?_
              refine pq 6 (some 51) HT_.out rfl rfl ?_
              refine take_ (i:=3) (N:=some 48) (v:=?_) (a':=?_) #[T,T,T,T,T,T,T,F,F] rfl rfl (take_ofW HT_.out HW_.out (by kernel_rfl)) (fun _ _ _ h=>h) (Or.inl ⟨by rfl,?_⟩) hHeld ?_ ?_
              rotate_left;(· rintro w' ⟨s0,s1⟩;go_simp;with_reducible rfl);rotate_left;(· simp only[Act.put,s1,s2,s3,i64_w,i32_w];rfl)
              refine take_ (i:=7) (N:=some 52) (v:=?_) (a':=?_) #[T,T,T,T,T,T,T,T,F] rfl rfl (take_ofW HT_.out HW_.out (by kernel_rfl)) (fun _ _ _ h=>h) (Or.inl ⟨by rfl,?_⟩) hHeld ?_ ?_
              rotate_left;(· rintro w' ⟨s0,s1⟩;go_simp;with_reducible rfl);rotate_left;(· simp only[Act.put,s1,s2,s3,i64_w,i32_w];rfl)
              refine pq 8 (some 53) HT_.out rfl rfl ?_
              refine done_ (done_of HT_.out (by kernel_rfl)) ?_
              try go_wp2
              have n0_:=Sd.mk (Kd.R_drew HO_5.out)
              have n1_:=Sd.mk (Kd.N_drew HO_6.out)
              have n2_:=Sd.mk (Kd.R_drew HO_7.out)
              have n3_:=Sd.mk (Kd.N_drew HO_8.out)
              have n4_:=Sd.mk (Kd.V_drew HL134_0.out)
              have n5_:=Sd.mk (Kd.V_drew HL135_0.out)
              have n6_:=Sd.mk (Kd.C_drew HR134_0.out)
              have n7_:=Sd.mk (Kd.C_drew HR135_0.out)
              have n8_:=Sd.mk (below_drew1 HB.out)
              clear HO_5
              clear HO_6
              clear HO_7
              clear HO_8
              clear HL134_0
              clear HL135_0
              clear HR134_0
              clear HR135_0
              clear HB
              have HO_5:=n0_
              have HO_6:=n1_
              have HO_7:=n2_
              have HO_8:=n3_
              have HL134_0:=n4_
              have HL135_0:=n5_
              have HR134_0:=n6_
              have HR135_0:=n7_
              have HB:=n8_
              clear n0_ n1_ n2_ n3_ n4_ n5_ n6_ n7_ n8_
              have p139:0≤(x9_1:Int):=dz
              have q139:x9_1<(t122.length:Int):=dz
              obtain⟨ad139,e139,hx139_0⟩:=Kd.at_int (Kd.R_reads' HO_5.out).2.2 x9_1 p139 q139
              obtain rfl:ad137=ad139:=(by injection e139)
              replace p139:=eq_true p139
              replace q139:=eq_true q139
              have p140:0≤(x9_1:Int):=dz
              have q140:x9_1<(t128.length:Int):=dz
              obtain⟨ad140,e140,hx140_0⟩:=Kd.at_int (Kd.R_reads' HO_7.out).2.2 x9_1 p140 q140
              obtain rfl:ad138=ad140:=(by injection e140)
              replace p140:=eq_true p140
              replace q140:=eq_true q140
              refine start_ (n:=9) (S:=fun w'=>w'.cell? (ad137.add (x9_1).toNat)=some (.int .i64 (rd t122 x9_1))∧w'.cell? (ad138.add (x9_1).toNat)=some (.int .i64 (rd t128 x9_1))) (ds:=[]) #[F,F,F,F,F,F,F,F,F] (by kernel_rfl) rfl rfl ⟨hx139_0,hx140_0⟩ (fun hHeld=>?_);refine with_tabW spec_l1Compare.tab10 spec_l1Compare.bits10 (fun HT_ HW_=>?_)
              generalize w33.drew=w36 at HO_5 HO_6 HO_7 HO_8 HL134_0 HL135_0 HR134_0 HR135_0 HB hx139_0 hx140_0 hHeld ⊢
              refine pq 0 (some 54) HT_.out rfl rfl ?_
              refine pq 1 (some 55) HT_.out rfl rfl ?_
              refine pq 2 (some 56) HT_.out rfl rfl ?_
              refine pq 4 (some 58) HT_.out rfl rfl ?_
              refine pq 5 (some 59) HT_.out rfl rfl ?_
              refine pq 6 (some 60) HT_.out rfl rfl ?_
              refine take_ (i:=3) (N:=some 57) (v:=?_) (a':=?_) #[T,T,T,T,T,T,T,F,F] rfl rfl (take_ofW HT_.out HW_.out (by kernel_rfl)) (fun _ _ _ h=>h) (Or.inl ⟨by rfl,?_⟩) hHeld ?_ ?_
              rotate_left;(· rintro w' ⟨s0,s1⟩;go_simp;with_reducible rfl);rotate_left;(· simp only[Act.put,s1,s2,s3,i64_w,i32_w];rfl)
              refine take_ (i:=7) (N:=some 61) (v:=?_) (a':=?_) #[T,T,T,T,T,T,T,T,F] rfl rfl (take_ofW HT_.out HW_.out (by kernel_rfl)) (fun _ _ _ h=>h) (Or.inl ⟨by rfl,?_⟩) hHeld ?_ ?_
              rotate_left;(· rintro w' ⟨s0,s1⟩;go_simp;with_reducible rfl);rotate_left;(· simp only[Act.put,s1,s2,s3,i64_w,i32_w];rfl)
              refine pq 8 (some 62) HT_.out rfl rfl ?_
              refine done_ (done_of HT_.out (by kernel_rfl)) ?_
              try go_wp2
              go_ret
              exact⟨by first|rfl|(simp[errW_none,errW_some]<;>rfl)|(simp[*,errW_none,errW_some]<;>rfl),bz⟩
             ·rw[if_neg c28] at H
              have c28b0:decide ((rd t122 x9_1)<(rd t128 x9_1))=false:=decide_eq_false c28
              clear c28
              obtain rfl:=Option.some.inj H
              try go_wp2
              have n0_:=Sd.mk (Kd.R_drew HO_5.out)
              have n1_:=Sd.mk (Kd.N_drew HO_6.out)
              have n2_:=Sd.mk (Kd.R_drew HO_7.out)
              have n3_:=Sd.mk (Kd.N_drew HO_8.out)
              have n4_:=Sd.mk (below_drew1 HB.out)
              clear HO_5
              clear HO_6
              clear HO_7
              clear HO_8
              clear HB
              have HO_5:=n0_
              have HO_6:=n1_
              have HO_7:=n2_
              have HO_8:=n3_
              have HB:=n4_
              clear n0_ n1_ n2_ n3_ n4_
              obtain⟨Ao38,co38,eo38⟩:=Kd.N_slice HO_6.out
              (first|subst eo38|(injection eo38 with f1_ f2_ f3_;have f4_:=f1_.symm;have f5_:=f3_.symm;clear f1_ f2_ f3_;subst f4_;subst f5_))
              have p134:0≤(x9_1:Int):=dz
              have q134:x9_1<(t125.length:Int):=dz
              obtain⟨ad134,A134_0,c134_0,e134,hx134_0,hl134_0,hi134_0⟩:=at_L1 (Kd.N_reads' HO_6.out).2.2 x9_1 p134 q134
              cases e134
              obtain⟨ce134,hce134,hMe134,hcc134⟩:=Kd.N_get HO_6.out [] x9_1 p134 (by first|exact q134|exact dz|(have e_:=(Kd.N_reads' HO_6.out).1;omega))
              obtain⟨ua134_0,uc134_0,rfl,ul134_0,ge134_0⟩:=Kd.FK_slice_open hMe134
              have hv134_0:=hcc134 0 _ rfl
              rw[Nat.add_zero,show ((Kd.slice 3 (Kd.int .i64))).sz=1 from rfl,Nat.mul_one] at hv134_0
              replace hv134_0:=Option.some.inj (hv134_0.symm.trans hx134_0)
              injection hv134_0 with hva_ hvn_ hvc_
              rw[hva_] at ge134_0
              rw[hvc_] at ul134_0
              have HL134_0:=Sd.mk (show Kd.V (Kd.int .i64) 3 _ w.heap.size _ _ (rd_L1 t125 x9_1) from Kd.V_mk ul134_0 ge134_0)
              clear hva_ hvn_ hvc_ ge134_0 ul134_0
              clear hcc134 hce134
              have HR134_0:=Sd.mk hi134_0
              have HC134_0:=Sd.mk hl134_0
              clear hi134_0 hl134_0
              replace p134:=eq_true p134
              replace q134:=eq_true q134
              obtain⟨Ao39,co39,eo39⟩:=Kd.N_slice HO_8.out
              (first|subst eo39|(injection eo39 with f1_ f2_ f3_;have f4_:=f1_.symm;have f5_:=f3_.symm;clear f1_ f2_ f3_;subst f4_;subst f5_))
              have p135:0≤(x9_1:Int):=dz
              have q135:x9_1<(t131.length:Int):=dz
              obtain⟨ad135,A135_0,c135_0,e135,hx135_0,hl135_0,hi135_0⟩:=at_L1 (Kd.N_reads' HO_8.out).2.2 x9_1 p135 q135
              cases e135
              obtain⟨ce135,hce135,hMe135,hcc135⟩:=Kd.N_get HO_8.out [] x9_1 p135 (by first|exact q135|exact dz|(have e_:=(Kd.N_reads' HO_8.out).1;omega))
              obtain⟨ua135_0,uc135_0,rfl,ul135_0,ge135_0⟩:=Kd.FK_slice_open hMe135
              have hv135_0:=hcc135 0 _ rfl
              rw[Nat.add_zero,show ((Kd.slice 3 (Kd.int .i64))).sz=1 from rfl,Nat.mul_one] at hv135_0
              replace hv135_0:=Option.some.inj (hv135_0.symm.trans hx135_0)
              injection hv135_0 with hva_ hvn_ hvc_
              rw[hva_] at ge135_0
              rw[hvc_] at ul135_0
              have HL135_0:=Sd.mk (show Kd.V (Kd.int .i64) 3 _ w.heap.size _ _ (rd_L1 t131 x9_1) from Kd.V_mk ul135_0 ge135_0)
              clear hva_ hvn_ hvc_ ge135_0 ul135_0
              clear hcc135 hce135
              have HR135_0:=Sd.mk hi135_0
              have HC135_0:=Sd.mk hl135_0
              clear hi135_0 hl135_0
              replace p135:=eq_true p135
              replace q135:=eq_true q135
              refine start_ (n:=10) (S:=fun w'=>w'.cell? (ad134.add (x9_1).toNat)=some (.slice A134_0 (rd_L1 t125 x9_1).length c134_0)∧w'.cell? (ad135.add (x9_1).toNat)=some (.slice A135_0 (rd_L1 t131 x9_1).length c135_0)) (ds:=[]) #[F,F,F,F,F,F,F,F,F,F] (by kernel_rfl) rfl rfl ⟨hx134_0,hx135_0⟩ (fun hHeld=>?_);refine with_tabW spec_l1Compare.tab6 spec_l1Compare.bits6 (fun HT_ HW_=>?_)
              generalize wc.drew=w37 at HO_5 HO_6 HO_7 HO_8 HB HL134_0 HL135_0 HR134_0 HR135_0 hx134_0 hx135_0 hHeld ⊢
              refine pq 0 (some 33) HT_.out rfl rfl ?_
              refine pq 1 (some 34) HT_.out rfl rfl ?_
              refine pq 2 (some 35) HT_.out rfl rfl ?_
              refine pq 4 (some 37) HT_.out rfl rfl ?_
              refine pq 5 (some 38) HT_.out rfl rfl ?_
              refine pq 6 (some 39) HT_.out rfl rfl ?_
              refine take_ (i:=3) (N:=some 36) (v:=?_) (a':=?_) #[T,T,T,T,T,T,T,F,F,F] rfl rfl (take_ofW HT_.out HW_.out (by kernel_rfl)) (fun _ _ _ h=>h) (Or.inl ⟨by rfl,?_⟩) hHeld ?_ ?_
              rotate_left;(· rintro w' ⟨s0,s1⟩;go_simp;with_reducible rfl);rotate_left;(· simp only[Act.put,s1,s2,s3,i64_w,i32_w];rfl)
              refine take_ (i:=7) (N:=some 40) (v:=?_) (a':=?_) #[T,T,T,T,T,T,T,T,F,F] rfl rfl (take_ofW HT_.out HW_.out (by kernel_rfl)) (fun _ _ _ h=>h) (Or.inl ⟨by rfl,?_⟩) hHeld ?_ ?_
              rotate_left;(· rintro w' ⟨s0,s1⟩;go_simp;with_reducible rfl);rotate_left;(· simp only[Act.put,s1,s2,s3,i64_w,i32_w];rfl)
              refine one_ (i:=8) (N:=some 41) #[T,T,T,T,T,T,T,T,T,F] rfl rfl (one_of HT_.out (by kernel_rfl)) (by decide) (fun K hK=>?_)
              refine goes_ Try.func45 (by kernel_rfl) rfl #[.slice A134_0 (rd_L1 t125 x9_1).length c134_0,.slice A135_0 (rd_L1 t131 x9_1).length c135_0] (by rfl) rfl rfl az ?_
              with_reducible refine(ih kj6 (by have:=HK1.out;have:=HJ6.out;omega) _ _ (rd_L1 t125 x9_1) _ _ (rd_L1 t131 x9_1) t136 _ ?side1 ?side2 ?side3 ?side4 A16.out).mono ?_
              (case side1=>exact(Kd.Cz HR134_0.out))
              (case side2=>exact HC134_0.out)
              (case side3=>exact(Kd.Cz HR135_0.out))
              (case side4=>exact HC135_0.out)
              rintro e w40 ⟨rfl,hb⟩
              have HS0_:=(hb.cell (World.block_lt_of_cell? _ _ (hHeld.1))).trans (hHeld.1)
              have HS1_:=(hb.cell (World.block_lt_of_cell? _ _ (hHeld.2))).trans (hHeld.2)
              refine⟨_,rfl,?_⟩
              have n0_:=Sd.mk (Kd.R_below (Kd.Rz HO_5.out) hb)
              have n1_:=Sd.mk (Kd.N_below (Kd.Nz HO_6.out) hb)
              have n2_:=Sd.mk (Kd.R_below (Kd.Rz HO_7.out) hb)
              have n3_:=Sd.mk (Kd.N_below (Kd.Nz HO_8.out) hb)
              have n4_:=Sd.mk (Kd.V_below (Kd.Vz HL134_0.out) hb)
              have n5_:=Sd.mk (Kd.V_below (Kd.Vz HL135_0.out) hb)
              have n6_:=Sd.mk (Kd.C_below (Kd.Cz HR134_0.out) hb)
              have n7_:=Sd.mk (Kd.C_below (Kd.Cz HR135_0.out) hb)
              have n8_:=Sd.mk (below_step bz hb)
              clear HO_5
              clear HO_6
              clear HO_7
              clear HO_8
              clear HL134_0
              clear HL135_0
              clear HR134_0
              clear HR135_0
              clear HB
              have HO_5:=n0_
              have HO_6:=n1_
              have HO_7:=n2_
              have HO_8:=n3_
              have HL134_0:=n4_
              have HL135_0:=n5_
              have HR134_0:=n6_
              have HR135_0:=n7_
              have HB:=n8_
              clear n0_ n1_ n2_ n3_ n4_ n5_ n6_ n7_ n8_
              (try clear hb)
              (try clear hb2)
              (try clear hk)
              (try clear hi)
              refine hK.out _ _ ⟨HS0_,HS1_⟩ (fun hHeld=>?_)
              clear hK K
              refine norm_ (a':=?_) ?_ ?_
              rotate_left
              ·show Act.put _ (some 41) _=_
               simp only[Act.put,s1,s2,s3,i64_w,i32_w]
               rfl
              refine pq 9 (some 10) HT_.out rfl rfl ?_
              refine done_ (done_of HT_.out (by kernel_rfl)) ?_
              try go_wp2
              have n0_:=Sd.mk (Kd.R_drew HO_5.out)
              have n1_:=Sd.mk (Kd.N_drew HO_6.out)
              have n2_:=Sd.mk (Kd.R_drew HO_7.out)
              have n3_:=Sd.mk (Kd.N_drew HO_8.out)
              have n4_:=Sd.mk (Kd.V_drew HL134_0.out)
              have n5_:=Sd.mk (Kd.V_drew HL135_0.out)
              have n6_:=Sd.mk (Kd.C_drew HR134_0.out)
              have n7_:=Sd.mk (Kd.C_drew HR135_0.out)
              have n8_:=Sd.mk (below_drew1 HB.out)
              clear HO_5
              clear HO_6
              clear HO_7
              clear HO_8
              clear HL134_0
              clear HL135_0
              clear HR134_0
              clear HR135_0
              clear HB
              have HO_5:=n0_
              have HO_6:=n1_
              have HO_7:=n2_
              have HO_8:=n3_
              have HL134_0:=n4_
              have HL135_0:=n5_
              have HR134_0:=n6_
              have HR135_0:=n7_
              have HB:=n8_
              clear n0_ n1_ n2_ n3_ n4_ n5_ n6_ n7_ n8_
              obtain⟨Ao42,co42,eo42⟩:=Kd.R_slice HO_5.out
              (first|subst eo42|(injection eo42 with f1_ f2_ f3_;have f4_:=f1_.symm;have f5_:=f3_.symm;clear f1_ f2_ f3_;subst f4_;subst f5_))
              have p137:0≤(x9_1:Int):=dz
              have q137:x9_1<(t122.length:Int):=dz
              obtain⟨ad137,e137,hx137_0⟩:=Kd.at_int (Kd.R_reads' HO_5.out).2.2 x9_1 p137 q137
              cases e137
              replace p137:=eq_true p137
              replace q137:=eq_true q137
              obtain⟨Ao43,co43,eo43⟩:=Kd.R_slice HO_7.out
              (first|subst eo43|(injection eo43 with f1_ f2_ f3_;have f4_:=f1_.symm;have f5_:=f3_.symm;clear f1_ f2_ f3_;subst f4_;subst f5_))
              have p138:0≤(x9_1:Int):=dz
              have q138:x9_1<(t128.length:Int):=dz
              obtain⟨ad138,e138,hx138_0⟩:=Kd.at_int (Kd.R_reads' HO_7.out).2.2 x9_1 p138 q138
              cases e138
              replace p138:=eq_true p138
              replace q138:=eq_true q138
              refine start_ (n:=9) (S:=fun w'=>w'.cell? (ad137.add (x9_1).toNat)=some (.int .i64 (rd t122 x9_1))∧w'.cell? (ad138.add (x9_1).toNat)=some (.int .i64 (rd t128 x9_1))) (ds:=[]) #[F,F,F,F,F,F,F,F,F] (by kernel_rfl) rfl rfl ⟨hx137_0,hx138_0⟩ (fun hHeld=>?_);refine with_tabW spec_l1Compare.tab9 spec_l1Compare.bits9 (fun HT_ HW_=>?_)
              generalize w40.drew=w41 at HO_5 HO_6 HO_7 HO_8 HL134_0 HL135_0 HR134_0 HR135_0 HB hx137_0 hx138_0 hHeld ⊢
              refine pq 0 (some 45) HT_.out rfl rfl ?_
              refine pq 1 (some 46) HT_.out rfl rfl ?_
              refine pq 2 (some 47) HT_.out rfl rfl ?_
              refine pq 4 (some 49) HT_.out rfl rfl ?_
              refine pq 5 (some 50) HT_.out rfl rfl ?_
              refine pq 6 (some 51) HT_.out rfl rfl ?_
              refine take_ (i:=3) (N:=some 48) (v:=?_) (a':=?_) #[T,T,T,T,T,T,T,F,F] rfl rfl (take_ofW HT_.out HW_.out (by kernel_rfl)) (fun _ _ _ h=>h) (Or.inl ⟨by rfl,?_⟩) hHeld ?_ ?_
              rotate_left;(· rintro w' ⟨s0,s1⟩;go_simp;with_reducible rfl);rotate_left;(· simp only[Act.put,s1,s2,s3,i64_w,i32_w];rfl)
              refine take_ (i:=7) (N:=some 52) (v:=?_) (a':=?_) #[T,T,T,T,T,T,T,T,F] rfl rfl (take_ofW HT_.out HW_.out (by kernel_rfl)) (fun _ _ _ h=>h) (Or.inl ⟨by rfl,?_⟩) hHeld ?_ ?_
              rotate_left;(· rintro w' ⟨s0,s1⟩;go_simp;with_reducible rfl);rotate_left;(· simp only[Act.put,s1,s2,s3,i64_w,i32_w];rfl)
              refine pq 8 (some 53) HT_.out rfl rfl ?_
              refine done_ (done_of HT_.out (by kernel_rfl)) ?_
              try go_wp2
              have n0_:=Sd.mk (Kd.R_drew HO_5.out)
              have n1_:=Sd.mk (Kd.N_drew HO_6.out)
              have n2_:=Sd.mk (Kd.R_drew HO_7.out)
              have n3_:=Sd.mk (Kd.N_drew HO_8.out)
              have n4_:=Sd.mk (Kd.V_drew HL134_0.out)
              have n5_:=Sd.mk (Kd.V_drew HL135_0.out)
              have n6_:=Sd.mk (Kd.C_drew HR134_0.out)
              have n7_:=Sd.mk (Kd.C_drew HR135_0.out)
              have n8_:=Sd.mk (below_drew1 HB.out)
              clear HO_5
              clear HO_6
              clear HO_7
              clear HO_8
              clear HL134_0
              clear HL135_0
              clear HR134_0
              clear HR135_0
              clear HB
              have HO_5:=n0_
              have HO_6:=n1_
              have HO_7:=n2_
              have HO_8:=n3_
              have HL134_0:=n4_
              have HL135_0:=n5_
              have HR134_0:=n6_
              have HR135_0:=n7_
              have HB:=n8_
              clear n0_ n1_ n2_ n3_ n4_ n5_ n6_ n7_ n8_
              have p139:0≤(x9_1:Int):=dz
              have q139:x9_1<(t122.length:Int):=dz
              obtain⟨ad139,e139,hx139_0⟩:=Kd.at_int (Kd.R_reads' HO_5.out).2.2 x9_1 p139 q139
              obtain rfl:ad137=ad139:=(by injection e139)
              replace p139:=eq_true p139
              replace q139:=eq_true q139
              have p140:0≤(x9_1:Int):=dz
              have q140:x9_1<(t128.length:Int):=dz
              obtain⟨ad140,e140,hx140_0⟩:=Kd.at_int (Kd.R_reads' HO_7.out).2.2 x9_1 p140 q140
              obtain rfl:ad138=ad140:=(by injection e140)
              replace p140:=eq_true p140
              replace q140:=eq_true q140
              refine start_ (n:=9) (S:=fun w'=>w'.cell? (ad137.add (x9_1).toNat)=some (.int .i64 (rd t122 x9_1))∧w'.cell? (ad138.add (x9_1).toNat)=some (.int .i64 (rd t128 x9_1))) (ds:=[]) #[F,F,F,F,F,F,F,F,F] (by kernel_rfl) rfl rfl ⟨hx139_0,hx140_0⟩ (fun hHeld=>?_);refine with_tabW spec_l1Compare.tab10 spec_l1Compare.bits10 (fun HT_ HW_=>?_)
              generalize w41.drew=w44 at HO_5 HO_6 HO_7 HO_8 HL134_0 HL135_0 HR134_0 HR135_0 HB hx139_0 hx140_0 hHeld ⊢
              refine pq 0 (some 54) HT_.out rfl rfl ?_
              refine pq 1 (some 55) HT_.out rfl rfl ?_
              refine pq 2 (some 56) HT_.out rfl rfl ?_
              refine pq 4 (some 58) HT_.out rfl rfl ?_
              refine pq 5 (some 59) HT_.out rfl rfl ?_
              refine pq 6 (some 60) HT_.out rfl rfl ?_
              refine take_ (i:=3) (N:=some 57) (v:=?_) (a':=?_) #[T,T,T,T,T,T,T,F,F] rfl rfl (take_ofW HT_.out HW_.out (by kernel_rfl)) (fun _ _ _ h=>h) (Or.inl ⟨by rfl,?_⟩) hHeld ?_ ?_
              rotate_left;(· rintro w' ⟨s0,s1⟩;go_simp;with_reducible rfl);rotate_left;(· simp only[Act.put,s1,s2,s3,i64_w,i32_w];rfl)
              refine take_ (i:=7) (N:=some 61) (v:=?_) (a':=?_) #[T,T,T,T,T,T,T,T,F] rfl rfl (take_ofW HT_.out HW_.out (by kernel_rfl)) (fun _ _ _ h=>h) (Or.inl ⟨by rfl,?_⟩) hHeld ?_ ?_
              rotate_left;(· rintro w' ⟨s0,s1⟩;go_simp;with_reducible rfl);rotate_left;(· simp only[Act.put,s1,s2,s3,i64_w,i32_w];rfl)
              refine pq 8 (some 62) HT_.out rfl rfl ?_
              refine done_ (done_of HT_.out (by kernel_rfl)) ?_
              try go_wp2
              go_ret
              exact⟨by first|rfl|(simp[errW_none,errW_some]<;>rfl)|(simp[*,errW_none,errW_some]<;>rfl),bz⟩
           ·rw[if_neg c19] at H
            exact absurd H (by simp)
          ·rw[if_neg c18] at H
           exact absurd H (by simp)
         ·rw[if_neg c17] at H
          have c17b0:(t136 == 0)=false:=beq_eq_false_iff_ne.mpr c17
          have c17b1:(t136 != 0)=true:=bne_iff_ne.mpr c17
          obtain rfl:=Option.some.inj H
          try go_wp2
          have n0_:=Sd.mk (Kd.R_drew HO_5.out)
          have n1_:=Sd.mk (Kd.N_drew HO_6.out)
          have n2_:=Sd.mk (Kd.R_drew HO_7.out)
          have n3_:=Sd.mk (Kd.N_drew HO_8.out)
          have n4_:=Sd.mk (below_drew1 HB.out)
          clear HO_5
          clear HO_6
          clear HO_7
          clear HO_8
          clear HB
          have HO_5:=n0_
          have HO_6:=n1_
          have HO_7:=n2_
          have HO_8:=n3_
          have HB:=n4_
          clear n0_ n1_ n2_ n3_ n4_
          obtain⟨Ao46,co46,eo46⟩:=Kd.N_slice HO_6.out
          (first|subst eo46|(injection eo46 with f1_ f2_ f3_;have f4_:=f1_.symm;have f5_:=f3_.symm;clear f1_ f2_ f3_;subst f4_;subst f5_))
          have p134:0≤(x9_1:Int):=dz
          have q134:x9_1<(t125.length:Int):=dz
          obtain⟨ad134,A134_0,c134_0,e134,hx134_0,hl134_0,hi134_0⟩:=at_L1 (Kd.N_reads' HO_6.out).2.2 x9_1 p134 q134
          cases e134
          obtain⟨ce134,hce134,hMe134,hcc134⟩:=Kd.N_get HO_6.out [] x9_1 p134 (by first|exact q134|exact dz|(have e_:=(Kd.N_reads' HO_6.out).1;omega))
          obtain⟨ua134_0,uc134_0,rfl,ul134_0,ge134_0⟩:=Kd.FK_slice_open hMe134
          have hv134_0:=hcc134 0 _ rfl
          rw[Nat.add_zero,show ((Kd.slice 3 (Kd.int .i64))).sz=1 from rfl,Nat.mul_one] at hv134_0
          replace hv134_0:=Option.some.inj (hv134_0.symm.trans hx134_0)
          injection hv134_0 with hva_ hvn_ hvc_
          rw[hva_] at ge134_0
          rw[hvc_] at ul134_0
          have HL134_0:=Sd.mk (show Kd.V (Kd.int .i64) 3 _ w.heap.size _ _ (rd_L1 t125 x9_1) from Kd.V_mk ul134_0 ge134_0)
          clear hva_ hvn_ hvc_ ge134_0 ul134_0
          clear hcc134 hce134
          have HR134_0:=Sd.mk hi134_0
          have HC134_0:=Sd.mk hl134_0
          clear hi134_0 hl134_0
          replace p134:=eq_true p134
          replace q134:=eq_true q134
          obtain⟨Ao47,co47,eo47⟩:=Kd.N_slice HO_8.out
          (first|subst eo47|(injection eo47 with f1_ f2_ f3_;have f4_:=f1_.symm;have f5_:=f3_.symm;clear f1_ f2_ f3_;subst f4_;subst f5_))
          have p135:0≤(x9_1:Int):=dz
          have q135:x9_1<(t131.length:Int):=dz
          obtain⟨ad135,A135_0,c135_0,e135,hx135_0,hl135_0,hi135_0⟩:=at_L1 (Kd.N_reads' HO_8.out).2.2 x9_1 p135 q135
          cases e135
          obtain⟨ce135,hce135,hMe135,hcc135⟩:=Kd.N_get HO_8.out [] x9_1 p135 (by first|exact q135|exact dz|(have e_:=(Kd.N_reads' HO_8.out).1;omega))
          obtain⟨ua135_0,uc135_0,rfl,ul135_0,ge135_0⟩:=Kd.FK_slice_open hMe135
          have hv135_0:=hcc135 0 _ rfl
          rw[Nat.add_zero,show ((Kd.slice 3 (Kd.int .i64))).sz=1 from rfl,Nat.mul_one] at hv135_0
          replace hv135_0:=Option.some.inj (hv135_0.symm.trans hx135_0)
          injection hv135_0 with hva_ hvn_ hvc_
          rw[hva_] at ge135_0
          rw[hvc_] at ul135_0
          have HL135_0:=Sd.mk (show Kd.V (Kd.int .i64) 3 _ w.heap.size _ _ (rd_L1 t131 x9_1) from Kd.V_mk ul135_0 ge135_0)
          clear hva_ hvn_ hvc_ ge135_0 ul135_0
          clear hcc135 hce135
          have HR135_0:=Sd.mk hi135_0
          have HC135_0:=Sd.mk hl135_0
          clear hi135_0 hl135_0
          replace p135:=eq_true p135
          replace q135:=eq_true q135
          refine start_ (n:=10) (S:=fun w'=>w'.cell? (ad134.add (x9_1).toNat)=some (.slice A134_0 (rd_L1 t125 x9_1).length c134_0)∧w'.cell? (ad135.add (x9_1).toNat)=some (.slice A135_0 (rd_L1 t131 x9_1).length c135_0)) (ds:=[]) #[F,F,F,F,F,F,F,F,F,F] (by kernel_rfl) rfl rfl ⟨hx134_0,hx135_0⟩ (fun hHeld=>?_);refine with_tabW spec_l1Compare.tab6 spec_l1Compare.bits6 (fun HT_ HW_=>?_)
          generalize wc.drew=w45 at HO_5 HO_6 HO_7 HO_8 HB HL134_0 HL135_0 HR134_0 HR135_0 hx134_0 hx135_0 hHeld ⊢
          refine pq 0 (some 33) HT_.out rfl rfl ?_
          refine pq 1 (some 34) HT_.out rfl rfl ?_
          refine pq 2 (some 35) HT_.out rfl rfl ?_
          refine pq 4 (some 37) HT_.out rfl rfl ?_
          refine pq 5 (some 38) HT_.out rfl rfl ?_
          refine pq 6 (some 39) HT_.out rfl rfl ?_
          refine take_ (i:=3) (N:=some 36) (v:=?_) (a':=?_) #[T,T,T,T,T,T,T,F,F,F] rfl rfl (take_ofW HT_.out HW_.out (by kernel_rfl)) (fun _ _ _ h=>h) (Or.inl ⟨by rfl,?_⟩) hHeld ?_ ?_
          rotate_left;(· rintro w' ⟨s0,s1⟩;go_simp;with_reducible rfl);rotate_left;(· simp only[Act.put,s1,s2,s3,i64_w,i32_w];rfl)
          refine take_ (i:=7) (N:=some 40) (v:=?_) (a':=?_) #[T,T,T,T,T,T,T,T,F,F] rfl rfl (take_ofW HT_.out HW_.out (by kernel_rfl)) (fun _ _ _ h=>h) (Or.inl ⟨by rfl,?_⟩) hHeld ?_ ?_
          rotate_left;(· rintro w' ⟨s0,s1⟩;go_simp;with_reducible rfl);rotate_left;(· simp only[Act.put,s1,s2,s3,i64_w,i32_w];rfl)
          refine one_ (i:=8) (N:=some 41) #[T,T,T,T,T,T,T,T,T,F] rfl rfl (one_of HT_.out (by kernel_rfl)) (by decide) (fun K hK=>?_)
          refine goes_ Try.func45 (by kernel_rfl) rfl #[.slice A134_0 (rd_L1 t125 x9_1).length c134_0,.slice A135_0 (rd_L1 t131 x9_1).length c135_0] (by rfl) rfl rfl az ?_
          with_reducible refine(ih kj6 (by have:=HK1.out;have:=HJ6.out;omega) _ _ (rd_L1 t125 x9_1) _ _ (rd_L1 t131 x9_1) t136 _ ?side1 ?side2 ?side3 ?side4 A16.out).mono ?_
          (case side1=>exact(Kd.Cz HR134_0.out))
          (case side2=>exact HC134_0.out)
          (case side3=>exact(Kd.Cz HR135_0.out))
          (case side4=>exact HC135_0.out)
          rintro e w48 ⟨rfl,hb⟩
          have HS0_:=(hb.cell (World.block_lt_of_cell? _ _ (hHeld.1))).trans (hHeld.1)
          have HS1_:=(hb.cell (World.block_lt_of_cell? _ _ (hHeld.2))).trans (hHeld.2)
          refine⟨_,rfl,?_⟩
          have n0_:=Sd.mk (Kd.R_below (Kd.Rz HO_5.out) hb)
          have n1_:=Sd.mk (Kd.N_below (Kd.Nz HO_6.out) hb)
          have n2_:=Sd.mk (Kd.R_below (Kd.Rz HO_7.out) hb)
          have n3_:=Sd.mk (Kd.N_below (Kd.Nz HO_8.out) hb)
          have n4_:=Sd.mk (Kd.V_below (Kd.Vz HL134_0.out) hb)
          have n5_:=Sd.mk (Kd.V_below (Kd.Vz HL135_0.out) hb)
          have n6_:=Sd.mk (Kd.C_below (Kd.Cz HR134_0.out) hb)
          have n7_:=Sd.mk (Kd.C_below (Kd.Cz HR135_0.out) hb)
          have n8_:=Sd.mk (below_step bz hb)
          clear HO_5
          clear HO_6
          clear HO_7
          clear HO_8
          clear HL134_0
          clear HL135_0
          clear HR134_0
          clear HR135_0
          clear HB
          have HO_5:=n0_
          have HO_6:=n1_
          have HO_7:=n2_
          have HO_8:=n3_
          have HL134_0:=n4_
          have HL135_0:=n5_
          have HR134_0:=n6_
          have HR135_0:=n7_
          have HB:=n8_
          clear n0_ n1_ n2_ n3_ n4_ n5_ n6_ n7_ n8_
          (try clear hb)
          (try clear hb2)
          (try clear hk)
          (try clear hi)
          refine hK.out _ _ ⟨HS0_,HS1_⟩ (fun hHeld=>?_)
          clear hK K
          refine norm_ (a':=?_) ?_ ?_
          rotate_left
          ·show Act.put _ (some 41) _=_
           simp only[Act.put,s1,s2,s3,i64_w,i32_w]
           rfl
          refine pq 9 (some 10) HT_.out rfl rfl ?_
          refine done_ (done_of HT_.out (by kernel_rfl)) ?_
          try go_wp2
          go_ret
          exact⟨by first|rfl|(simp[errW_none,errW_some]<;>rfl)|(simp[*,errW_none,errW_some]<;>rfl),bz⟩
        ·rw[if_neg c15] at H
         exact absurd H (by simp)
       ·rw[if_neg c14] at H
        exact absurd H (by simp)
      ·rw[if_neg c13] at H
       exact absurd H (by simp)
     ·replace c12:=Bool.eq_false_iff.mpr c12
      subst c12
      have H1:(if(t122.length:Int)<(t128.length:Int) then(some (-1)) else(if(t122.length:Int)>(t128.length:Int) then(some 1) else(some 0)))=some r:=by rw[if_neg (show ¬ (false=true) by decide)] at H;exact H
      clear H
      have H:=H1
      clear H1
      by_cases c49:(t122.length:Int)<(t128.length:Int)
      ·rw[if_pos c49] at H
       have c49b0:decide ((t122.length:Int)<(t128.length:Int))=true:=decide_eq_true c49
       have c49b1:decide (t122.length<t128.length)=true:=decide_eq_true (Int.ofNat_lt.mp c49)
       clear c49
       obtain rfl:=Option.some.inj H
       obtain⟨Ao50,co50,eo50⟩:=Kd.R_slice HO_5.out
       subst eo50
       obtain⟨Ao51,co51,eo51⟩:=Kd.R_slice HO_7.out
       subst eo51
       go_wp2
       go_ret
       exact⟨by first|rfl|(simp[errW_none,errW_some]<;>rfl)|(simp[*,errW_none,errW_some]<;>rfl),bz⟩
      ·rw[if_neg c49] at H
       have c49b0:decide ((t122.length:Int)<(t128.length:Int))=false:=decide_eq_false c49
       have c49b1:decide (t122.length<t128.length)=false:=decide_eq_false (fun h=>c49 (Int.ofNat_lt.mpr h))
       clear c49
       by_cases c52:(t122.length:Int)>(t128.length:Int)
       ·rw[if_pos c52] at H
        have c52b0:decide ((t128.length:Int)<(t122.length:Int))=true:=decide_eq_true c52
        have c52b1:decide (t128.length<t122.length)=true:=decide_eq_true (Int.ofNat_lt.mp c52)
        clear c52
        obtain rfl:=Option.some.inj H
        obtain⟨Ao53,co53,eo53⟩:=Kd.R_slice HO_5.out
        subst eo53
        obtain⟨Ao54,co54,eo54⟩:=Kd.R_slice HO_7.out
        subst eo54
        go_wp2
        go_ret
        exact⟨by first|rfl|(simp[errW_none,errW_some]<;>rfl)|(simp[*,errW_none,errW_some]<;>rfl),bz⟩
       ·rw[if_neg c52] at H
        have c52b0:decide ((t128.length:Int)<(t122.length:Int))=false:=decide_eq_false c52
        have c52b1:decide (t128.length<t122.length)=false:=decide_eq_false (fun h=>c52 (Int.ofNat_lt.mpr h))
        clear c52
        obtain rfl:=Option.some.inj H
        obtain⟨Ao55,co55,eo55⟩:=Kd.R_slice HO_5.out
        subst eo55
        obtain⟨Ao56,co56,eo56⟩:=Kd.R_slice HO_7.out
        subst eo56
        go_wp2
        go_ret
        exact⟨by first|rfl|(simp[errW_none,errW_some]<;>rfl)|(simp[*,errW_none,errW_some]<;>rfl),bz⟩
end Go.Proofs.Ytfkecmnklpjelaa.P