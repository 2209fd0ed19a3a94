/- One Go function comes to what its Lean function tells. -/
import Derived.Test.YtfblcanijhnhmaaP0
import Derived.Test.YtfblcanijhnhmaaPcmpCompareint
namespace Go.Proofs.Ytfblcanijhnhmaa.P
open Go.RowKit YtfblcanijhnhmaaW.PrintWords YtfblcanijhnhmaaW.PrintLast YtfblcanijhnhmaaW.PrintMore
set_option linter.unusedVariables false
set_option linter.unusedSimpArgs false
/-! ### impl_compare: function 50 -/
mutual
def impl_compare.l0:Nat→List (S61)→List (S61)→Int→Option (Int)
 | 0,_,_,_=>none
 | k+1,x0,x1,x5=>if x5<(x0.length:Int) then(impl_compare.j1 k x0 x1 x5 (decide (x5<(x1.length:Int)))) else(impl_compare.j1 k x0 x1 x5 false)
def impl_compare.j1:Nat→List (S61)→List (S61)→Int→Bool→Option (Int)
 | 0,_,_,_,_=>none
 | k+1,x0,x1,x5,x17=>if x17=true then(if 0≤x5 then(if x5<(x0.length:Int) then(if x5<(x1.length:Int) then((impl_compare.f k ((rd_T61 x0 x5).f1) ((rd_T61 x1 x5).f1)).bind fun t532=>(if t532=0 then((cmp_Compare_int.f ((rd_T61 x0 x5).f0) ((rd_T61 x1 x5).f0)).bind fun t535=>(if t535=0 then(impl_compare.l0 k x0 x1 (wrap64 (x5+1))) else(some t535))) else(some t532))) else(none)) else(none)) else(none)) else((cmp_Compare_int.f (x0.length:Int) (x1.length:Int)).bind fun t529=>(some t529))
def impl_compare.f:Nat→List (S61)→List (S61)→Option (Int)
 | 0,_,_=>none
 | k+1,l0,l1=>impl_compare.l0 k l0 l1 0
end
theorem impl_compare.mono_l:∀ k,(∀ y0 y1,LeO (impl_compare.f k y0 y1) (impl_compare.f (k+1) y0 y1))∧(∀ y0 y1 y2,LeO (impl_compare.l0 k y0 y1 y2) (impl_compare.l0 (k+1) y0 y1 y2))∧(∀ y0 y1 y2 y3,LeO (impl_compare.j1 k y0 y1 y2 y3) (impl_compare.j1 (k+1) y0 y1 y2 y3))
 | 0=>⟨fun _ _ r h=>by simp[impl_compare.f] at h,fun _ _ _ r h=>by simp[impl_compare.l0] at h,fun _ _ _ _ r h=>by simp[impl_compare.j1] at h⟩
 | k+1=>by
  obtain⟨ih0,ih1,ih2⟩:=impl_compare.mono_l k
  refine⟨?_,?_,?_⟩
  ·intro y0 y1
   unfold impl_compare.f
   repeat' first|(with_reducible first|exact ih0 _ _|exact ih1 _ _ _|exact LeO.refl _|exact LeO.none _|refine LeO.ite ?_ ?_|refine LeO.bind ?_ (fun _=>?_))|exact ih0 _ _|exact ih1 _ _ _|exact LeO.none _|refine LeO.ite ?_ ?_|refine LeO.bind ?_ (fun _=>?_)
  ·intro y0 y1 y2
   unfold impl_compare.l0
   repeat' first|(with_reducible first|exact ih1 _ _ _|exact ih2 _ _ _ _|exact LeO.refl _|exact LeO.none _|refine LeO.ite ?_ ?_|refine LeO.bind ?_ (fun _=>?_))|exact ih1 _ _ _|exact ih2 _ _ _ _|exact LeO.none _|refine LeO.ite ?_ ?_|refine LeO.bind ?_ (fun _=>?_)
  ·intro y0 y1 y2 y3
   unfold impl_compare.j1
   repeat' first|(with_reducible first|exact ih0 _ _|exact ih1 _ _ _|exact ih2 _ _ _ _|exact LeO.refl _|exact LeO.none _|refine LeO.ite ?_ ?_|refine LeO.bind ?_ (fun _=>?_))|exact ih0 _ _|exact ih1 _ _ _|exact ih2 _ _ _ _|exact LeO.none _|refine LeO.ite ?_ ?_|refine LeO.bind ?_ (fun _=>?_)
theorem impl_compare.mono:∀ a0 a1 k,LeO (impl_compare.f k a0 a1) (impl_compare.f (k+1) a0 a1):=by
 intro a0 a1 k;obtain⟨ih0,ih1,ih2⟩:=impl_compare.mono_l k;exact ih0 a0 a1
def impl_compare.T4:Bool × List (List Nat × List Nat):=(true,[([],[]),([],[]),([0,1],[0,1]),([2],[2]),([3],[3]),([],[]),([],[]),([5,6],[5,6]),([7],[7]),([8],[8]),([4,9],[4,9]),([10,10,0,1,2,3,4,5,6,7,8,9,10],[10])])
def impl_compare.B4:List Nat:=[0,0,3,7,15,0,0,96,224,480,1023,2047]
theorem impl_compare.tab4:rtab .any (opsOf Try.f50 4)=impl_compare.T4:=by kernel_rfl
theorem impl_compare.bits4:waitsOk impl_compare.T4.2 impl_compare.B4=true:=by kernel_rfl
def impl_compare.T7:Bool × List (List Nat × List Nat):=(true,[([],[]),([],[]),([0,1],[0,1]),([2],[2]),([3],[3]),([],[]),([],[]),([5,6],[5,6]),([7],[7]),([8],[8]),([4,9],[4,9]),([10,10,0,1,2,3,4,5,6,7,8,9,10],[10])])
def impl_compare.B7:List Nat:=[0,0,3,7,15,0,0,96,224,480,1023,2047]
theorem impl_compare.tab7:rtab .any (opsOf Try.f50 7)=impl_compare.T7:=by kernel_rfl
theorem impl_compare.bits7:waitsOk impl_compare.T7.2 impl_compare.B7=true:=by kernel_rfl
set_option maxHeartbeats 8000000 in
set_option maxRecDepth 100000 in
theorem impl_compare.calls (k:Nat):∀ (A0:Option Addr) (c0:Nat) (l0:List (S61)) (A1:Option Addr) (c1:Nat) (l1:List (S61)) (r:Int) (w:World) (hr0:Kd.C k61 w A0 l0.length l0) (hc0:l0.length≤c0) (hr1:Kd.C k61 w A1 l1.length l1) (hc1:l1.length≤c1) (h:impl_compare.f k l0 l1=some r),
  Calls Try.prog 50 #[.slice A0 l0.length c0,.slice A1 l1.length c1] w fun e w'=>e=.returned (.int .i64 r)∧Below w.heap.size w w':=by
 induction k using Nat.strongRecOn with
 | _ k ih =>
 intro A0 c0 l0 A1 c1 l1 r w hr0 hc0 hr1 hc1 h
 cases k with
 | zero=>exact absurd h (by simp[impl_compare.f])
 | succ k =>
 simp only[impl_compare.f] at h;have HR0:=Sd.mk hr0;have HC0:=Sd.mk hc0;clear hr0 hc0;have HR1:=Sd.mk hr1;have HC1:=Sd.mk hc1;clear hr1 hc1;have HB:=Sd.mk (Below.refl w.heap.size w);have H:(impl_compare.l0 k l0 l1 0)=some r:=h;clear h;have H':=Sd.mk H;clear H;go_enter Try.func50,Try.ntmps50;go_wp2
 go_loopg [5] k (fun kq v5 w'=>∃ (x5_1:Int),v5=.int .i64 x5_1∧Sd (impl_compare.l0 kq l0 l1 x5_1=some r)∧Sd (kq≤k)∧Sd (Below w.heap.size w w'))
 case atStart=>exact⟨(0),(by first|rfl|(simp;done)|(simp[*];done)),H',⟨Nat.le_refl _⟩,⟨bz⟩⟩
 case round =>
  clear H'
  try clear c1
  try clear p2
  obtain⟨x5_1,rfl,HA,HK1,HB⟩:=hrel
  cases gk with
  | zero=>exact absurd HA.out (by simp[impl_compare.l0])
  | succ k1 =>
   have H:=HA.out;clear HA;simp only[impl_compare.l0] at H;have HC3:=Sd.mk H;clear H
   go_upto_region 2 with (fail)
   go_cut [17] (fun v17 wc=>∃ (kq:Nat) (x17_2:Bool),v17=.bool x17_2∧Sd (impl_compare.j1 kq l0 l1 x5_1 x17_2=some r)∧Sd (kq≤k1)∧Sd (Below w.heap.size w wc))
   case first =>
    have H:=HC3.out;clear HC3
    by_cases c4:x5_1<(l0.length:Int)
    ·rw[if_pos c4] at H
     have c4b0:decide (x5_1<(l0.length:Int))=true:=decide_eq_true c4;clear c4
     (first|rw[c4b0]|(simp only[i64_w,i32_w];rw[c4b0])|skip)
     have H':=Sd.mk H;clear H;go_wp2;go_meet
     case rel=>exact⟨_,(decide (x5_1<(l1.length:Int))),(by first|rfl|(simp;done)|(simp[*];done)),H',⟨by have:=HK1.out;first|omega|exact Nat.le_refl _⟩,⟨bz⟩⟩
    ·rw[if_neg c4] at H
     have c4b0:decide (x5_1<(l0.length:Int))=false:=decide_eq_false c4;clear c4
     (first|rw[c4b0]|(simp only[i64_w,i32_w];rw[c4b0])|skip)
     have H':=Sd.mk H;clear H;go_wp2;go_meet
     case rel=>exact⟨_,(false),(by first|rfl|(simp;done)|(simp[*];done)),H',⟨by have:=HK1.out;first|omega|exact Nat.le_refl _⟩,⟨bz⟩⟩
   case rest =>
    clear HC3
    try clear c1
    try clear p2
    try clear c4
    try clear c4b0
    try clear p2
    obtain⟨kq,x17_2,rfl,HA,HJ2,HB⟩:=hcut
    cases kq with
    | zero=>exact absurd HA.out (by simp[impl_compare.j1])
    | succ kj2 =>
     have H:=HA.out;clear HA;simp only[impl_compare.j1] at H
     by_cases c5:x17_2=true
     ·subst c5
      have H1:(if 0≤x5_1 then(if x5_1<(l0.length:Int) then(if x5_1<(l1.length:Int) then((impl_compare.f kj2 ((rd_T61 l0 x5_1).f1) ((rd_T61 l1 x5_1).f1)).bind fun t532=>(if t532=0 then((cmp_Compare_int.f ((rd_T61 l0 x5_1).f0) ((rd_T61 l1 x5_1).f0)).bind fun t535=>(if t535=0 then(impl_compare.l0 kj2 l0 l1 (wrap64 (x5_1+1))) else(some t535))) else(some t532))) else(none)) else(none)) else(none))=some r:=by rw[if_pos rfl] at H;exact H
      clear H;have H:=H1;clear H1
      by_cases c6:0≤x5_1
      ·rw[if_pos c6] at H
       have c6b0:decide (0≤x5_1)=true:=decide_eq_true c6;clear c6
       by_cases c7:x5_1<(l0.length:Int)
       ·rw[if_pos c7] at H
        have c7b0:decide (x5_1<(l0.length:Int))=true:=decide_eq_true c7;clear c7
        by_cases c8:x5_1<(l1.length:Int)
        ·rw[if_pos c8] at H
         have c8b0:decide (x5_1<(l1.length:Int))=true:=decide_eq_true c8;clear c8;replace H:=Option.bind_eq_some_iff.mp H;obtain⟨t532,A90,H⟩:=H;replace H:(if t532=0 then((cmp_Compare_int.f ((rd_T61 l0 x5_1).f0) ((rd_T61 l1 x5_1).f0)).bind fun t535=>(if t535=0 then(impl_compare.l0 kj2 l0 l1 (wrap64 (x5_1+1))) else(some t535))) else(some t532))=some r:=H;have A9:=Sd.mk A90;clear A90
         by_cases c10:t532=0
         ·rw[if_pos c10] at H
          have c10b0:(t532 == 0)=true:=beq_iff_eq.mpr c10;have c10b1:(t532 != 0)=false:=bne_eq_false_iff_eq.mpr c10;clear c10;replace H:=Option.bind_eq_some_iff.mp H;obtain⟨t535,A110,H⟩:=H;replace H:(if t535=0 then(impl_compare.l0 kj2 l0 l1 (wrap64 (x5_1+1))) else(some t535))=some r:=H;have A11:=Sd.mk A110;clear A110
          by_cases c12:t535=0
          ·rw[if_pos c12] at H
           have c12b0:(t535 == 0)=true:=beq_iff_eq.mpr c12;have c12b1:(t535 != 0)=false:=bne_eq_false_iff_eq.mpr c12;clear c12;have H':=Sd.mk H;clear H
           try go_wp2
           have n0_:=Sd.mk (below_drew1 HB.out);clear HB;have HB:=n0_;clear n0_;have p530:0≤(x5_1:Int):=dz;have q530:x5_1<(l0.length:Int):=dz;obtain⟨ad530,A530_1,c530_1,e530,hx530_0,hx530_1,hl530_1,hi530_1⟩:=at_T61 HR0.out x5_1 p530 q530;have hw530_1:=hx530_1;have hw530_0:=hx530_0;cases e530;replace hx530_0:=(HB.out.cell (World.block_lt_of_cell? w _ hx530_0)).trans hx530_0;replace hx530_1:=(HB.out.cell (World.block_lt_of_cell? w _ hx530_1)).trans hx530_1;have HR530_1:=Sd.mk hi530_1;have HC530_1:=Sd.mk hl530_1;clear hi530_1 hl530_1;replace p530:=eq_true p530;replace q530:=eq_true q530;have p531:0≤(x5_1:Int):=dz;have q531:x5_1<(l1.length:Int):=dz;obtain⟨ad531,A531_1,c531_1,e531,hx531_0,hx531_1,hl531_1,hi531_1⟩:=at_T61 HR1.out x5_1 p531 q531;have hw531_1:=hx531_1;have hw531_0:=hx531_0;cases e531;replace hx531_0:=(HB.out.cell (World.block_lt_of_cell? w _ hx531_0)).trans hx531_0;replace hx531_1:=(HB.out.cell (World.block_lt_of_cell? w _ hx531_1)).trans hx531_1;have HR531_1:=Sd.mk hi531_1;have HC531_1:=Sd.mk hl531_1;clear hi531_1 hl531_1;replace p531:=eq_true p531;replace q531:=eq_true q531;refine start_ (n:=12) (S:=fun w'=>w'.cell? (ad530.add ((x5_1).toNat*2))=some (.int .i64 ((rd_T61 l0 x5_1).f0))∧w'.cell? ⟨(ad530.add ((x5_1).toNat*2)).block,(ad530.add ((x5_1).toNat*2)).off+1,none⟩=some (.slice A530_1 ((rd_T61 l0 x5_1).f1).length c530_1)∧w'.cell? (ad531.add ((x5_1).toNat*2))=some (.int .i64 ((rd_T61 l1 x5_1).f0))∧w'.cell? ⟨(ad531.add ((x5_1).toNat*2)).block,(ad531.add ((x5_1).toNat*2)).off+1,none⟩=some (.slice A531_1 ((rd_T61 l1 x5_1).f1).length c531_1)) (ds:=[]) #[F,F,F,F,F,F,F,F,F,F,F,F] (by kernel_rfl) rfl rfl ⟨((HB.out.cell (World.block_lt_of_cell? w _ hw530_0)).trans hw530_0),((HB.out.cell (World.block_lt_of_cell? w _ hw530_1)).trans hw530_1),((HB.out.cell (World.block_lt_of_cell? w _ hw531_0)).trans hw531_0),((HB.out.cell (World.block_lt_of_cell? w _ hw531_1)).trans hw531_1)⟩ (fun hHeld=>?_);refine with_tabW impl_compare.tab4 impl_compare.bits4 (fun HT_ HW_=>?_)
           generalize wc.drew=w13 at HB HR530_1 HR531_1 hx530_0 hx530_1 hx531_0 hx531_1 hHeld ⊢
           refine pq 0 (some 20) HT_.out rfl rfl ?_;refine pq 1 (some 21) HT_.out rfl rfl ?_;refine pq 2 (some 22) HT_.out rfl rfl ?_;refine pq 3 (some 23) HT_.out rfl rfl ?_;refine pq 5 (some 25) HT_.out rfl rfl ?_;refine pq 6 (some 26) HT_.out rfl rfl ?_;refine pq 7 (some 27) HT_.out rfl rfl ?_;refine pq 8 (some 28) HT_.out rfl rfl ?_;refine take_ (i:=4) (N:=some 24) (v:=?_) (a':=?_) #[T,T,T,T,T,T,T,T,T,F,F,F] rfl rfl (take_ofW HT_.out HW_.out (by kernel_rfl)) (fun _ _ _ h=>h) (Or.inl ⟨by rfl,?_⟩) hHeld ?_ ?_
           rotate_left;(· rintro w' ⟨s0,s1,s2,s3⟩;go_simp;with_reducible rfl);rotate_left;(· simp only[Act.put,s1,s2,s3,i64_w,i32_w];rfl)
           refine take_ (i:=9) (N:=some 29) (v:=?_) (a':=?_) #[T,T,T,T,T,T,T,T,T,T,F,F] rfl rfl (take_ofW HT_.out HW_.out (by kernel_rfl)) (fun _ _ _ h=>h) (Or.inl ⟨by rfl,?_⟩) hHeld ?_ ?_
           rotate_left;(· rintro w' ⟨s0,s1,s2,s3⟩;go_simp;with_reducible rfl);rotate_left;(· simp only[Act.put,s1,s2,s3,i64_w,i32_w];rfl)
           refine one_ (i:=10) (N:=some 30) #[T,T,T,T,T,T,T,T,T,T,T,F] rfl rfl (one_of HT_.out (by kernel_rfl)) (by decide) (fun K hK=>?_);refine goes_ Try.func50 (by kernel_rfl) rfl #[.slice A530_1 ((rd_T61 l0 x5_1).f1).length c530_1,.slice A531_1 ((rd_T61 l1 x5_1).f1).length c531_1] (by rfl) rfl rfl az ?_
           with_reducible refine(ih kj2 (by have:=HK1.out;have:=HJ2.out;omega) _ _ ((rd_T61 l0 x5_1).f1) _ _ ((rd_T61 l1 x5_1).f1) t532 _ ?side1 ?side2 ?side3 ?side4 A9.out).mono ?_
           (case side1=>exact Kd.Cz (Kd.C_below HR530_1.out HB.out))
           (case side2=>exact HC530_1.out)
           (case side3=>exact Kd.Cz (Kd.C_below HR531_1.out HB.out))
           (case side4=>exact HC531_1.out)
           rintro e w14 ⟨rfl,hb⟩;refine⟨_,rfl,?_⟩;have n0_:=Sd.mk (below_step bz hb);clear HB;have HB:=n0_;clear n0_
           (try clear hb)
           (try clear hb2)
           (try clear hk)
           (try clear hi)
           refine hK.out _ _ ⟨((HB.out.cell (World.block_lt_of_cell? w _ hw530_0)).trans hw530_0),((HB.out.cell (World.block_lt_of_cell? w _ hw530_1)).trans hw530_1),((HB.out.cell (World.block_lt_of_cell? w _ hw531_0)).trans hw531_0),((HB.out.cell (World.block_lt_of_cell? w _ hw531_1)).trans hw531_1)⟩ (fun hHeld=>?_);clear hK K;refine norm_ (a':=?_) ?_ ?_
           rotate_left
           ·show Act.put _ (some 30) _=_
            simp only[Act.put,s1,s2,s3,i64_w,i32_w]
            rfl
           refine pq 11 (some 6) HT_.out rfl rfl ?_;refine done_ (done_of HT_.out (by kernel_rfl)) ?_
           try go_wp2
           have n0_:=Sd.mk (below_drew1 HB.out);clear HB;have HB:=n0_;clear n0_;have p533:0≤(x5_1:Int):=dz;have q533:x5_1<(l0.length:Int):=dz;obtain⟨ad533,A533_1,c533_1,e533,hx533_0,hx533_1,hl533_1,hi533_1⟩:=at_T61 HR0.out x5_1 p533 q533;have hw533_1:=hx533_1;have hw533_0:=hx533_0;obtain rfl:ad530=ad533:=(by injection e533);replace hx533_0:=(HB.out.cell (World.block_lt_of_cell? w _ hx533_0)).trans hx533_0;replace hx533_1:=(HB.out.cell (World.block_lt_of_cell? w _ hx533_1)).trans hx533_1
           (try (have he_:=Option.some.inj (hx533_1.symm.trans (show _=some (Value.slice A530_1 _ c530_1) from by assumption));injection he_ with ha_ hn_ hc_;clear hn_;subst ha_;subst hc_))
           have HR533_1:=Sd.mk hi533_1;have HC533_1:=Sd.mk hl533_1;clear hi533_1 hl533_1;replace p533:=eq_true p533;replace q533:=eq_true q533;have p534:0≤(x5_1:Int):=dz;have q534:x5_1<(l1.length:Int):=dz;obtain⟨ad534,A534_1,c534_1,e534,hx534_0,hx534_1,hl534_1,hi534_1⟩:=at_T61 HR1.out x5_1 p534 q534;have hw534_1:=hx534_1;have hw534_0:=hx534_0;obtain rfl:ad531=ad534:=(by injection e534);replace hx534_0:=(HB.out.cell (World.block_lt_of_cell? w _ hx534_0)).trans hx534_0;replace hx534_1:=(HB.out.cell (World.block_lt_of_cell? w _ hx534_1)).trans hx534_1
           (try (have he_:=Option.some.inj (hx534_1.symm.trans (show _=some (Value.slice A531_1 _ c531_1) from by assumption));injection he_ with ha_ hn_ hc_;clear hn_;subst ha_;subst hc_))
           have HR534_1:=Sd.mk hi534_1;have HC534_1:=Sd.mk hl534_1;clear hi534_1 hl534_1;replace p534:=eq_true p534;replace q534:=eq_true q534;refine start_ (n:=12) (S:=fun w'=>w'.cell? (ad530.add ((x5_1).toNat*2))=some (.int .i64 ((rd_T61 l0 x5_1).f0))∧w'.cell? ⟨(ad530.add ((x5_1).toNat*2)).block,(ad530.add ((x5_1).toNat*2)).off+1,none⟩=some (.slice A533_1 ((rd_T61 l0 x5_1).f1).length c533_1)∧w'.cell? (ad531.add ((x5_1).toNat*2))=some (.int .i64 ((rd_T61 l1 x5_1).f0))∧w'.cell? ⟨(ad531.add ((x5_1).toNat*2)).block,(ad531.add ((x5_1).toNat*2)).off+1,none⟩=some (.slice A534_1 ((rd_T61 l1 x5_1).f1).length c534_1)) (ds:=[]) #[F,F,F,F,F,F,F,F,F,F,F,F] (by kernel_rfl) rfl rfl ⟨((HB.out.cell (World.block_lt_of_cell? w _ hw533_0)).trans hw533_0),((HB.out.cell (World.block_lt_of_cell? w _ hw533_1)).trans hw533_1),((HB.out.cell (World.block_lt_of_cell? w _ hw534_0)).trans hw534_0),((HB.out.cell (World.block_lt_of_cell? w _ hw534_1)).trans hw534_1)⟩ (fun hHeld=>?_);refine with_tabW impl_compare.tab7 impl_compare.bits7 (fun HT_ HW_=>?_)
           generalize w14.drew=w15 at HB HR533_1 HR534_1 hx533_0 hx533_1 hx534_0 hx534_1 hHeld ⊢
           refine pq 0 (some 34) HT_.out rfl rfl ?_;refine pq 1 (some 35) HT_.out rfl rfl ?_;refine pq 2 (some 36) HT_.out rfl rfl ?_;refine pq 3 (some 37) HT_.out rfl rfl ?_;refine pq 5 (some 39) HT_.out rfl rfl ?_;refine pq 6 (some 40) HT_.out rfl rfl ?_;refine pq 7 (some 41) HT_.out rfl rfl ?_;refine pq 8 (some 42) HT_.out rfl rfl ?_;refine take_ (i:=4) (N:=some 38) (v:=?_) (a':=?_) #[T,T,T,T,T,T,T,T,T,F,F,F] rfl rfl (take_ofW HT_.out HW_.out (by kernel_rfl)) (fun _ _ _ h=>h) (Or.inl ⟨by rfl,?_⟩) hHeld ?_ ?_
           rotate_left;(· rintro w' ⟨s0,s1,s2,s3⟩;go_simp;with_reducible rfl);rotate_left;(· simp only[Act.put,s1,s2,s3,i64_w,i32_w];rfl)
           refine take_ (i:=9) (N:=some 43) (v:=?_) (a':=?_) #[T,T,T,T,T,T,T,T,T,T,F,F] rfl rfl (take_ofW HT_.out HW_.out (by kernel_rfl)) (fun _ _ _ h=>h) (Or.inl ⟨by rfl,?_⟩) hHeld ?_ ?_
           rotate_left;(· rintro w' ⟨s0,s1,s2,s3⟩;go_simp;with_reducible rfl);rotate_left;(· simp only[Act.put,s1,s2,s3,i64_w,i32_w];rfl)
           refine one_ (i:=10) (N:=some 44) #[T,T,T,T,T,T,T,T,T,T,T,F] rfl rfl (one_of HT_.out (by kernel_rfl)) (by decide) (fun K hK=>?_);refine goes_ Try.func72 (by kernel_rfl) rfl #[.int .i64 ((rd_T61 l0 x5_1).f0),.int .i64 ((rd_T61 l1 x5_1).f0)] (by rfl) rfl rfl az ?_
           with_reducible refine(cmp_Compare_int.calls ((rd_T61 l0 x5_1).f0) ((rd_T61 l1 x5_1).f0) t535 _ A11.out).mono ?_
           rintro e w' ⟨rfl,⟨nd,rfl⟩⟩;refine⟨_,rfl,?_⟩;refine hK.out _ _ ⟨((HB.out.cell (World.block_lt_of_cell? w _ hw533_0)).trans hw533_0),((HB.out.cell (World.block_lt_of_cell? w _ hw533_1)).trans hw533_1),((HB.out.cell (World.block_lt_of_cell? w _ hw534_0)).trans hw534_0),((HB.out.cell (World.block_lt_of_cell? w _ hw534_1)).trans hw534_1)⟩ (fun hHeld=>?_);clear hK K;refine norm_ (a':=?_) ?_ ?_
           rotate_left
           ·show Act.put _ (some 44) _=_
            simp only[Act.put,s1,s2,s3,i64_w,i32_w]
            rfl
           refine pq 11 (some 7) HT_.out rfl rfl ?_;refine done_ (done_of HT_.out (by kernel_rfl)) ?_
           try go_wp2
           go_roundg kj2
           case measure=>have:=HK1.out;have:=HJ2.out;omega
           case rel=>exact⟨(wrap64 (x5_1+1)),(by first|rfl|(simp;done)|(simp[*];done)),H',⟨by have:=HK1.out;have:=HJ2.out;omega⟩,⟨bz⟩⟩
          ·rw[if_neg c12] at H
           have c12b0:(t535 == 0)=false:=beq_eq_false_iff_ne.mpr c12;have c12b1:(t535 != 0)=true:=bne_iff_ne.mpr c12;obtain rfl:=Option.some.inj H
           try go_wp2
           have n0_:=Sd.mk (below_drew1 HB.out);clear HB;have HB:=n0_;clear n0_;have p530:0≤(x5_1:Int):=dz;have q530:x5_1<(l0.length:Int):=dz;obtain⟨ad530,A530_1,c530_1,e530,hx530_0,hx530_1,hl530_1,hi530_1⟩:=at_T61 HR0.out x5_1 p530 q530;have hw530_1:=hx530_1;have hw530_0:=hx530_0;cases e530;replace hx530_0:=(HB.out.cell (World.block_lt_of_cell? w _ hx530_0)).trans hx530_0;replace hx530_1:=(HB.out.cell (World.block_lt_of_cell? w _ hx530_1)).trans hx530_1;have HR530_1:=Sd.mk hi530_1;have HC530_1:=Sd.mk hl530_1;clear hi530_1 hl530_1;replace p530:=eq_true p530;replace q530:=eq_true q530;have p531:0≤(x5_1:Int):=dz;have q531:x5_1<(l1.length:Int):=dz;obtain⟨ad531,A531_1,c531_1,e531,hx531_0,hx531_1,hl531_1,hi531_1⟩:=at_T61 HR1.out x5_1 p531 q531;have hw531_1:=hx531_1;have hw531_0:=hx531_0;cases e531;replace hx531_0:=(HB.out.cell (World.block_lt_of_cell? w _ hx531_0)).trans hx531_0;replace hx531_1:=(HB.out.cell (World.block_lt_of_cell? w _ hx531_1)).trans hx531_1;have HR531_1:=Sd.mk hi531_1;have HC531_1:=Sd.mk hl531_1;clear hi531_1 hl531_1;replace p531:=eq_true p531;replace q531:=eq_true q531;refine start_ (n:=12) (S:=fun w'=>w'.cell? (ad530.add ((x5_1).toNat*2))=some (.int .i64 ((rd_T61 l0 x5_1).f0))∧w'.cell? ⟨(ad530.add ((x5_1).toNat*2)).block,(ad530.add ((x5_1).toNat*2)).off+1,none⟩=some (.slice A530_1 ((rd_T61 l0 x5_1).f1).length c530_1)∧w'.cell? (ad531.add ((x5_1).toNat*2))=some (.int .i64 ((rd_T61 l1 x5_1).f0))∧w'.cell? ⟨(ad531.add ((x5_1).toNat*2)).block,(ad531.add ((x5_1).toNat*2)).off+1,none⟩=some (.slice A531_1 ((rd_T61 l1 x5_1).f1).length c531_1)) (ds:=[]) #[F,F,F,F,F,F,F,F,F,F,F,F] (by kernel_rfl) rfl rfl ⟨((HB.out.cell (World.block_lt_of_cell? w _ hw530_0)).trans hw530_0),((HB.out.cell (World.block_lt_of_cell? w _ hw530_1)).trans hw530_1),((HB.out.cell (World.block_lt_of_cell? w _ hw531_0)).trans hw531_0),((HB.out.cell (World.block_lt_of_cell? w _ hw531_1)).trans hw531_1)⟩ (fun hHeld=>?_);refine with_tabW impl_compare.tab4 impl_compare.bits4 (fun HT_ HW_=>?_)
           generalize wc.drew=w16 at HB HR530_1 HR531_1 hx530_0 hx530_1 hx531_0 hx531_1 hHeld ⊢
           refine pq 0 (some 20) HT_.out rfl rfl ?_;refine pq 1 (some 21) HT_.out rfl rfl ?_;refine pq 2 (some 22) HT_.out rfl rfl ?_;refine pq 3 (some 23) HT_.out rfl rfl ?_;refine pq 5 (some 25) HT_.out rfl rfl ?_;refine pq 6 (some 26) HT_.out rfl rfl ?_;refine pq 7 (some 27) HT_.out rfl rfl ?_;refine pq 8 (some 28) HT_.out rfl rfl ?_;refine take_ (i:=4) (N:=some 24) (v:=?_) (a':=?_) #[T,T,T,T,T,T,T,T,T,F,F,F] rfl rfl (take_ofW HT_.out HW_.out (by kernel_rfl)) (fun _ _ _ h=>h) (Or.inl ⟨by rfl,?_⟩) hHeld ?_ ?_
           rotate_left;(· rintro w' ⟨s0,s1,s2,s3⟩;go_simp;with_reducible rfl);rotate_left;(· simp only[Act.put,s1,s2,s3,i64_w,i32_w];rfl)
           refine take_ (i:=9) (N:=some 29) (v:=?_) (a':=?_) #[T,T,T,T,T,T,T,T,T,T,F,F] rfl rfl (take_ofW HT_.out HW_.out (by kernel_rfl)) (fun _ _ _ h=>h) (Or.inl ⟨by rfl,?_⟩) hHeld ?_ ?_
           rotate_left;(· rintro w' ⟨s0,s1,s2,s3⟩;go_simp;with_reducible rfl);rotate_left;(· simp only[Act.put,s1,s2,s3,i64_w,i32_w];rfl)
           refine one_ (i:=10) (N:=some 30) #[T,T,T,T,T,T,T,T,T,T,T,F] rfl rfl (one_of HT_.out (by kernel_rfl)) (by decide) (fun K hK=>?_);refine goes_ Try.func50 (by kernel_rfl) rfl #[.slice A530_1 ((rd_T61 l0 x5_1).f1).length c530_1,.slice A531_1 ((rd_T61 l1 x5_1).f1).length c531_1] (by rfl) rfl rfl az ?_
           with_reducible refine(ih kj2 (by have:=HK1.out;have:=HJ2.out;omega) _ _ ((rd_T61 l0 x5_1).f1) _ _ ((rd_T61 l1 x5_1).f1) t532 _ ?side1 ?side2 ?side3 ?side4 A9.out).mono ?_
           (case side1=>exact Kd.Cz (Kd.C_below HR530_1.out HB.out))
           (case side2=>exact HC530_1.out)
           (case side3=>exact Kd.Cz (Kd.C_below HR531_1.out HB.out))
           (case side4=>exact HC531_1.out)
           rintro e w17 ⟨rfl,hb⟩;refine⟨_,rfl,?_⟩;have n0_:=Sd.mk (below_step bz hb);clear HB;have HB:=n0_;clear n0_
           (try clear hb)
           (try clear hb2)
           (try clear hk)
           (try clear hi)
           refine hK.out _ _ ⟨((HB.out.cell (World.block_lt_of_cell? w _ hw530_0)).trans hw530_0),((HB.out.cell (World.block_lt_of_cell? w _ hw530_1)).trans hw530_1),((HB.out.cell (World.block_lt_of_cell? w _ hw531_0)).trans hw531_0),((HB.out.cell (World.block_lt_of_cell? w _ hw531_1)).trans hw531_1)⟩ (fun hHeld=>?_);clear hK K;refine norm_ (a':=?_) ?_ ?_
           rotate_left
           ·show Act.put _ (some 30) _=_
            simp only[Act.put,s1,s2,s3,i64_w,i32_w]
            rfl
           refine pq 11 (some 6) HT_.out rfl rfl ?_;refine done_ (done_of HT_.out (by kernel_rfl)) ?_
           try go_wp2
           have n0_:=Sd.mk (below_drew1 HB.out);clear HB;have HB:=n0_;clear n0_;have p533:0≤(x5_1:Int):=dz;have q533:x5_1<(l0.length:Int):=dz;obtain⟨ad533,A533_1,c533_1,e533,hx533_0,hx533_1,hl533_1,hi533_1⟩:=at_T61 HR0.out x5_1 p533 q533;have hw533_1:=hx533_1;have hw533_0:=hx533_0;obtain rfl:ad530=ad533:=(by injection e533);replace hx533_0:=(HB.out.cell (World.block_lt_of_cell? w _ hx533_0)).trans hx533_0;replace hx533_1:=(HB.out.cell (World.block_lt_of_cell? w _ hx533_1)).trans hx533_1
           (try (have he_:=Option.some.inj (hx533_1.symm.trans (show _=some (Value.slice A530_1 _ c530_1) from by assumption));injection he_ with ha_ hn_ hc_;clear hn_;subst ha_;subst hc_))
           have HR533_1:=Sd.mk hi533_1;have HC533_1:=Sd.mk hl533_1;clear hi533_1 hl533_1;replace p533:=eq_true p533;replace q533:=eq_true q533;have p534:0≤(x5_1:Int):=dz;have q534:x5_1<(l1.length:Int):=dz;obtain⟨ad534,A534_1,c534_1,e534,hx534_0,hx534_1,hl534_1,hi534_1⟩:=at_T61 HR1.out x5_1 p534 q534;have hw534_1:=hx534_1;have hw534_0:=hx534_0;obtain rfl:ad531=ad534:=(by injection e534);replace hx534_0:=(HB.out.cell (World.block_lt_of_cell? w _ hx534_0)).trans hx534_0;replace hx534_1:=(HB.out.cell (World.block_lt_of_cell? w _ hx534_1)).trans hx534_1
           (try (have he_:=Option.some.inj (hx534_1.symm.trans (show _=some (Value.slice A531_1 _ c531_1) from by assumption));injection he_ with ha_ hn_ hc_;clear hn_;subst ha_;subst hc_))
           have HR534_1:=Sd.mk hi534_1;have HC534_1:=Sd.mk hl534_1;clear hi534_1 hl534_1;replace p534:=eq_true p534;replace q534:=eq_true q534;refine start_ (n:=12) (S:=fun w'=>w'.cell? (ad530.add ((x5_1).toNat*2))=some (.int .i64 ((rd_T61 l0 x5_1).f0))∧w'.cell? ⟨(ad530.add ((x5_1).toNat*2)).block,(ad530.add ((x5_1).toNat*2)).off+1,none⟩=some (.slice A533_1 ((rd_T61 l0 x5_1).f1).length c533_1)∧w'.cell? (ad531.add ((x5_1).toNat*2))=some (.int .i64 ((rd_T61 l1 x5_1).f0))∧w'.cell? ⟨(ad531.add ((x5_1).toNat*2)).block,(ad531.add ((x5_1).toNat*2)).off+1,none⟩=some (.slice A534_1 ((rd_T61 l1 x5_1).f1).length c534_1)) (ds:=[]) #[F,F,F,F,F,F,F,F,F,F,F,F] (by kernel_rfl) rfl rfl ⟨((HB.out.cell (World.block_lt_of_cell? w _ hw533_0)).trans hw533_0),((HB.out.cell (World.block_lt_of_cell? w _ hw533_1)).trans hw533_1),((HB.out.cell (World.block_lt_of_cell? w _ hw534_0)).trans hw534_0),((HB.out.cell (World.block_lt_of_cell? w _ hw534_1)).trans hw534_1)⟩ (fun hHeld=>?_);refine with_tabW impl_compare.tab7 impl_compare.bits7 (fun HT_ HW_=>?_)
           generalize w17.drew=w18 at HB HR533_1 HR534_1 hx533_0 hx533_1 hx534_0 hx534_1 hHeld ⊢
           refine pq 0 (some 34) HT_.out rfl rfl ?_;refine pq 1 (some 35) HT_.out rfl rfl ?_;refine pq 2 (some 36) HT_.out rfl rfl ?_;refine pq 3 (some 37) HT_.out rfl rfl ?_;refine pq 5 (some 39) HT_.out rfl rfl ?_;refine pq 6 (some 40) HT_.out rfl rfl ?_;refine pq 7 (some 41) HT_.out rfl rfl ?_;refine pq 8 (some 42) HT_.out rfl rfl ?_;refine take_ (i:=4) (N:=some 38) (v:=?_) (a':=?_) #[T,T,T,T,T,T,T,T,T,F,F,F] rfl rfl (take_ofW HT_.out HW_.out (by kernel_rfl)) (fun _ _ _ h=>h) (Or.inl ⟨by rfl,?_⟩) hHeld ?_ ?_
           rotate_left;(· rintro w' ⟨s0,s1,s2,s3⟩;go_simp;with_reducible rfl);rotate_left;(· simp only[Act.put,s1,s2,s3,i64_w,i32_w];rfl)
           refine take_ (i:=9) (N:=some 43) (v:=?_) (a':=?_) #[T,T,T,T,T,T,T,T,T,T,F,F] rfl rfl (take_ofW HT_.out HW_.out (by kernel_rfl)) (fun _ _ _ h=>h) (Or.inl ⟨by rfl,?_⟩) hHeld ?_ ?_
           rotate_left;(· rintro w' ⟨s0,s1,s2,s3⟩;go_simp;with_reducible rfl);rotate_left;(· simp only[Act.put,s1,s2,s3,i64_w,i32_w];rfl)
           refine one_ (i:=10) (N:=some 44) #[T,T,T,T,T,T,T,T,T,T,T,F] rfl rfl (one_of HT_.out (by kernel_rfl)) (by decide) (fun K hK=>?_);refine goes_ Try.func72 (by kernel_rfl) rfl #[.int .i64 ((rd_T61 l0 x5_1).f0),.int .i64 ((rd_T61 l1 x5_1).f0)] (by rfl) rfl rfl az ?_
           with_reducible refine(cmp_Compare_int.calls ((rd_T61 l0 x5_1).f0) ((rd_T61 l1 x5_1).f0) t535 _ A11.out).mono ?_
           rintro e w' ⟨rfl,⟨nd,rfl⟩⟩;refine⟨_,rfl,?_⟩;refine hK.out _ _ ⟨((HB.out.cell (World.block_lt_of_cell? w _ hw533_0)).trans hw533_0),((HB.out.cell (World.block_lt_of_cell? w _ hw533_1)).trans hw533_1),((HB.out.cell (World.block_lt_of_cell? w _ hw534_0)).trans hw534_0),((HB.out.cell (World.block_lt_of_cell? w _ hw534_1)).trans hw534_1)⟩ (fun hHeld=>?_);clear hK K;refine norm_ (a':=?_) ?_ ?_
           rotate_left
           ·show Act.put _ (some 44) _=_
            simp only[Act.put,s1,s2,s3,i64_w,i32_w]
            rfl
           refine pq 11 (some 7) HT_.out rfl rfl ?_;refine done_ (done_of HT_.out (by kernel_rfl)) ?_
           try go_wp2
           go_ret;exact⟨by first|rfl|(simp[errW_none,errW_some]<;>rfl)|(simp[*,errW_none,errW_some]<;>rfl),bz⟩
         ·rw[if_neg c10] at H
          have c10b0:(t532 == 0)=false:=beq_eq_false_iff_ne.mpr c10;have c10b1:(t532 != 0)=true:=bne_iff_ne.mpr c10;obtain rfl:=Option.some.inj H
          try go_wp2
          have n0_:=Sd.mk (below_drew1 HB.out);clear HB;have HB:=n0_;clear n0_;have p530:0≤(x5_1:Int):=dz;have q530:x5_1<(l0.length:Int):=dz;obtain⟨ad530,A530_1,c530_1,e530,hx530_0,hx530_1,hl530_1,hi530_1⟩:=at_T61 HR0.out x5_1 p530 q530;have hw530_1:=hx530_1;have hw530_0:=hx530_0;cases e530;replace hx530_0:=(HB.out.cell (World.block_lt_of_cell? w _ hx530_0)).trans hx530_0;replace hx530_1:=(HB.out.cell (World.block_lt_of_cell? w _ hx530_1)).trans hx530_1;have HR530_1:=Sd.mk hi530_1;have HC530_1:=Sd.mk hl530_1;clear hi530_1 hl530_1;replace p530:=eq_true p530;replace q530:=eq_true q530;have p531:0≤(x5_1:Int):=dz;have q531:x5_1<(l1.length:Int):=dz;obtain⟨ad531,A531_1,c531_1,e531,hx531_0,hx531_1,hl531_1,hi531_1⟩:=at_T61 HR1.out x5_1 p531 q531;have hw531_1:=hx531_1;have hw531_0:=hx531_0;cases e531;replace hx531_0:=(HB.out.cell (World.block_lt_of_cell? w _ hx531_0)).trans hx531_0;replace hx531_1:=(HB.out.cell (World.block_lt_of_cell? w _ hx531_1)).trans hx531_1;have HR531_1:=Sd.mk hi531_1;have HC531_1:=Sd.mk hl531_1;clear hi531_1 hl531_1;replace p531:=eq_true p531;replace q531:=eq_true q531;refine start_ (n:=12) (S:=fun w'=>w'.cell? (ad530.add ((x5_1).toNat*2))=some (.int .i64 ((rd_T61 l0 x5_1).f0))∧w'.cell? ⟨(ad530.add ((x5_1).toNat*2)).block,(ad530.add ((x5_1).toNat*2)).off+1,none⟩=some (.slice A530_1 ((rd_T61 l0 x5_1).f1).length c530_1)∧w'.cell? (ad531.add ((x5_1).toNat*2))=some (.int .i64 ((rd_T61 l1 x5_1).f0))∧w'.cell? ⟨(ad531.add ((x5_1).toNat*2)).block,(ad531.add ((x5_1).toNat*2)).off+1,none⟩=some (.slice A531_1 ((rd_T61 l1 x5_1).f1).length c531_1)) (ds:=[]) #[F,F,F,F,F,F,F,F,F,F,F,F] (by kernel_rfl) rfl rfl ⟨((HB.out.cell (World.block_lt_of_cell? w _ hw530_0)).trans hw530_0),((HB.out.cell (World.block_lt_of_cell? w _ hw530_1)).trans hw530_1),((HB.out.cell (World.block_lt_of_cell? w _ hw531_0)).trans hw531_0),((HB.out.cell (World.block_lt_of_cell? w _ hw531_1)).trans hw531_1)⟩ (fun hHeld=>?_);refine with_tabW impl_compare.tab4 impl_compare.bits4 (fun HT_ HW_=>?_)
          generalize wc.drew=w19 at HB HR530_1 HR531_1 hx530_0 hx530_1 hx531_0 hx531_1 hHeld ⊢
          refine pq 0 (some 20) HT_.out rfl rfl ?_;refine pq 1 (some 21) HT_.out rfl rfl ?_;refine pq 2 (some 22) HT_.out rfl rfl ?_;refine pq 3 (some 23) HT_.out rfl rfl ?_;refine pq 5 (some 25) HT_.out rfl rfl ?_;refine pq 6 (some 26) HT_.out rfl rfl ?_;refine pq 7 (some 27) HT_.out rfl rfl ?_;refine pq 8 (some 28) HT_.out rfl rfl ?_;refine take_ (i:=4) (N:=some 24) (v:=?_) (a':=?_) #[T,T,T,T,T,T,T,T,T,F,F,F] rfl rfl (take_ofW HT_.out HW_.out (by kernel_rfl)) (fun _ _ _ h=>h) (Or.inl ⟨by rfl,?_⟩) hHeld ?_ ?_
          rotate_left;(· rintro w' ⟨s0,s1,s2,s3⟩;go_simp;with_reducible rfl);rotate_left;(· simp only[Act.put,s1,s2,s3,i64_w,i32_w];rfl)
          refine take_ (i:=9) (N:=some 29) (v:=?_) (a':=?_) #[T,T,T,T,T,T,T,T,T,T,F,F] rfl rfl (take_ofW HT_.out HW_.out (by kernel_rfl)) (fun _ _ _ h=>h) (Or.inl ⟨by rfl,?_⟩) hHeld ?_ ?_
          rotate_left;(· rintro w' ⟨s0,s1,s2,s3⟩;go_simp;with_reducible rfl);rotate_left;(· simp only[Act.put,s1,s2,s3,i64_w,i32_w];rfl)
          refine one_ (i:=10) (N:=some 30) #[T,T,T,T,T,T,T,T,T,T,T,F] rfl rfl (one_of HT_.out (by kernel_rfl)) (by decide) (fun K hK=>?_);refine goes_ Try.func50 (by kernel_rfl) rfl #[.slice A530_1 ((rd_T61 l0 x5_1).f1).length c530_1,.slice A531_1 ((rd_T61 l1 x5_1).f1).length c531_1] (by rfl) rfl rfl az ?_
          with_reducible refine(ih kj2 (by have:=HK1.out;have:=HJ2.out;omega) _ _ ((rd_T61 l0 x5_1).f1) _ _ ((rd_T61 l1 x5_1).f1) t532 _ ?side1 ?side2 ?side3 ?side4 A9.out).mono ?_
          (case side1=>exact Kd.Cz (Kd.C_below HR530_1.out HB.out))
          (case side2=>exact HC530_1.out)
          (case side3=>exact Kd.Cz (Kd.C_below HR531_1.out HB.out))
          (case side4=>exact HC531_1.out)
          rintro e w20 ⟨rfl,hb⟩;refine⟨_,rfl,?_⟩;have n0_:=Sd.mk (below_step bz hb);clear HB;have HB:=n0_;clear n0_
          (try clear hb)
          (try clear hb2)
          (try clear hk)
          (try clear hi)
          refine hK.out _ _ ⟨((HB.out.cell (World.block_lt_of_cell? w _ hw530_0)).trans hw530_0),((HB.out.cell (World.block_lt_of_cell? w _ hw530_1)).trans hw530_1),((HB.out.cell (World.block_lt_of_cell? w _ hw531_0)).trans hw531_0),((HB.out.cell (World.block_lt_of_cell? w _ hw531_1)).trans hw531_1)⟩ (fun hHeld=>?_);clear hK K;refine norm_ (a':=?_) ?_ ?_
          rotate_left
          ·show Act.put _ (some 30) _=_
           simp only[Act.put,s1,s2,s3,i64_w,i32_w]
           rfl
          refine pq 11 (some 6) HT_.out rfl rfl ?_;refine done_ (done_of HT_.out (by kernel_rfl)) ?_
          try go_wp2
          go_ret;exact⟨by first|rfl|(simp[errW_none,errW_some]<;>rfl)|(simp[*,errW_none,errW_some]<;>rfl),bz⟩
        ·rw[if_neg c8] at H
         exact absurd H (by simp)
       ·rw[if_neg c7] at H
        exact absurd H (by simp)
      ·rw[if_neg c6] at H
       exact absurd H (by simp)
     ·replace c5:=Bool.eq_false_iff.mpr c5
      subst c5
      have H1:((cmp_Compare_int.f (l0.length:Int) (l1.length:Int)).bind fun t529=>(some t529))=some r:=by rw[if_neg (show ¬ (false=true) by decide)] at H;exact H
      clear H;have H:=H1;clear H1;replace H:=Option.bind_eq_some_iff.mp H;obtain⟨t529,A210,H⟩:=H;replace H:(some t529)=some r:=H;have A21:=Sd.mk A210;clear A210;obtain rfl:=Option.some.inj H;go_wp2_with (first|((with_reducible refine gate_callee (f:=72) rfl ?_);refine goesL_ (some 52) rfl rfl Try.func72 (by kernel_rfl) rfl #[.int .i64 (l0.length:Int),.int .i64 (l1.length:Int)] rfl az ?_;(with_reducible refine(cmp_Compare_int.calls (l0.length:Int) (l1.length:Int) t529 _ A21.out).mono ?_);rintro e w' ⟨rfl,⟨nd,rfl⟩⟩;refine⟨_,rfl,?_⟩));go_ret;exact⟨by first|rfl|(simp[errW_none,errW_some]<;>rfl)|(simp[*,errW_none,errW_some]<;>rfl),bz⟩
end Go.Proofs.Ytfblcanijhnhmaa.P