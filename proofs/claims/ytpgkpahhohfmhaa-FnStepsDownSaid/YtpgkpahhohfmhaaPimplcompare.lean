/- One Go function comes to what its Lean function tells. -/
import Derived.Test.YtpgkpahhohfmhaaP0
import Derived.Test.YtpgkpahhohfmhaaPcmpCompareint
namespace Go.Proofs.Ytpgkpahhohfmhaa.P
open Go.RowKit YtpgkpahhohfmhaaW.PrintWords YtpgkpahhohfmhaaW.PrintLast YtpgkpahhohfmhaaW.PrintMore
set_option linter.unusedVariables false
set_option linter.unusedSimpArgs false
/-! ### impl_compare: function 57 -/
mutual
def impl_compare.l0:Nat→List (S69)→List (S69)→Int→Option (Int)
 | 0,_,_,_=>none
 | k+1,x0,x1,x5=>if x5<(x0.length:Int) then(impl_compare.j1 k x0 x1 x5 (decide (x5<(x1.length:Int)))) else(impl_compare.j1 k x0 x1 x5 false)
def impl_compare.j1:Nat→List (S69)→List (S69)→Int→Bool→Option (Int)
 | 0,_,_,_,_=>none
 | k+1,x0,x1,x5,x17=>if x17=true then(if 0≤x5 then(if x5<(x0.length:Int) then(if x5<(x1.length:Int) then((impl_compare.f k ((rd_T69 x0 x5).f1) ((rd_T69 x1 x5).f1)).bind fun t265=>(if t265=0 then((cmp_Compare_int.f ((rd_T69 x0 x5).f0) ((rd_T69 x1 x5).f0)).bind fun t268=>(if t268=0 then(impl_compare.l0 k x0 x1 (wrap64 (x5+1))) else(some t268))) else(some t265))) else(none)) else(none)) else(none)) else((cmp_Compare_int.f (x0.length:Int) (x1.length:Int)).bind fun t262=>(some t262))
def impl_compare.f:Nat→List (S69)→List (S69)→Option (Int)
 | 0,_,_=>none
 | k+1,l0,l1=>impl_compare.l0 k l0 l1 0
end
theorem impl_compare.mono_l:∀ k,(∀ y0 y1,LeO (impl_compare.f k y0 y1) (impl_compare.f (k+1) y0 y1))∧(∀ y0 y1 y2,LeO (impl_compare.l0 k y0 y1 y2) (impl_compare.l0 (k+1) y0 y1 y2))∧(∀ y0 y1 y2 y3,LeO (impl_compare.j1 k y0 y1 y2 y3) (impl_compare.j1 (k+1) y0 y1 y2 y3))
 | 0=>⟨fun _ _ r h=>by simp[impl_compare.f] at h,fun _ _ _ r h=>by simp[impl_compare.l0] at h,fun _ _ _ _ r h=>by simp[impl_compare.j1] at h⟩
 | k+1=>by
  obtain⟨ih0,ih1,ih2⟩:=impl_compare.mono_l k
  refine⟨?_,?_,?_⟩
  ·intro y0 y1
   unfold impl_compare.f
   repeat' first|(with_reducible first|exact ih0 _ _|exact ih1 _ _ _|exact LeO.refl _|exact LeO.none _|refine LeO.ite ?_ ?_|refine LeO.bind ?_ (fun _=>?_))|exact ih0 _ _|exact ih1 _ _ _|exact LeO.none _|refine LeO.ite ?_ ?_|refine LeO.bind ?_ (fun _=>?_)
  ·intro y0 y1 y2
   unfold impl_compare.l0
   repeat' first|(with_reducible first|exact ih1 _ _ _|exact ih2 _ _ _ _|exact LeO.refl _|exact LeO.none _|refine LeO.ite ?_ ?_|refine LeO.bind ?_ (fun _=>?_))|exact ih1 _ _ _|exact ih2 _ _ _ _|exact LeO.none _|refine LeO.ite ?_ ?_|refine LeO.bind ?_ (fun _=>?_)
  ·intro y0 y1 y2 y3
   unfold impl_compare.j1
   repeat' first|(with_reducible first|exact ih0 _ _|exact ih1 _ _ _|exact ih2 _ _ _ _|exact LeO.refl _|exact LeO.none _|refine LeO.ite ?_ ?_|refine LeO.bind ?_ (fun _=>?_))|exact ih0 _ _|exact ih1 _ _ _|exact ih2 _ _ _ _|exact LeO.none _|refine LeO.ite ?_ ?_|refine LeO.bind ?_ (fun _=>?_)
theorem impl_compare.mono:∀ a0 a1 k,LeO (impl_compare.f k a0 a1) (impl_compare.f (k+1) a0 a1):=by
 intro a0 a1 k
 obtain⟨ih0,ih1,ih2⟩:=impl_compare.mono_l k
 exact ih0 a0 a1
def impl_compare.T4:Bool × List (List Nat × List Nat):=(true,[([],[]),([],[]),([0,1],[0,1]),([2],[2]),([3],[3]),([],[]),([],[]),([5,6],[5,6]),([7],[7]),([8],[8]),([4,9],[4,9]),([10,10,0,1,2,3,4,5,6,7,8,9,10],[10])])
def impl_compare.B4:List Nat:=[0,0,3,7,15,0,0,96,224,480,1023,2047]
theorem impl_compare.tab4:rtab .any (opsOf Try.f57 4)=impl_compare.T4:=by kernel_rfl
theorem impl_compare.bits4:waitsOk impl_compare.T4.2 impl_compare.B4=true:=by kernel_rfl
def impl_compare.T7:Bool × List (List Nat × List Nat):=(true,[([],[]),([],[]),([0,1],[0,1]),([2],[2]),([3],[3]),([],[]),([],[]),([5,6],[5,6]),([7],[7]),([8],[8]),([4,9],[4,9]),([10,10,0,1,2,3,4,5,6,7,8,9,10],[10])])
def impl_compare.B7:List Nat:=[0,0,3,7,15,0,0,96,224,480,1023,2047]
theorem impl_compare.tab7:rtab .any (opsOf Try.f57 7)=impl_compare.T7:=by kernel_rfl
theorem impl_compare.bits7:waitsOk impl_compare.T7.2 impl_compare.B7=true:=by kernel_rfl
set_option maxHeartbeats 8000000 in
set_option maxRecDepth 100000 in
theorem impl_compare.calls (k:Nat):∀ (A0:Option Addr) (c0:Nat) (l0:List (S69)) (A1:Option Addr) (c1:Nat) (l1:List (S69)) (r:Int) (w:World) (hr0:Kd.C k69 w A0 l0.length l0) (hc0:l0.length≤c0) (hr1:Kd.C k69 w A1 l1.length l1) (hc1:l1.length≤c1) (h:impl_compare.f k l0 l1=some r),
  Calls Try.prog 57 #[.slice A0 l0.length c0,.slice A1 l1.length c1] w fun e w'=>e=.returned (.int .i64 r)∧Below w.heap.size w w':=by
 induction k using Nat.strongRecOn with
 | _ k ih =>
 intro A0 c0 l0 A1 c1 l1 r w hr0 hc0 hr1 hc1 h
 cases k with
 | zero=>exact absurd h (by simp[impl_compare.f])
 | succ k =>
 simp only[impl_compare.f] at h
 have HR0:=Aside0.mk hr0
 have HC0:=Aside0.mk hc0
 clear hr0 hc0
 have HR1:=Aside0.mk hr1
 have HC1:=Aside0.mk hc1
 clear hr1 hc1
 have HB:=Aside0.mk (Below.refl w.heap.size w)
 have H:(impl_compare.l0 k l0 l1 0)=some r:=h
 clear h
 have H':=Aside0.mk H
 clear H
 go_enter Try.func57,Try.ntmps57
 go_wp2
 go_loopg [5] k (fun kq v5 w'=>∃ (x5_1:Int),v5=.int .i64 x5_1∧Aside0 (impl_compare.l0 kq l0 l1 x5_1=some r)∧Aside0 (kq≤k)∧Aside0 (Below w.heap.size w w'))
 case atStart=>exact⟨(0),(by first|rfl|(simp;done)|(simp[*];done)),H',⟨Nat.le_refl _⟩,⟨bz⟩⟩
 case round =>
  clear H'
  try clear c1
  try clear p2
  obtain⟨x5_1,rfl,HA,HK1,HB⟩:=hrel
  cases gk with
  | zero=>exact absurd HA.out (by simp[impl_compare.l0])
  | succ k1 =>
   have H:=HA.out
   clear HA
   simp only[impl_compare.l0] at H
   have HC3:=Aside0.mk H
   clear H
   go_upto_region 2 with (fail)
   go_cut [17] (fun v17 wc=>∃ (kq:Nat) (x17_2:Bool),v17=.bool x17_2∧Aside0 (impl_compare.j1 kq l0 l1 x5_1 x17_2=some r)∧Aside0 (kq≤k1)∧Aside0 (Below w.heap.size w wc))
   case first =>
    have H:=HC3.out
    clear HC3
    by_cases c4:x5_1<(l0.length:Int)
    ·rw[if_pos c4] at H
     have c4b0:decide (x5_1<(l0.length:Int))=true:=decide_eq_true c4
     clear c4
     (first|rw[c4b0]|(simp only[i64_w,i32_w];rw[c4b0])|skip)
     have H':=Aside0.mk H
     clear H
     go_wp2
     go_meet
     case rel=>exact⟨_,(decide (x5_1<(l1.length:Int))),(by first|rfl|(simp;done)|(simp[*];done)),H',⟨by have:=HK1.out;first|omega|exact Nat.le_refl _⟩,⟨bz⟩⟩
    ·rw[if_neg c4] at H
     have c4b0:decide (x5_1<(l0.length:Int))=false:=decide_eq_false c4
     clear c4
     (first|rw[c4b0]|(simp only[i64_w,i32_w];rw[c4b0])|skip)
     have H':=Aside0.mk H
     clear H
     go_wp2
     go_meet
     case rel=>exact⟨_,(false),(by first|rfl|(simp;done)|(simp[*];done)),H',⟨by have:=HK1.out;first|omega|exact Nat.le_refl _⟩,⟨bz⟩⟩
   case rest =>
    clear HC3
    try clear c1
    try clear p2
    try clear c4
    try clear c4b0
    try clear p2
    obtain⟨kq,x17_2,rfl,HA,HJ2,HB⟩:=hcut
    cases kq with
    | zero=>exact absurd HA.out (by simp[impl_compare.j1])
    | succ kj2 =>
     have H:=HA.out
     clear HA
     simp only[impl_compare.j1] at H
     by_cases c5:x17_2=true
     ·subst c5
      have H1:(if 0≤x5_1 then(if x5_1<(l0.length:Int) then(if x5_1<(l1.length:Int) then((impl_compare.f kj2 ((rd_T69 l0 x5_1).f1) ((rd_T69 l1 x5_1).f1)).bind fun t265=>(if t265=0 then((cmp_Compare_int.f ((rd_T69 l0 x5_1).f0) ((rd_T69 l1 x5_1).f0)).bind fun t268=>(if t268=0 then(impl_compare.l0 kj2 l0 l1 (wrap64 (x5_1+1))) else(some t268))) else(some t265))) else(none)) else(none)) else(none))=some r:=by rw[if_pos rfl] at H;exact H
      clear H
      have H:=H1
      clear H1
      by_cases c6:0≤x5_1
      ·rw[if_pos c6] at H
       have c6b0:decide (0≤x5_1)=true:=decide_eq_true c6
       clear c6
       by_cases c7:x5_1<(l0.length:Int)
       ·rw[if_pos c7] at H
        have c7b0:decide (x5_1<(l0.length:Int))=true:=decide_eq_true c7
        clear c7
        by_cases c8:x5_1<(l1.length:Int)
        ·rw[if_pos c8] at H
         have c8b0:decide (x5_1<(l1.length:Int))=true:=decide_eq_true c8
         clear c8
         replace H:=Option.bind_eq_some_iff.mp H
         obtain⟨t265,A90,H⟩:=H
         replace H:(if t265=0 then((cmp_Compare_int.f ((rd_T69 l0 x5_1).f0) ((rd_T69 l1 x5_1).f0)).bind fun t268=>(if t268=0 then(impl_compare.l0 kj2 l0 l1 (wrap64 (x5_1+1))) else(some t268))) else(some t265))=some r:=H
         have A9:=Aside0.mk A90
         clear A90
         by_cases c10:t265=0
         ·rw[if_pos c10] at H
          have c10b0:(t265 == 0)=true:=beq_iff_eq.mpr c10
          have c10b1:(t265 != 0)=false:=bne_eq_false_iff_eq.mpr c10
          clear c10
          replace H:=Option.bind_eq_some_iff.mp H
          obtain⟨t268,A110,H⟩:=H
          replace H:(if t268=0 then(impl_compare.l0 kj2 l0 l1 (wrap64 (x5_1+1))) else(some t268))=some r:=H
          have A11:=Aside0.mk A110
          clear A110
          by_cases c12:t268=0
          ·rw[if_pos c12] at H
           have c12b0:(t268 == 0)=true:=beq_iff_eq.mpr c12
           have c12b1:(t268 != 0)=false:=bne_eq_false_iff_eq.mpr c12
           clear c12
           have H':=Aside0.mk H
           clear H
           try go_wp2
           have n0_:=Aside0.mk (below_drew1 HB.out)
           clear HB
           have HB:=n0_
           clear n0_
           have p263:0≤(x5_1:Int):=dz
           have q263:x5_1<(l0.length:Int):=dz
           obtain⟨ad263,A263_1,c263_1,e263,hx263_0,hx263_1,hl263_1,hi263_1⟩:=at_T69 HR0.out x5_1 p263 q263
           have hw263_1:=hx263_1
           have hw263_0:=hx263_0
           cases e263
           replace hx263_0:=(HB.out.cell (World.block_lt_of_cell? w _ hx263_0)).trans hx263_0
           replace hx263_1:=(HB.out.cell (World.block_lt_of_cell? w _ hx263_1)).trans hx263_1
           have HR263_1:=Aside0.mk hi263_1
           have HC263_1:=Aside0.mk hl263_1
           clear hi263_1 hl263_1
           replace p263:=eq_true p263
           replace q263:=eq_true q263
           have p264:0≤(x5_1:Int):=dz
           have q264:x5_1<(l1.length:Int):=dz
           obtain⟨ad264,A264_1,c264_1,e264,hx264_0,hx264_1,hl264_1,hi264_1⟩:=at_T69 HR1.out x5_1 p264 q264
           have hw264_1:=hx264_1
           have hw264_0:=hx264_0
           cases e264
           replace hx264_0:=(HB.out.cell (World.block_lt_of_cell? w _ hx264_0)).trans hx264_0
           replace hx264_1:=(HB.out.cell (World.block_lt_of_cell? w _ hx264_1)).trans hx264_1
           have HR264_1:=Aside0.mk hi264_1
           have HC264_1:=Aside0.mk hl264_1
           clear hi264_1 hl264_1
           replace p264:=eq_true p264
           replace q264:=eq_true q264
           refine start_ (n:=12) (S:=fun w'=>w'.cell? (ad263.add ((x5_1).toNat*2))=some (.int .i64 ((rd_T69 l0 x5_1).f0))∧w'.cell? ⟨(ad263.add ((x5_1).toNat*2)).block,(ad263.add ((x5_1).toNat*2)).off+1,none⟩=some (.slice A263_1 ((rd_T69 l0 x5_1).f1).length c263_1)∧w'.cell? (ad264.add ((x5_1).toNat*2))=some (.int .i64 ((rd_T69 l1 x5_1).f0))∧w'.cell? ⟨(ad264.add ((x5_1).toNat*2)).block,(ad264.add ((x5_1).toNat*2)).off+1,none⟩=some (.slice A264_1 ((rd_T69 l1 x5_1).f1).length c264_1)) (ds:=[]) #[F,F,F,F,F,F,F,F,F,F,F,F] (by kernel_rfl) rfl rfl ⟨((HB.out.cell (World.block_lt_of_cell? w _ hw263_0)).trans hw263_0),((HB.out.cell (World.block_lt_of_cell? w _ hw263_1)).trans hw263_1),((HB.out.cell (World.block_lt_of_cell? w _ hw264_0)).trans hw264_0),((HB.out.cell (World.block_lt_of_cell? w _ hw264_1)).trans hw264_1)⟩ (fun hHeld=>?_);refine with_tabW impl_compare.tab4 impl_compare.bits4 (fun HT_ HW_=>?_)
           generalize wc.drew=w13 at HB HR263_1 HR264_1 hx263_0 hx263_1 hx264_0 hx264_1 hHeld ⊢
           refine pq 0 (some 20) ?_ HT_.out rfl rfl (Or.inl ⟨by rfl,?_⟩) ?_ ?_ ?_
           rotate_left;(· intro w';go_simp;with_reducible rfl);rotate_left;(· simp only[Act.put,s1,s2,s3,i64_w,i32_w];rfl)
           refine pq 1 (some 21) ?_ HT_.out rfl rfl (Or.inl ⟨by rfl,?_⟩) ?_ ?_ ?_
           rotate_left;(· intro w';go_simp;with_reducible rfl);rotate_left;(· simp only[Act.put,s1,s2,s3,i64_w,i32_w];rfl)
           refine pq 2 (some 22) ?_ HT_.out rfl rfl (Or.inl ⟨by rfl,?_⟩) ?_ ?_ ?_
           rotate_left;(· intro w';go_simp;with_reducible rfl);rotate_left;(· simp only[Act.put,s1,s2,s3,i64_w,i32_w];rfl)
           refine pq 3 (some 23) ?_ HT_.out rfl rfl (Or.inl ⟨by rfl,?_⟩) ?_ ?_ ?_
           rotate_left;(· intro w';go_simp;with_reducible rfl);rotate_left;(· simp only[Act.put,s1,s2,s3,i64_w,i32_w];rfl)
           refine pq 5 (some 25) ?_ HT_.out rfl rfl (Or.inl ⟨by rfl,?_⟩) ?_ ?_ ?_
           rotate_left;(· intro w';go_simp;with_reducible rfl);rotate_left;(· simp only[Act.put,s1,s2,s3,i64_w,i32_w];rfl)
           refine pq 6 (some 26) ?_ HT_.out rfl rfl (Or.inl ⟨by rfl,?_⟩) ?_ ?_ ?_
           rotate_left;(· intro w';go_simp;with_reducible rfl);rotate_left;(· simp only[Act.put,s1,s2,s3,i64_w,i32_w];rfl)
           refine pq 7 (some 27) ?_ HT_.out rfl rfl (Or.inl ⟨by rfl,?_⟩) ?_ ?_ ?_
           rotate_left;(· intro w';go_simp;with_reducible rfl);rotate_left;(· simp only[Act.put,s1,s2,s3,i64_w,i32_w];rfl)
           refine pq 8 (some 28) ?_ HT_.out rfl rfl (Or.inl ⟨by rfl,?_⟩) ?_ ?_ ?_
           rotate_left;(· intro w';go_simp;with_reducible rfl);rotate_left;(· simp only[Act.put,s1,s2,s3,i64_w,i32_w];rfl)
           refine take_ (i:=4) (N:=some 24) (v:=?_) (a':=?_) #[T,T,T,T,T,T,T,T,T,F,F,F] rfl rfl (take_ofW HT_.out HW_.out (by kernel_rfl)) (fun _ _ _ h=>h) (Or.inl ⟨by rfl,?_⟩) hHeld ?_ ?_
           rotate_left;(· rintro w' ⟨s0,s1,s2,s3⟩;go_simp;with_reducible rfl);rotate_left;(· simp only[Act.put,s1,s2,s3,i64_w,i32_w];rfl)
           refine take_ (i:=9) (N:=some 29) (v:=?_) (a':=?_) #[T,T,T,T,T,T,T,T,T,T,F,F] rfl rfl (take_ofW HT_.out HW_.out (by kernel_rfl)) (fun _ _ _ h=>h) (Or.inl ⟨by rfl,?_⟩) hHeld ?_ ?_
           rotate_left;(· rintro w' ⟨s0,s1,s2,s3⟩;go_simp;with_reducible rfl);rotate_left;(· simp only[Act.put,s1,s2,s3,i64_w,i32_w];rfl)
           refine one_ (i:=10) (N:=some 30) #[T,T,T,T,T,T,T,T,T,T,T,F] rfl rfl (one_of HT_.out (by kernel_rfl)) (by decide) (fun K hK=>?_)
           refine goes_ Try.func57 (by kernel_rfl) rfl #[.slice A263_1 ((rd_T69 l0 x5_1).f1).length c263_1,.slice A264_1 ((rd_T69 l1 x5_1).f1).length c264_1] (by rfl) rfl rfl az ?_
           with_reducible refine(ih kj2 (by have:=HK1.out;have:=HJ2.out;omega) _ _ ((rd_T69 l0 x5_1).f1) _ _ ((rd_T69 l1 x5_1).f1) t265 _ ?side1 ?side2 ?side3 ?side4 A9.out).mono ?_
           (case side1=>exact Kd.Cz (Kd.C_below HR263_1.out HB.out))
           (case side2=>exact HC263_1.out)
           (case side3=>exact Kd.Cz (Kd.C_below HR264_1.out HB.out))
           (case side4=>exact HC264_1.out)
           rintro e w14 ⟨rfl,hb⟩
           refine⟨_,rfl,?_⟩
           have n0_:=Aside0.mk (below_step bz hb)
           clear HB
           have HB:=n0_
           clear n0_
           (try clear hb)
           (try clear hb2)
           (try clear hk)
           (try clear hi)
           refine hK.out _ _ ⟨((HB.out.cell (World.block_lt_of_cell? w _ hw263_0)).trans hw263_0),((HB.out.cell (World.block_lt_of_cell? w _ hw263_1)).trans hw263_1),((HB.out.cell (World.block_lt_of_cell? w _ hw264_0)).trans hw264_0),((HB.out.cell (World.block_lt_of_cell? w _ hw264_1)).trans hw264_1)⟩ (fun hHeld=>?_)
           clear hK K
           refine norm_ (a':=?_) ?_ ?_
           rotate_left
           ·show Act.put _ (some 30) _=_
            simp only[Act.put,s1,s2,s3,i64_w,i32_w]
            rfl
           refine pq 11 (some 6) ?_ HT_.out rfl rfl (Or.inl ⟨by rfl,?_⟩) ?_ ?_ ?_
           rotate_left;(· intro w';go_simp;with_reducible rfl);rotate_left;(· simp only[Act.put,s1,s2,s3,i64_w,i32_w];rfl)
           refine done_ (done_of HT_.out (by kernel_rfl)) ?_
           try go_wp2
           have n0_:=Aside0.mk (below_drew1 HB.out)
           clear HB
           have HB:=n0_
           clear n0_
           have p266:0≤(x5_1:Int):=dz
           have q266:x5_1<(l0.length:Int):=dz
           obtain⟨ad266,A266_1,c266_1,e266,hx266_0,hx266_1,hl266_1,hi266_1⟩:=at_T69 HR0.out x5_1 p266 q266
           have hw266_1:=hx266_1
           have hw266_0:=hx266_0
           obtain rfl:ad263=ad266:=(by injection e266)
           replace hx266_0:=(HB.out.cell (World.block_lt_of_cell? w _ hx266_0)).trans hx266_0
           replace hx266_1:=(HB.out.cell (World.block_lt_of_cell? w _ hx266_1)).trans hx266_1
           (try (have he_:=Option.some.inj (hx266_1.symm.trans (show _=some (Value.slice A263_1 _ c263_1) from by assumption));injection he_ with ha_ hn_ hc_;clear hn_;subst ha_;subst hc_))
           have HR266_1:=Aside0.mk hi266_1
           have HC266_1:=Aside0.mk hl266_1
           clear hi266_1 hl266_1
           replace p266:=eq_true p266
           replace q266:=eq_true q266
           have p267:0≤(x5_1:Int):=dz
           have q267:x5_1<(l1.length:Int):=dz
           obtain⟨ad267,A267_1,c267_1,e267,hx267_0,hx267_1,hl267_1,hi267_1⟩:=at_T69 HR1.out x5_1 p267 q267
           have hw267_1:=hx267_1
           have hw267_0:=hx267_0
           obtain rfl:ad264=ad267:=(by injection e267)
           replace hx267_0:=(HB.out.cell (World.block_lt_of_cell? w _ hx267_0)).trans hx267_0
           replace hx267_1:=(HB.out.cell (World.block_lt_of_cell? w _ hx267_1)).trans hx267_1
           (try (have he_:=Option.some.inj (hx267_1.symm.trans (show _=some (Value.slice A264_1 _ c264_1) from by assumption));injection he_ with ha_ hn_ hc_;clear hn_;subst ha_;subst hc_))
           have HR267_1:=Aside0.mk hi267_1
           have HC267_1:=Aside0.mk hl267_1
           clear hi267_1 hl267_1
           replace p267:=eq_true p267
           replace q267:=eq_true q267
           refine start_ (n:=12) (S:=fun w'=>w'.cell? (ad263.add ((x5_1).toNat*2))=some (.int .i64 ((rd_T69 l0 x5_1).f0))∧w'.cell? ⟨(ad263.add ((x5_1).toNat*2)).block,(ad263.add ((x5_1).toNat*2)).off+1,none⟩=some (.slice A266_1 ((rd_T69 l0 x5_1).f1).length c266_1)∧w'.cell? (ad264.add ((x5_1).toNat*2))=some (.int .i64 ((rd_T69 l1 x5_1).f0))∧w'.cell? ⟨(ad264.add ((x5_1).toNat*2)).block,(ad264.add ((x5_1).toNat*2)).off+1,none⟩=some (.slice A267_1 ((rd_T69 l1 x5_1).f1).length c267_1)) (ds:=[]) #[F,F,F,F,F,F,F,F,F,F,F,F] (by kernel_rfl) rfl rfl ⟨((HB.out.cell (World.block_lt_of_cell? w _ hw266_0)).trans hw266_0),((HB.out.cell (World.block_lt_of_cell? w _ hw266_1)).trans hw266_1),((HB.out.cell (World.block_lt_of_cell? w _ hw267_0)).trans hw267_0),((HB.out.cell (World.block_lt_of_cell? w _ hw267_1)).trans hw267_1)⟩ (fun hHeld=>?_);refine with_tabW impl_compare.tab7 impl_compare.bits7 (fun HT_ HW_=>?_)
           generalize w14.drew=w15 at HB HR266_1 HR267_1 hx266_0 hx266_1 hx267_0 hx267_1 hHeld ⊢
           refine pq 0 (some 34) ?_ HT_.out rfl rfl (Or.inl ⟨by rfl,?_⟩) ?_ ?_ ?_
           rotate_left;(· intro w';go_simp;with_reducible rfl);rotate_left;(· simp only[Act.put,s1,s2,s3,i64_w,i32_w];rfl)
           refine pq 1 (some 35) ?_ HT_.out rfl rfl (Or.inl ⟨by rfl,?_⟩) ?_ ?_ ?_
           rotate_left;(· intro w';go_simp;with_reducible rfl);rotate_left;(· simp only[Act.put,s1,s2,s3,i64_w,i32_w];rfl)
           refine pq 2 (some 36) ?_ HT_.out rfl rfl (Or.inl ⟨by rfl,?_⟩) ?_ ?_ ?_
           rotate_left;(· intro w';go_simp;with_reducible rfl);rotate_left;(· simp only[Act.put,s1,s2,s3,i64_w,i32_w];rfl)
           refine pq 3 (some 37) ?_ HT_.out rfl rfl (Or.inl ⟨by rfl,?_⟩) ?_ ?_ ?_
           rotate_left;(· intro w';go_simp;with_reducible rfl);rotate_left;(· simp only[Act.put,s1,s2,s3,i64_w,i32_w];rfl)
           refine pq 5 (some 39) ?_ HT_.out rfl rfl (Or.inl ⟨by rfl,?_⟩) ?_ ?_ ?_
           rotate_left;(· intro w';go_simp;with_reducible rfl);rotate_left;(· simp only[Act.put,s1,s2,s3,i64_w,i32_w];rfl)
           refine pq 6 (some 40) ?_ HT_.out rfl rfl (Or.inl ⟨by rfl,?_⟩) ?_ ?_ ?_
           rotate_left;(· intro w';go_simp;with_reducible rfl);rotate_left;(· simp only[Act.put,s1,s2,s3,i64_w,i32_w];rfl)
           refine pq 7 (some 41) ?_ HT_.out rfl rfl (Or.inl ⟨by rfl,?_⟩) ?_ ?_ ?_
           rotate_left;(· intro w';go_simp;with_reducible rfl);rotate_left;(· simp only[Act.put,s1,s2,s3,i64_w,i32_w];rfl)
           refine pq 8 (some 42) ?_ HT_.out rfl rfl (Or.inl ⟨by rfl,?_⟩) ?_ ?_ ?_
           rotate_left;(· intro w';go_simp;with_reducible rfl);rotate_left;(· simp only[Act.put,s1,s2,s3,i64_w,i32_w];rfl)
           refine take_ (i:=4) (N:=some 38) (v:=?_) (a':=?_) #[T,T,T,T,T,T,T,T,T,F,F,F] rfl rfl (take_ofW HT_.out HW_.out (by kernel_rfl)) (fun _ _ _ h=>h) (Or.inl ⟨by rfl,?_⟩) hHeld ?_ ?_
           rotate_left;(· rintro w' ⟨s0,s1,s2,s3⟩;go_simp;with_reducible rfl);rotate_left;(· simp only[Act.put,s1,s2,s3,i64_w,i32_w];rfl)
           refine take_ (i:=9) (N:=some 43) (v:=?_) (a':=?_) #[T,T,T,T,T,T,T,T,T,T,F,F] rfl rfl (take_ofW HT_.out HW_.out (by kernel_rfl)) (fun _ _ _ h=>h) (Or.inl ⟨by rfl,?_⟩) hHeld ?_ ?_
           rotate_left;(· rintro w' ⟨s0,s1,s2,s3⟩;go_simp;with_reducible rfl);rotate_left;(· simp only[Act.put,s1,s2,s3,i64_w,i32_w];rfl)
           refine one_ (i:=10) (N:=some 44) #[T,T,T,T,T,T,T,T,T,T,T,F] rfl rfl (one_of HT_.out (by kernel_rfl)) (by decide) (fun K hK=>?_)
           refine goes_ Try.func78 (by kernel_rfl) rfl #[.int .i64 ((rd_T69 l0 x5_1).f0),.int .i64 ((rd_T69 l1 x5_1).f0)] (by rfl) rfl rfl az ?_
           with_reducible refine(cmp_Compare_int.calls ((rd_T69 l0 x5_1).f0) ((rd_T69 l1 x5_1).f0) t268 _ A11.out).mono ?_
           rintro e w' ⟨rfl,⟨nd,rfl⟩⟩
           refine⟨_,rfl,?_⟩
           refine hK.out _ _ ⟨((HB.out.cell (World.block_lt_of_cell? w _ hw266_0)).trans hw266_0),((HB.out.cell (World.block_lt_of_cell? w _ hw266_1)).trans hw266_1),((HB.out.cell (World.block_lt_of_cell? w _ hw267_0)).trans hw267_0),((HB.out.cell (World.block_lt_of_cell? w _ hw267_1)).trans hw267_1)⟩ (fun hHeld=>?_)
           clear hK K
           refine norm_ (a':=?_) ?_ ?_
           rotate_left
           ·show Act.put _ (some 44) _=_
            simp only[Act.put,s1,s2,s3,i64_w,i32_w]
            rfl
           refine pq 11 (some 7) ?_ HT_.out rfl rfl (Or.inl ⟨by rfl,?_⟩) ?_ ?_ ?_
           rotate_left;(· intro w';go_simp;with_reducible rfl);rotate_left;(· simp only[Act.put,s1,s2,s3,i64_w,i32_w];rfl)
           refine done_ (done_of HT_.out (by kernel_rfl)) ?_
           try go_wp2
           go_roundg kj2
           case measure=>have:=HK1.out;have:=HJ2.out;omega
           case rel=>exact⟨(wrap64 (x5_1+1)),(by first|rfl|(simp;done)|(simp[*];done)),H',⟨by have:=HK1.out;have:=HJ2.out;omega⟩,⟨bz⟩⟩
          ·rw[if_neg c12] at H
           have c12b0:(t268 == 0)=false:=beq_eq_false_iff_ne.mpr c12
           have c12b1:(t268 != 0)=true:=bne_iff_ne.mpr c12
           obtain rfl:=Option.some.inj H
           try go_wp2
           have n0_:=Aside0.mk (below_drew1 HB.out)
           clear HB
           have HB:=n0_
           clear n0_
           have p263:0≤(x5_1:Int):=dz
           have q263:x5_1<(l0.length:Int):=dz
           obtain⟨ad263,A263_1,c263_1,e263,hx263_0,hx263_1,hl263_1,hi263_1⟩:=at_T69 HR0.out x5_1 p263 q263
           have hw263_1:=hx263_1
           have hw263_0:=hx263_0
           cases e263
           replace hx263_0:=(HB.out.cell (World.block_lt_of_cell? w _ hx263_0)).trans hx263_0
           replace hx263_1:=(HB.out.cell (World.block_lt_of_cell? w _ hx263_1)).trans hx263_1
           have HR263_1:=Aside0.mk hi263_1
           have HC263_1:=Aside0.mk hl263_1
           clear hi263_1 hl263_1
           replace p263:=eq_true p263
           replace q263:=eq_true q263
           have p264:0≤(x5_1:Int):=dz
           have q264:x5_1<(l1.length:Int):=dz
           obtain⟨ad264,A264_1,c264_1,e264,hx264_0,hx264_1,hl264_1,hi264_1⟩:=at_T69 HR1.out x5_1 p264 q264
           have hw264_1:=hx264_1
           have hw264_0:=hx264_0
           cases e264
           replace hx264_0:=(HB.out.cell (World.block_lt_of_cell? w _ hx264_0)).trans hx264_0
           replace hx264_1:=(HB.out.cell (World.block_lt_of_cell? w _ hx264_1)).trans hx264_1
           have HR264_1:=Aside0.mk hi264_1
           have HC264_1:=Aside0.mk hl264_1
           clear hi264_1 hl264_1
           replace p264:=eq_true p264
           replace q264:=eq_true q264
           refine start_ (n:=12) (S:=fun w'=>w'.cell? (ad263.add ((x5_1).toNat*2))=some (.int .i64 ((rd_T69 l0 x5_1).f0))∧w'.cell? ⟨(ad263.add ((x5_1).toNat*2)).block,(ad263.add ((x5_1).toNat*2)).off+1,none⟩=some (.slice A263_1 ((rd_T69 l0 x5_1).f1).length c263_1)∧w'.cell? (ad264.add ((x5_1).toNat*2))=some (.int .i64 ((rd_T69 l1 x5_1).f0))∧w'.cell? ⟨(ad264.add ((x5_1).toNat*2)).block,(ad264.add ((x5_1).toNat*2)).off+1,none⟩=some (.slice A264_1 ((rd_T69 l1 x5_1).f1).length c264_1)) (ds:=[]) #[F,F,F,F,F,F,F,F,F,F,F,F] (by kernel_rfl) rfl rfl ⟨((HB.out.cell (World.block_lt_of_cell? w _ hw263_0)).trans hw263_0),((HB.out.cell (World.block_lt_of_cell? w _ hw263_1)).trans hw263_1),((HB.out.cell (World.block_lt_of_cell? w _ hw264_0)).trans hw264_0),((HB.out.cell (World.block_lt_of_cell? w _ hw264_1)).trans hw264_1)⟩ (fun hHeld=>?_);refine with_tabW impl_compare.tab4 impl_compare.bits4 (fun HT_ HW_=>?_)
           generalize wc.drew=w16 at HB HR263_1 HR264_1 hx263_0 hx263_1 hx264_0 hx264_1 hHeld ⊢
           refine pq 0 (some 20) ?_ HT_.out rfl rfl (Or.inl ⟨by rfl,?_⟩) ?_ ?_ ?_
           rotate_left;(· intro w';go_simp;with_reducible rfl);rotate_left;(· simp only[Act.put,s1,s2,s3,i64_w,i32_w];rfl)
           refine pq 1 (some 21) ?_ HT_.out rfl rfl (Or.inl ⟨by rfl,?_⟩) ?_ ?_ ?_
           rotate_left;(· intro w';go_simp;with_reducible rfl);rotate_left;(· simp only[Act.put,s1,s2,s3,i64_w,i32_w];rfl)
           refine pq 2 (some 22) ?_ HT_.out rfl rfl (Or.inl ⟨by rfl,?_⟩) ?_ ?_ ?_
           rotate_left;(· intro w';go_simp;with_reducible rfl);rotate_left;(· simp only[Act.put,s1,s2,s3,i64_w,i32_w];rfl)
           refine pq 3 (some 23) ?_ HT_.out rfl rfl (Or.inl ⟨by rfl,?_⟩) ?_ ?_ ?_
           rotate_left;(· intro w';go_simp;with_reducible rfl);rotate_left;(· simp only[Act.put,s1,s2,s3,i64_w,i32_w];rfl)
           refine pq 5 (some 25) ?_ HT_.out rfl rfl (Or.inl ⟨by rfl,?_⟩) ?_ ?_ ?_
           rotate_left;(· intro w';go_simp;with_reducible rfl);rotate_left;(· simp only[Act.put,s1,s2,s3,i64_w,i32_w];rfl)
           refine pq 6 (some 26) ?_ HT_.out rfl rfl (Or.inl ⟨by rfl,?_⟩) ?_ ?_ ?_
           rotate_left;(· intro w';go_simp;with_reducible rfl);rotate_left;(· simp only[Act.put,s1,s2,s3,i64_w,i32_w];rfl)
           refine pq 7 (some 27) ?_ HT_.out rfl rfl (Or.inl ⟨by rfl,?_⟩) ?_ ?_ ?_
           rotate_left;(· intro w';go_simp;with_reducible rfl);rotate_left;(· simp only[Act.put,s1,s2,s3,i64_w,i32_w];rfl)
           refine pq 8 (some 28) ?_ HT_.out rfl rfl (Or.inl ⟨by rfl,?_⟩) ?_ ?_ ?_
           rotate_left;(· intro w';go_simp;with_reducible rfl);rotate_left;(· simp only[Act.put,s1,s2,s3,i64_w,i32_w];rfl)
           refine take_ (i:=4) (N:=some 24) (v:=?_) (a':=?_) #[T,T,T,T,T,T,T,T,T,F,F,F] rfl rfl (take_ofW HT_.out HW_.out (by kernel_rfl)) (fun _ _ _ h=>h) (Or.inl ⟨by rfl,?_⟩) hHeld ?_ ?_
           rotate_left;(· rintro w' ⟨s0,s1,s2,s3⟩;go_simp;with_reducible rfl);rotate_left;(· simp only[Act.put,s1,s2,s3,i64_w,i32_w];rfl)
           refine take_ (i:=9) (N:=some 29) (v:=?_) (a':=?_) #[T,T,T,T,T,T,T,T,T,T,F,F] rfl rfl (take_ofW HT_.out HW_.out (by kernel_rfl)) (fun _ _ _ h=>h) (Or.inl ⟨by rfl,?_⟩) hHeld ?_ ?_
           rotate_left;(· rintro w' ⟨s0,s1,s2,s3⟩;go_simp;with_reducible rfl);rotate_left;(· simp only[Act.put,s1,s2,s3,i64_w,i32_w];rfl)
           refine one_ (i:=10) (N:=some 30) #[T,T,T,T,T,T,T,T,T,T,T,F] rfl rfl (one_of HT_.out (by kernel_rfl)) (by decide) (fun K hK=>?_)
           refine goes_ Try.func57 (by kernel_rfl) rfl #[.slice A263_1 ((rd_T69 l0 x5_1).f1).length c263_1,.slice A264_1 ((rd_T69 l1 x5_1).f1).length c264_1] (by rfl) rfl rfl az ?_
           with_reducible refine(ih kj2 (by have:=HK1.out;have:=HJ2.out;omega) _ _ ((rd_T69 l0 x5_1).f1) _ _ ((rd_T69 l1 x5_1).f1) t265 _ ?side1 ?side2 ?side3 ?side4 A9.out).mono ?_
           (case side1=>exact Kd.Cz (Kd.C_below HR263_1.out HB.out))
           (case side2=>exact HC263_1.out)
           (case side3=>exact Kd.Cz (Kd.C_below HR264_1.out HB.out))
           (case side4=>exact HC264_1.out)
           rintro e w17 ⟨rfl,hb⟩
           refine⟨_,rfl,?_⟩
           have n0_:=Aside0.mk (below_step bz hb)
           clear HB
           have HB:=n0_
           clear n0_
           (try clear hb)
           (try clear hb2)
           (try clear hk)
           (try clear hi)
           refine hK.out _ _ ⟨((HB.out.cell (World.block_lt_of_cell? w _ hw263_0)).trans hw263_0),((HB.out.cell (World.block_lt_of_cell? w _ hw263_1)).trans hw263_1),((HB.out.cell (World.block_lt_of_cell? w _ hw264_0)).trans hw264_0),((HB.out.cell (World.block_lt_of_cell? w _ hw264_1)).trans hw264_1)⟩ (fun hHeld=>?_)
           clear hK K
           refine norm_ (a':=?_) ?_ ?_
           rotate_left
           ·show Act.put _ (some 30) _=_
            simp only[Act.put,s1,s2,s3,i64_w,i32_w]
            rfl
           refine pq 11 (some 6) ?_ HT_.out rfl rfl (Or.inl ⟨by rfl,?_⟩) ?_ ?_ ?_
           rotate_left;(· intro w';go_simp;with_reducible rfl);rotate_left;(· simp only[Act.put,s1,s2,s3,i64_w,i32_w];rfl)
           refine done_ (done_of HT_.out (by kernel_rfl)) ?_
           try go_wp2
           have n0_:=Aside0.mk (below_drew1 HB.out)
           clear HB
           have HB:=n0_
           clear n0_
           have p266:0≤(x5_1:Int):=dz
           have q266:x5_1<(l0.length:Int):=dz
           obtain⟨ad266,A266_1,c266_1,e266,hx266_0,hx266_1,hl266_1,hi266_1⟩:=at_T69 HR0.out x5_1 p266 q266
           have hw266_1:=hx266_1
           have hw266_0:=hx266_0
           obtain rfl:ad263=ad266:=(by injection e266)
           replace hx266_0:=(HB.out.cell (World.block_lt_of_cell? w _ hx266_0)).trans hx266_0
           replace hx266_1:=(HB.out.cell (World.block_lt_of_cell? w _ hx266_1)).trans hx266_1
           (try (have he_:=Option.some.inj (hx266_1.symm.trans (show _=some (Value.slice A263_1 _ c263_1) from by assumption));injection he_ with ha_ hn_ hc_;clear hn_;subst ha_;subst hc_))
           have HR266_1:=Aside0.mk hi266_1
           have HC266_1:=Aside0.mk hl266_1
           clear hi266_1 hl266_1
           replace p266:=eq_true p266
           replace q266:=eq_true q266
           have p267:0≤(x5_1:Int):=dz
           have q267:x5_1<(l1.length:Int):=dz
           obtain⟨ad267,A267_1,c267_1,e267,hx267_0,hx267_1,hl267_1,hi267_1⟩:=at_T69 HR1.out x5_1 p267 q267
           have hw267_1:=hx267_1
           have hw267_0:=hx267_0
           obtain rfl:ad264=ad267:=(by injection e267)
           replace hx267_0:=(HB.out.cell (World.block_lt_of_cell? w _ hx267_0)).trans hx267_0
           replace hx267_1:=(HB.out.cell (World.block_lt_of_cell? w _ hx267_1)).trans hx267_1
           (try (have he_:=Option.some.inj (hx267_1.symm.trans (show _=some (Value.slice A264_1 _ c264_1) from by assumption));injection he_ with ha_ hn_ hc_;clear hn_;subst ha_;subst hc_))
           have HR267_1:=Aside0.mk hi267_1
           have HC267_1:=Aside0.mk hl267_1
           clear hi267_1 hl267_1
           replace p267:=eq_true p267
           replace q267:=eq_true q267
           refine start_ (n:=12) (S:=fun w'=>w'.cell? (ad263.add ((x5_1).toNat*2))=some (.int .i64 ((rd_T69 l0 x5_1).f0))∧w'.cell? ⟨(ad263.add ((x5_1).toNat*2)).block,(ad263.add ((x5_1).toNat*2)).off+1,none⟩=some (.slice A266_1 ((rd_T69 l0 x5_1).f1).length c266_1)∧w'.cell? (ad264.add ((x5_1).toNat*2))=some (.int .i64 ((rd_T69 l1 x5_1).f0))∧w'.cell? ⟨(ad264.add ((x5_1).toNat*2)).block,(ad264.add ((x5_1).toNat*2)).off+1,none⟩=some (.slice A267_1 ((rd_T69 l1 x5_1).f1).length c267_1)) (ds:=[]) #[F,F,F,F,F,F,F,F,F,F,F,F] (by kernel_rfl) rfl rfl ⟨((HB.out.cell (World.block_lt_of_cell? w _ hw266_0)).trans hw266_0),((HB.out.cell (World.block_lt_of_cell? w _ hw266_1)).trans hw266_1),((HB.out.cell (World.block_lt_of_cell? w _ hw267_0)).trans hw267_0),((HB.out.cell (World.block_lt_of_cell? w _ hw267_1)).trans hw267_1)⟩ (fun hHeld=>?_);refine with_tabW impl_compare.tab7 impl_compare.bits7 (fun HT_ HW_=>?_)
           generalize w17.drew=w18 at HB HR266_1 HR267_1 hx266_0 hx266_1 hx267_0 hx267_1 hHeld ⊢
           refine pq 0 (some 34) ?_ HT_.out rfl rfl (Or.inl ⟨by rfl,?_⟩) ?_ ?_ ?_
           rotate_left;(· intro w';go_simp;with_reducible rfl);rotate_left;(· simp only[Act.put,s1,s2,s3,i64_w,i32_w];rfl)
           refine pq 1 (some 35) ?_ HT_.out rfl rfl (Or.inl ⟨by rfl,?_⟩) ?_ ?_ ?_
           rotate_left;(· intro w';go_simp;with_reducible rfl);rotate_left;(· simp only[Act.put,s1,s2,s3,i64_w,i32_w];rfl)
           refine pq 2 (some 36) ?_ HT_.out rfl rfl (Or.inl ⟨by rfl,?_⟩) ?_ ?_ ?_
           rotate_left;(· intro w';go_simp;with_reducible rfl);rotate_left;(· simp only[Act.put,s1,s2,s3,i64_w,i32_w];rfl)
           refine pq 3 (some 37) ?_ HT_.out rfl rfl (Or.inl ⟨by rfl,?_⟩) ?_ ?_ ?_
           rotate_left;(· intro w';go_simp;with_reducible rfl);rotate_left;(· simp only[Act.put,s1,s2,s3,i64_w,i32_w];rfl)
           refine pq 5 (some 39) ?_ HT_.out rfl rfl (Or.inl ⟨by rfl,?_⟩) ?_ ?_ ?_
           rotate_left;(· intro w';go_simp;with_reducible rfl);rotate_left;(· simp only[Act.put,s1,s2,s3,i64_w,i32_w];rfl)
           refine pq 6 (some 40) ?_ HT_.out rfl rfl (Or.inl ⟨by rfl,?_⟩) ?_ ?_ ?_
           rotate_left;(· intro w';go_simp;with_reducible rfl);rotate_left;(· simp only[Act.put,s1,s2,s3,i64_w,i32_w];rfl)
           refine pq 7 (some 41) ?_ HT_.out rfl rfl (Or.inl ⟨by rfl,?_⟩) ?_ ?_ ?_
           rotate_left;(· intro w';go_simp;with_reducible rfl);rotate_left;(· simp only[Act.put,s1,s2,s3,i64_w,i32_w];rfl)
           refine pq 8 (some 42) ?_ HT_.out rfl rfl (Or.inl ⟨by rfl,?_⟩) ?_ ?_ ?_
           rotate_left;(· intro w';go_simp;with_reducible rfl);rotate_left;(· simp only[Act.put,s1,s2,s3,i64_w,i32_w];rfl)
           refine take_ (i:=4) (N:=some 38) (v:=?_) (a':=?_) #[T,T,T,T,T,T,T,T,T,F,F,F] rfl rfl (take_ofW HT_.out HW_.out (by kernel_rfl)) (fun _ _ _ h=>h) (Or.inl ⟨by rfl,?_⟩) hHeld ?_ ?_
           rotate_left;(· rintro w' ⟨s0,s1,s2,s3⟩;go_simp;with_reducible rfl);rotate_left;(· simp only[Act.put,s1,s2,s3,i64_w,i32_w];rfl)
           refine take_ (i:=9) (N:=some 43) (v:=?_) (a':=?_) #[T,T,T,T,T,T,T,T,T,T,F,F] rfl rfl (take_ofW HT_.out HW_.out (by kernel_rfl)) (fun _ _ _ h=>h) (Or.inl ⟨by rfl,?_⟩) hHeld ?_ ?_
           rotate_left;(· rintro w' ⟨s0,s1,s2,s3⟩;go_simp;with_reducible rfl);rotate_left;(· simp only[Act.put,s1,s2,s3,i64_w,i32_w];rfl)
           refine one_ (i:=10) (N:=some 44) #[T,T,T,T,T,T,T,T,T,T,T,F] rfl rfl (one_of HT_.out (by kernel_rfl)) (by decide) (fun K hK=>?_)
           refine goes_ Try.func78 (by kernel_rfl) rfl #[.int .i64 ((rd_T69 l0 x5_1).f0),.int .i64 ((rd_T69 l1 x5_1).f0)] (by rfl) rfl rfl az ?_
           with_reducible refine(cmp_Compare_int.calls ((rd_T69 l0 x5_1).f0) ((rd_T69 l1 x5_1).f0) t268 _ A11.out).mono ?_
           rintro e w' ⟨rfl,⟨nd,rfl⟩⟩
           refine⟨_,rfl,?_⟩
           refine hK.out _ _ ⟨((HB.out.cell (World.block_lt_of_cell? w _ hw266_0)).trans hw266_0),((HB.out.cell (World.block_lt_of_cell? w _ hw266_1)).trans hw266_1),((HB.out.cell (World.block_lt_of_cell? w _ hw267_0)).trans hw267_0),((HB.out.cell (World.block_lt_of_cell? w _ hw267_1)).trans hw267_1)⟩ (fun hHeld=>?_)
           clear hK K
           refine norm_ (a':=?_) ?_ ?_
           rotate_left
           ·show Act.put _ (some 44) _=_
            simp only[Act.put,s1,s2,s3,i64_w,i32_w]
            rfl
           refine pq 11 (some 7) ?_ HT_.out rfl rfl (Or.inl ⟨by rfl,?_⟩) ?_ ?_ ?_
           rotate_left;(· intro w';go_simp;with_reducible rfl);rotate_left;(· simp only[Act.put,s1,s2,s3,i64_w,i32_w];rfl)
           refine done_ (done_of HT_.out (by kernel_rfl)) ?_
           try go_wp2
           go_ret
           exact⟨by first|rfl|(simp[errW_none,errW_some]<;>rfl)|(simp[*,errW_none,errW_some]<;>rfl),bz⟩
         ·rw[if_neg c10] at H
          have c10b0:(t265 == 0)=false:=beq_eq_false_iff_ne.mpr c10
          have c10b1:(t265 != 0)=true:=bne_iff_ne.mpr c10
          obtain rfl:=Option.some.inj H
          try go_wp2
          have n0_:=Aside0.mk (below_drew1 HB.out)
          clear HB
          have HB:=n0_
          clear n0_
          have p263:0≤(x5_1:Int):=dz
          have q263:x5_1<(l0.length:Int):=dz
          obtain⟨ad263,A263_1,c263_1,e263,hx263_0,hx263_1,hl263_1,hi263_1⟩:=at_T69 HR0.out x5_1 p263 q263
          have hw263_1:=hx263_1
          have hw263_0:=hx263_0
          cases e263
          replace hx263_0:=(HB.out.cell (World.block_lt_of_cell? w _ hx263_0)).trans hx263_0
          replace hx263_1:=(HB.out.cell (World.block_lt_of_cell? w _ hx263_1)).trans hx263_1
          have HR263_1:=Aside0.mk hi263_1
          have HC263_1:=Aside0.mk hl263_1
          clear hi263_1 hl263_1
          replace p263:=eq_true p263
          replace q263:=eq_true q263
          have p264:0≤(x5_1:Int):=dz
          have q264:x5_1<(l1.length:Int):=dz
          obtain⟨ad264,A264_1,c264_1,e264,hx264_0,hx264_1,hl264_1,hi264_1⟩:=at_T69 HR1.out x5_1 p264 q264
          have hw264_1:=hx264_1
          have hw264_0:=hx264_0
          cases e264
          replace hx264_0:=(HB.out.cell (World.block_lt_of_cell? w _ hx264_0)).trans hx264_0
          replace hx264_1:=(HB.out.cell (World.block_lt_of_cell? w _ hx264_1)).trans hx264_1
          have HR264_1:=Aside0.mk hi264_1
          have HC264_1:=Aside0.mk hl264_1
          clear hi264_1 hl264_1
          replace p264:=eq_true p264
          replace q264:=eq_true q264
          refine start_ (n:=12) (S:=fun w'=>w'.cell? (ad263.add ((x5_1).toNat*2))=some (.int .i64 ((rd_T69 l0 x5_1).f0))∧w'.cell? ⟨(ad263.add ((x5_1).toNat*2)).block,(ad263.add ((x5_1).toNat*2)).off+1,none⟩=some (.slice A263_1 ((rd_T69 l0 x5_1).f1).length c263_1)∧w'.cell? (ad264.add ((x5_1).toNat*2))=some (.int .i64 ((rd_T69 l1 x5_1).f0))∧w'.cell? ⟨(ad264.add ((x5_1).toNat*2)).block,(ad264.add ((x5_1).toNat*2)).off+1,none⟩=some (.slice A264_1 ((rd_T69 l1 x5_1).f1).length c264_1)) (ds:=[]) #[F,F,F,F,F,F,F,F,F,F,F,F] (by kernel_rfl) rfl rfl ⟨((HB.out.cell (World.block_lt_of_cell? w _ hw263_0)).trans hw263_0),((HB.out.cell (World.block_lt_of_cell? w _ hw263_1)).trans hw263_1),((HB.out.cell (World.block_lt_of_cell? w _ hw264_0)).trans hw264_0),((HB.out.cell (World.block_lt_of_cell? w _ hw264_1)).trans hw264_1)⟩ (fun hHeld=>?_);refine with_tabW impl_compare.tab4 impl_compare.bits4 (fun HT_ HW_=>?_)
          generalize wc.drew=w19 at HB HR263_1 HR264_1 hx263_0 hx263_1 hx264_0 hx264_1 hHeld ⊢
          refine pq 0 (some 20) ?_ HT_.out rfl rfl (Or.inl ⟨by rfl,?_⟩) ?_ ?_ ?_
          rotate_left;(· intro w';go_simp;with_reducible rfl);rotate_left;(· simp only[Act.put,s1,s2,s3,i64_w,i32_w];rfl)
          refine pq 1 (some 21) ?_ HT_.out rfl rfl (Or.inl ⟨by rfl,?_⟩) ?_ ?_ ?_
          rotate_left;(· intro w';go_simp;with_reducible rfl);rotate_left;(· simp only[Act.put,s1,s2,s3,i64_w,i32_w];rfl)
          refine pq 2 (some 22) ?_ HT_.out rfl rfl (Or.inl ⟨by rfl,?_⟩) ?_ ?_ ?_
          rotate_left;(· intro w';go_simp;with_reducible rfl);rotate_left;(· simp only[Act.put,s1,s2,s3,i64_w,i32_w];rfl)
          refine pq 3 (some 23) ?_ HT_.out rfl rfl (Or.inl ⟨by rfl,?_⟩) ?_ ?_ ?_
          rotate_left;(· intro w';go_simp;with_reducible rfl);rotate_left;(· simp only[Act.put,s1,s2,s3,i64_w,i32_w];rfl)
          refine pq 5 (some 25) ?_ HT_.out rfl rfl (Or.inl ⟨by rfl,?_⟩) ?_ ?_ ?_
          rotate_left;(· intro w';go_simp;with_reducible rfl);rotate_left;(· simp only[Act.put,s1,s2,s3,i64_w,i32_w];rfl)
          refine pq 6 (some 26) ?_ HT_.out rfl rfl (Or.inl ⟨by rfl,?_⟩) ?_ ?_ ?_
          rotate_left;(· intro w';go_simp;with_reducible rfl);rotate_left;(· simp only[Act.put,s1,s2,s3,i64_w,i32_w];rfl)
          refine pq 7 (some 27) ?_ HT_.out rfl rfl (Or.inl ⟨by rfl,?_⟩) ?_ ?_ ?_
          rotate_left;(· intro w';go_simp;with_reducible rfl);rotate_left;(· simp only[Act.put,s1,s2,s3,i64_w,i32_w];rfl)
          refine pq 8 (some 28) ?_ HT_.out rfl rfl (Or.inl ⟨by rfl,?_⟩) ?_ ?_ ?_
          rotate_left;(· intro w';go_simp;with_reducible rfl);rotate_left;(· simp only[Act.put,s1,s2,s3,i64_w,i32_w];rfl)
          refine take_ (i:=4) (N:=some 24) (v:=?_) (a':=?_) #[T,T,T,T,T,T,T,T,T,F,F,F] rfl rfl (take_ofW HT_.out HW_.out (by kernel_rfl)) (fun _ _ _ h=>h) (Or.inl ⟨by rfl,?_⟩) hHeld ?_ ?_
          rotate_left;(· rintro w' ⟨s0,s1,s2,s3⟩;go_simp;with_reducible rfl);rotate_left;(· simp only[Act.put,s1,s2,s3,i64_w,i32_w];rfl)
          refine take_ (i:=9) (N:=some 29) (v:=?_) (a':=?_) #[T,T,T,T,T,T,T,T,T,T,F,F] rfl rfl (take_ofW HT_.out HW_.out (by kernel_rfl)) (fun _ _ _ h=>h) (Or.inl ⟨by rfl,?_⟩) hHeld ?_ ?_
          rotate_left;(· rintro w' ⟨s0,s1,s2,s3⟩;go_simp;with_reducible rfl);rotate_left;(· simp only[Act.put,s1,s2,s3,i64_w,i32_w];rfl)
          refine one_ (i:=10) (N:=some 30) #[T,T,T,T,T,T,T,T,T,T,T,F] rfl rfl (one_of HT_.out (by kernel_rfl)) (by decide) (fun K hK=>?_)
          refine goes_ Try.func57 (by kernel_rfl) rfl #[.slice A263_1 ((rd_T69 l0 x5_1).f1).length c263_1,.slice A264_1 ((rd_T69 l1 x5_1).f1).length c264_1] (by rfl) rfl rfl az ?_
          with_reducible refine(ih kj2 (by have:=HK1.out;have:=HJ2.out;omega) _ _ ((rd_T69 l0 x5_1).f1) _ _ ((rd_T69 l1 x5_1).f1) t265 _ ?side1 ?side2 ?side3 ?side4 A9.out).mono ?_
          (case side1=>exact Kd.Cz (Kd.C_below HR263_1.out HB.out))
          (case side2=>exact HC263_1.out)
          (case side3=>exact Kd.Cz (Kd.C_below HR264_1.out HB.out))
          (case side4=>exact HC264_1.out)
          rintro e w20 ⟨rfl,hb⟩
          refine⟨_,rfl,?_⟩
          have n0_:=Aside0.mk (below_step bz hb)
          clear HB
          have HB:=n0_
          clear n0_
          (try clear hb)
          (try clear hb2)
          (try clear hk)
          (try clear hi)
          refine hK.out _ _ ⟨((HB.out.cell (World.block_lt_of_cell? w _ hw263_0)).trans hw263_0),((HB.out.cell (World.block_lt_of_cell? w _ hw263_1)).trans hw263_1),((HB.out.cell (World.block_lt_of_cell? w _ hw264_0)).trans hw264_0),((HB.out.cell (World.block_lt_of_cell? w _ hw264_1)).trans hw264_1)⟩ (fun hHeld=>?_)
          clear hK K
          refine norm_ (a':=?_) ?_ ?_
          rotate_left
          ·show Act.put _ (some 30) _=_
           simp only[Act.put,s1,s2,s3,i64_w,i32_w]
           rfl
          refine pq 11 (some 6) ?_ HT_.out rfl rfl (Or.inl ⟨by rfl,?_⟩) ?_ ?_ ?_
          rotate_left;(· intro w';go_simp;with_reducible rfl);rotate_left;(· simp only[Act.put,s1,s2,s3,i64_w,i32_w];rfl)
          refine done_ (done_of HT_.out (by kernel_rfl)) ?_
          try go_wp2
          go_ret
          exact⟨by first|rfl|(simp[errW_none,errW_some]<;>rfl)|(simp[*,errW_none,errW_some]<;>rfl),bz⟩
        ·rw[if_neg c8] at H
         exact absurd H (by simp)
       ·rw[if_neg c7] at H
        exact absurd H (by simp)
      ·rw[if_neg c6] at H
       exact absurd H (by simp)
     ·replace c5:=Bool.eq_false_iff.mpr c5
      subst c5
      have H1:((cmp_Compare_int.f (l0.length:Int) (l1.length:Int)).bind fun t262=>(some t262))=some r:=by rw[if_neg (show ¬ (false=true) by decide)] at H;exact H
      clear H
      have H:=H1
      clear H1
      replace H:=Option.bind_eq_some_iff.mp H
      obtain⟨t262,A210,H⟩:=H
      replace H:(some t262)=some r:=H
      have A21:=Aside0.mk A210
      clear A210
      obtain rfl:=Option.some.inj H
      go_wp2_with (first|((with_reducible refine gate_callee (f:=78) rfl ?_);refine goesL_ (some 52) rfl rfl Try.func78 (by kernel_rfl) rfl #[.int .i64 (l0.length:Int),.int .i64 (l1.length:Int)] rfl az ?_;(with_reducible refine(cmp_Compare_int.calls (l0.length:Int) (l1.length:Int) t262 _ A21.out).mono ?_);rintro e w' ⟨rfl,⟨nd,rfl⟩⟩;refine⟨_,rfl,?_⟩))
      go_ret
      exact⟨by first|rfl|(simp[errW_none,errW_some]<;>rfl)|(simp[*,errW_none,errW_some]<;>rfl),bz⟩
end Go.Proofs.Ytpgkpahhohfmhaa.P