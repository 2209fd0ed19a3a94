/- One Go function comes to what its Lean function tells. -/
import Derived.Test.YtfkecmnklpjelaaP0
import Derived.Test.YtfkecmnklpjelaaPcmpCompareint
namespace Go.Proofs.Ytfkecmnklpjelaa.P
open Go.RowKit YtfkecmnklpjelaaW.PrintWords YtfkecmnklpjelaaW.PrintLast YtfkecmnklpjelaaW.PrintMore
set_option linter.unusedVariables false
set_option linter.unusedSimpArgs false
/-! ### impl_compare: function 28 -/
mutual
def impl_compare.l0:Nat→List (S60)→List (S60)→Int→Option (Int)
 | 0,_,_,_=>none
 | k+1,x0,x1,x5=>if x5<(x0.length:Int) then(impl_compare.j1 k x0 x1 x5 (decide (x5<(x1.length:Int)))) else(impl_compare.j1 k x0 x1 x5 false)
def impl_compare.j1:Nat→List (S60)→List (S60)→Int→Bool→Option (Int)
 | 0,_,_,_,_=>none
 | k+1,x0,x1,x5,x17=>if x17=true then(if 0≤x5 then(if x5<(x0.length:Int) then(if x5<(x1.length:Int) then((impl_compare.f k ((rd_T60 x0 x5).f1) ((rd_T60 x1 x5).f1)).bind fun t283=>(if t283=0 then((cmp_Compare_int.f ((rd_T60 x0 x5).f0) ((rd_T60 x1 x5).f0)).bind fun t286=>(if t286=0 then(impl_compare.l0 k x0 x1 (wrap64 (x5+1))) else(some t286))) else(some t283))) else(none)) else(none)) else(none)) else((cmp_Compare_int.f (x0.length:Int) (x1.length:Int)).bind fun t280=>(some t280))
def impl_compare.f:Nat→List (S60)→List (S60)→Option (Int)
 | 0,_,_=>none
 | k+1,l0,l1=>impl_compare.l0 k l0 l1 0
end
theorem impl_compare.mono_l:∀ k,(∀ y0 y1,LeO (impl_compare.f k y0 y1) (impl_compare.f (k+1) y0 y1))∧(∀ y0 y1 y2,LeO (impl_compare.l0 k y0 y1 y2) (impl_compare.l0 (k+1) y0 y1 y2))∧(∀ y0 y1 y2 y3,LeO (impl_compare.j1 k y0 y1 y2 y3) (impl_compare.j1 (k+1) y0 y1 y2 y3))
 | 0=>⟨fun _ _ r h=>by simp[impl_compare.f] at h,fun _ _ _ r h=>by simp[impl_compare.l0] at h,fun _ _ _ _ r h=>by simp[impl_compare.j1] at h⟩
 | k+1=>by
  obtain⟨ih0,ih1,ih2⟩:=impl_compare.mono_l k
  refine⟨?_,?_,?_⟩
  ·intro y0 y1
   unfold impl_compare.f
   repeat' first|(with_reducible first|exact ih0 _ _|exact ih1 _ _ _|exact LeO.refl _|exact LeO.none _|refine LeO.ite ?_ ?_|refine LeO.bind ?_ (fun _=>?_))|exact ih0 _ _|exact ih1 _ _ _|exact LeO.none _|refine LeO.ite ?_ ?_|refine LeO.bind ?_ (fun _=>?_)
  ·intro y0 y1 y2
   unfold impl_compare.l0
   repeat' first|(with_reducible first|exact ih1 _ _ _|exact ih2 _ _ _ _|exact LeO.refl _|exact LeO.none _|refine LeO.ite ?_ ?_|refine LeO.bind ?_ (fun _=>?_))|exact ih1 _ _ _|exact ih2 _ _ _ _|exact LeO.none _|refine LeO.ite ?_ ?_|refine LeO.bind ?_ (fun _=>?_)
  ·intro y0 y1 y2 y3
   unfold impl_compare.j1
   repeat' first|(with_reducible first|exact ih0 _ _|exact ih1 _ _ _|exact ih2 _ _ _ _|exact LeO.refl _|exact LeO.none _|refine LeO.ite ?_ ?_|refine LeO.bind ?_ (fun _=>?_))|exact ih0 _ _|exact ih1 _ _ _|exact ih2 _ _ _ _|exact LeO.none _|refine LeO.ite ?_ ?_|refine LeO.bind ?_ (fun _=>?_)
theorem impl_compare.mono:∀ a0 a1 k,LeO (impl_compare.f k a0 a1) (impl_compare.f (k+1) a0 a1):=by
 intro a0 a1 k
 obtain⟨ih0,ih1,ih2⟩:=impl_compare.mono_l k
 exact ih0 a0 a1
def impl_compare.T4:Bool × List (List Nat × List Nat):=(true,[([],[]),([],[]),([0,1],[0,1]),([2],[2]),([3],[3]),([],[]),([],[]),([5,6],[5,6]),([7],[7]),([8],[8]),([4,9],[4,9]),([10,10,0,1,2,3,4,5,6,7,8,9,10],[10])])
def impl_compare.B4:List Nat:=[0,0,3,7,15,0,0,96,224,480,1023,2047]
theorem impl_compare.tab4:rtab .any (opsOf Try.f28 4)=impl_compare.T4:=by kernel_rfl
theorem impl_compare.bits4:waitsOk impl_compare.T4.2 impl_compare.B4=true:=by kernel_rfl
def impl_compare.T7:Bool × List (List Nat × List Nat):=(true,[([],[]),([],[]),([0,1],[0,1]),([2],[2]),([3],[3]),([],[]),([],[]),([5,6],[5,6]),([7],[7]),([8],[8]),([4,9],[4,9]),([10,10,0,1,2,3,4,5,6,7,8,9,10],[10])])
def impl_compare.B7:List Nat:=[0,0,3,7,15,0,0,96,224,480,1023,2047]
theorem impl_compare.tab7:rtab .any (opsOf Try.f28 7)=impl_compare.T7:=by kernel_rfl
theorem impl_compare.bits7:waitsOk impl_compare.T7.2 impl_compare.B7=true:=by kernel_rfl
set_option maxHeartbeats 8000000 in
set_option maxRecDepth 100000 in
theorem impl_compare.calls (k:Nat):∀ (A0:Option Addr) (c0:Nat) (l0:List (S60)) (A1:Option Addr) (c1:Nat) (l1:List (S60)) (r:Int) (w:World) (hr0:Kd.C k60 w A0 l0.length l0) (hc0:l0.length≤c0) (hr1:Kd.C k60 w A1 l1.length l1) (hc1:l1.length≤c1) (h:impl_compare.f k l0 l1=some r),
  Calls Try.prog 28 #[.slice A0 l0.length c0,.slice A1 l1.length c1] w fun e w'=>e=.returned (.int .i64 r)∧Below w.heap.size w w':=by
 induction k using Nat.strongRecOn with
 | _ k ih =>
 intro A0 c0 l0 A1 c1 l1 r w hr0 hc0 hr1 hc1 h
 cases k with
 | zero=>exact absurd h (by simp[impl_compare.f])
 | succ k =>
 simp only[impl_compare.f] at h
 have HR0:=Sd.mk hr0
 have HC0:=Sd.mk hc0
 clear hr0 hc0
 have HR1:=Sd.mk hr1
 have HC1:=Sd.mk hc1
 clear hr1 hc1
 have HB:=Sd.mk (Below.refl w.heap.size w)
 have H:(impl_compare.l0 k l0 l1 0)=some r:=h
 clear h
 have H':=Sd.mk H
 clear H
 go_enter Try.func28,Try.ntmps28
 go_wp2
 go_loopg [5] k (fun kq v5 w'=>∃ (x5_1:Int),v5=.int .i64 x5_1∧Sd (impl_compare.l0 kq l0 l1 x5_1=some r)∧Sd (kq≤k)∧Sd (Below w.heap.size w w'))
 case atStart=>exact⟨(0),(by first|rfl|(simp;done)|(simp[*];done)),H',⟨Nat.le_refl _⟩,⟨bz⟩⟩
 case round =>
  clear H'
  try clear c1
  try clear c2
  try clear p2
  obtain⟨x5_1,rfl,HA,HK1,HB⟩:=hrel
  cases gk with
  | zero=>exact absurd HA.out (by simp[impl_compare.l0])
  | succ k1 =>
   have H:=HA.out
   clear HA
   simp only[impl_compare.l0] at H
   have HC3:=Sd.mk H
   clear H
   go_upto_region 2 with (fail)
   go_cut [17] (fun v17 wc=>∃ (kq:Nat) (x17_2:Bool),v17=.bool x17_2∧Sd (impl_compare.j1 kq l0 l1 x5_1 x17_2=some r)∧Sd (kq≤k1)∧Sd (Below w.heap.size w wc))
   case first =>
    have H:=HC3.out
    clear HC3
    by_cases c4:x5_1<(l0.length:Int)
    ·rw[if_pos c4] at H
     have c4b0:decide (x5_1<(l0.length:Int))=true:=decide_eq_true c4
     clear c4
     (first|rw[c4b0]|(simp only[i64_w,i32_w];rw[c4b0])|skip)
     have H':=Sd.mk H
     clear H
     go_wp2
     go_meet
     case rel=>exact⟨_,(decide (x5_1<(l1.length:Int))),(by first|rfl|(simp;done)|(simp[*];done)),H',⟨by have:=HK1.out;first|omega|exact Nat.le_refl _⟩,⟨bz⟩⟩
    ·rw[if_neg c4] at H
     have c4b0:decide (x5_1<(l0.length:Int))=false:=decide_eq_false c4
     clear c4
     (first|rw[c4b0]|(simp only[i64_w,i32_w];rw[c4b0])|skip)
     have H':=Sd.mk H
     clear H
     go_wp2
     go_meet
     case rel=>exact⟨_,(false),(by first|rfl|(simp;done)|(simp[*];done)),H',⟨by have:=HK1.out;first|omega|exact Nat.le_refl _⟩,⟨bz⟩⟩
   case rest =>
    clear HC3
    try clear c1
    try clear c2
    try clear p2
    try clear c4
    try clear c4b0
    try clear p2
    obtain⟨kq,x17_2,rfl,HA,HJ2,HB⟩:=hcut
    cases kq with
    | zero=>exact absurd HA.out (by simp[impl_compare.j1])
    | succ kj2 =>
     have H:=HA.out
     clear HA
     simp only[impl_compare.j1] at H
     by_cases c5:x17_2=true
     ·subst c5
      have H1:(if 0≤x5_1 then(if x5_1<(l0.length:Int) then(if x5_1<(l1.length:Int) then((impl_compare.f kj2 ((rd_T60 l0 x5_1).f1) ((rd_T60 l1 x5_1).f1)).bind fun t283=>(if t283=0 then((cmp_Compare_int.f ((rd_T60 l0 x5_1).f0) ((rd_T60 l1 x5_1).f0)).bind fun t286=>(if t286=0 then(impl_compare.l0 kj2 l0 l1 (wrap64 (x5_1+1))) else(some t286))) else(some t283))) else(none)) else(none)) else(none))=some r:=by rw[if_pos rfl] at H;exact H
      clear H
      have H:=H1
      clear H1
      by_cases c6:0≤x5_1
      ·rw[if_pos c6] at H
       have c6b0:decide (0≤x5_1)=true:=decide_eq_true c6
       clear c6
       by_cases c7:x5_1<(l0.length:Int)
       ·rw[if_pos c7] at H
        have c7b0:decide (x5_1<(l0.length:Int))=true:=decide_eq_true c7
        clear c7
        by_cases c8:x5_1<(l1.length:Int)
        ·rw[if_pos c8] at H
         have c8b0:decide (x5_1<(l1.length:Int))=true:=decide_eq_true c8
         clear c8
         replace H:=Option.bind_eq_some_iff.mp H
         obtain⟨t283,A90,H⟩:=H
         replace H:(if t283=0 then((cmp_Compare_int.f ((rd_T60 l0 x5_1).f0) ((rd_T60 l1 x5_1).f0)).bind fun t286=>(if t286=0 then(impl_compare.l0 kj2 l0 l1 (wrap64 (x5_1+1))) else(some t286))) else(some t283))=some r:=H
         have A9:=Sd.mk A90
         clear A90
         by_cases c10:t283=0
         ·rw[if_pos c10] at H
          have c10b0:(t283 == 0)=true:=beq_iff_eq.mpr c10
          have c10b1:(t283 != 0)=false:=bne_eq_false_iff_eq.mpr c10
          clear c10
          replace H:=Option.bind_eq_some_iff.mp H
          obtain⟨t286,A110,H⟩:=H
          replace H:(if t286=0 then(impl_compare.l0 kj2 l0 l1 (wrap64 (x5_1+1))) else(some t286))=some r:=H
          have A11:=Sd.mk A110
          clear A110
          by_cases c12:t286=0
          ·rw[if_pos c12] at H
           have c12b0:(t286 == 0)=true:=beq_iff_eq.mpr c12
           have c12b1:(t286 != 0)=false:=bne_eq_false_iff_eq.mpr c12
           clear c12
           have H':=Sd.mk H
           clear H
           try go_wp2
           have n0_:=Sd.mk (below_drew1 HB.out)
           clear HB
           have HB:=n0_
           clear n0_
           have p281:0≤(x5_1:Int):=dz
           have q281:x5_1<(l0.length:Int):=dz
           obtain⟨ad281,A281_1,c281_1,e281,hx281_0,hx281_1,hl281_1,hi281_1⟩:=at_T60 HR0.out x5_1 p281 q281
           have hw281_1:=hx281_1
           have hw281_0:=hx281_0
           cases e281
           replace hx281_0:=(HB.out.cell (World.block_lt_of_cell? w _ hx281_0)).trans hx281_0
           replace hx281_1:=(HB.out.cell (World.block_lt_of_cell? w _ hx281_1)).trans hx281_1
           have HR281_1:=Sd.mk hi281_1
           have HC281_1:=Sd.mk hl281_1
           clear hi281_1 hl281_1
           replace p281:=eq_true p281
           replace q281:=eq_true q281
           have p282:0≤(x5_1:Int):=dz
           have q282:x5_1<(l1.length:Int):=dz
           obtain⟨ad282,A282_1,c282_1,e282,hx282_0,hx282_1,hl282_1,hi282_1⟩:=at_T60 HR1.out x5_1 p282 q282
           have hw282_1:=hx282_1
           have hw282_0:=hx282_0
           cases e282
           replace hx282_0:=(HB.out.cell (World.block_lt_of_cell? w _ hx282_0)).trans hx282_0
           replace hx282_1:=(HB.out.cell (World.block_lt_of_cell? w _ hx282_1)).trans hx282_1
           have HR282_1:=Sd.mk hi282_1
           have HC282_1:=Sd.mk hl282_1
           clear hi282_1 hl282_1
           replace p282:=eq_true p282
           replace q282:=eq_true q282
           refine start_ (n:=12) (S:=fun w'=>w'.cell? (ad281.add ((x5_1).toNat*2))=some (.int .i64 ((rd_T60 l0 x5_1).f0))∧w'.cell? ⟨(ad281.add ((x5_1).toNat*2)).block,(ad281.add ((x5_1).toNat*2)).off+1,none⟩=some (.slice A281_1 ((rd_T60 l0 x5_1).f1).length c281_1)∧w'.cell? (ad282.add ((x5_1).toNat*2))=some (.int .i64 ((rd_T60 l1 x5_1).f0))∧w'.cell? ⟨(ad282.add ((x5_1).toNat*2)).block,(ad282.add ((x5_1).toNat*2)).off+1,none⟩=some (.slice A282_1 ((rd_T60 l1 x5_1).f1).length c282_1)) (ds:=[]) #[F,F,F,F,F,F,F,F,F,F,F,F] (by kernel_rfl) rfl rfl ⟨((HB.out.cell (World.block_lt_of_cell? w _ hw281_0)).trans hw281_0),((HB.out.cell (World.block_lt_of_cell? w _ hw281_1)).trans hw281_1),((HB.out.cell (World.block_lt_of_cell? w _ hw282_0)).trans hw282_0),((HB.out.cell (World.block_lt_of_cell? w _ hw282_1)).trans hw282_1)⟩ (fun hHeld=>?_);refine with_tabW impl_compare.tab4 impl_compare.bits4 (fun HT_ HW_=>?_)
           generalize wc.drew=w13 at HB HR281_1 HR282_1 hx281_0 hx281_1 hx282_0 hx282_1 hHeld ⊢
           refine pq 0 (some 20) HT_.out rfl rfl ?_
           refine pq 1 (some 21) HT_.out rfl rfl ?_
           refine pq 2 (some 22) HT_.out rfl rfl ?_
           refine pq 3 (some 23) HT_.out rfl rfl ?_
           refine pq 5 (some 25) HT_.out rfl rfl ?_
           refine pq 6 (some 26) HT_.out rfl rfl ?_
           refine pq 7 (some 27) HT_.out rfl rfl ?_
           refine pq 8 (some 28) HT_.out rfl rfl ?_
           refine take_ (i:=4) (N:=some 24) (v:=?_) (a':=?_) #[T,T,T,T,T,T,T,T,T,F,F,F] rfl rfl (take_ofW HT_.out HW_.out (by kernel_rfl)) (fun _ _ _ h=>h) (Or.inl ⟨by rfl,?_⟩) hHeld ?_ ?_
           rotate_left;(· rintro w' ⟨s0,s1,s2,s3⟩;go_simp;with_reducible rfl);rotate_left;(· simp only[Act.put,s1,s2,s3,i64_w,i32_w];rfl)
           refine take_ (i:=9) (N:=some 29) (v:=?_) (a':=?_) #[T,T,T,T,T,T,T,T,T,T,F,F] rfl rfl (take_ofW HT_.out HW_.out (by kernel_rfl)) (fun _ _ _ h=>h) (Or.inl ⟨by rfl,?_⟩) hHeld ?_ ?_
           rotate_left;(· rintro w' ⟨s0,s1,s2,s3⟩;go_simp;with_reducible rfl);rotate_left;(· simp only[Act.put,s1,s2,s3,i64_w,i32_w];rfl)
           refine one_ (i:=10) (N:=some 30) #[T,T,T,T,T,T,T,T,T,T,T,F] rfl rfl (one_of HT_.out (by kernel_rfl)) (by decide) (fun K hK=>?_)
           refine goes_ Try.func28 (by kernel_rfl) rfl #[.slice A281_1 ((rd_T60 l0 x5_1).f1).length c281_1,.slice A282_1 ((rd_T60 l1 x5_1).f1).length c282_1] (by rfl) rfl rfl az ?_
           with_reducible refine(ih kj2 (by have:=HK1.out;have:=HJ2.out;omega) _ _ ((rd_T60 l0 x5_1).f1) _ _ ((rd_T60 l1 x5_1).f1) t283 _ ?side1 ?side2 ?side3 ?side4 A9.out).mono ?_
           (case side1=>exact Kd.Cz (Kd.C_below HR281_1.out HB.out))
           (case side2=>exact HC281_1.out)
           (case side3=>exact Kd.Cz (Kd.C_below HR282_1.out HB.out))
           (case side4=>exact HC282_1.out)
           rintro e w14 ⟨rfl,hb⟩
           refine⟨_,rfl,?_⟩
           have n0_:=Sd.mk (below_step bz hb)
           clear HB
           have HB:=n0_
           clear n0_
           (try clear hb)
           (try clear hb2)
           (try clear hk)
           (try clear hi)
           refine hK.out _ _ ⟨((HB.out.cell (World.block_lt_of_cell? w _ hw281_0)).trans hw281_0),((HB.out.cell (World.block_lt_of_cell? w _ hw281_1)).trans hw281_1),((HB.out.cell (World.block_lt_of_cell? w _ hw282_0)).trans hw282_0),((HB.out.cell (World.block_lt_of_cell? w _ hw282_1)).trans hw282_1)⟩ (fun hHeld=>?_)
           clear hK K
           refine norm_ (a':=?_) ?_ ?_
           rotate_left
           ·show Act.put _ (some 30) _=_
            simp only[Act.put,s1,s2,s3,i64_w,i32_w]
            rfl
           refine pq 11 (some 6) HT_.out rfl rfl ?_
           refine done_ (done_of HT_.out (by kernel_rfl)) ?_
           try go_wp2
           have n0_:=Sd.mk (below_drew1 HB.out)
           clear HB
           have HB:=n0_
           clear n0_
           have p284:0≤(x5_1:Int):=dz
           have q284:x5_1<(l0.length:Int):=dz
           obtain⟨ad284,A284_1,c284_1,e284,hx284_0,hx284_1,hl284_1,hi284_1⟩:=at_T60 HR0.out x5_1 p284 q284
           have hw284_1:=hx284_1
           have hw284_0:=hx284_0
           obtain rfl:ad281=ad284:=(by injection e284)
           replace hx284_0:=(HB.out.cell (World.block_lt_of_cell? w _ hx284_0)).trans hx284_0
           replace hx284_1:=(HB.out.cell (World.block_lt_of_cell? w _ hx284_1)).trans hx284_1
           (try (have he_:=Option.some.inj (hx284_1.symm.trans (show _=some (Value.slice A281_1 _ c281_1) from by assumption));injection he_ with ha_ hn_ hc_;clear hn_;subst ha_;subst hc_))
           have HR284_1:=Sd.mk hi284_1
           have HC284_1:=Sd.mk hl284_1
           clear hi284_1 hl284_1
           replace p284:=eq_true p284
           replace q284:=eq_true q284
           have p285:0≤(x5_1:Int):=dz
           have q285:x5_1<(l1.length:Int):=dz
           obtain⟨ad285,A285_1,c285_1,e285,hx285_0,hx285_1,hl285_1,hi285_1⟩:=at_T60 HR1.out x5_1 p285 q285
           have hw285_1:=hx285_1
           have hw285_0:=hx285_0
           obtain rfl:ad282=ad285:=(by injection e285)
           replace hx285_0:=(HB.out.cell (World.block_lt_of_cell? w _ hx285_0)).trans hx285_0
           replace hx285_1:=(HB.out.cell (World.block_lt_of_cell? w _ hx285_1)).trans hx285_1
           (try (have he_:=Option.some.inj (hx285_1.symm.trans (show _=some (Value.slice A282_1 _ c282_1) from by assumption));injection he_ with ha_ hn_ hc_;clear hn_;subst ha_;subst hc_))
           have HR285_1:=Sd.mk hi285_1
           have HC285_1:=Sd.mk hl285_1
           clear hi285_1 hl285_1
           replace p285:=eq_true p285
           replace q285:=eq_true q285
           refine start_ (n:=12) (S:=fun w'=>w'.cell? (ad281.add ((x5_1).toNat*2))=some (.int .i64 ((rd_T60 l0 x5_1).f0))∧w'.cell? ⟨(ad281.add ((x5_1).toNat*2)).block,(ad281.add ((x5_1).toNat*2)).off+1,none⟩=some (.slice A284_1 ((rd_T60 l0 x5_1).f1).length c284_1)∧w'.cell? (ad282.add ((x5_1).toNat*2))=some (.int .i64 ((rd_T60 l1 x5_1).f0))∧w'.cell? ⟨(ad282.add ((x5_1).toNat*2)).block,(ad282.add ((x5_1).toNat*2)).off+1,none⟩=some (.slice A285_1 ((rd_T60 l1 x5_1).f1).length c285_1)) (ds:=[]) #[F,F,F,F,F,F,F,F,F,F,F,F] (by kernel_rfl) rfl rfl ⟨((HB.out.cell (World.block_lt_of_cell? w _ hw284_0)).trans hw284_0),((HB.out.cell (World.block_lt_of_cell? w _ hw284_1)).trans hw284_1),((HB.out.cell (World.block_lt_of_cell? w _ hw285_0)).trans hw285_0),((HB.out.cell (World.block_lt_of_cell? w _ hw285_1)).trans hw285_1)⟩ (fun hHeld=>?_);refine with_tabW impl_compare.tab7 impl_compare.bits7 (fun HT_ HW_=>?_)
           generalize w14.drew=w15 at HB HR284_1 HR285_1 hx284_0 hx284_1 hx285_0 hx285_1 hHeld ⊢
           refine pq 0 (some 34) HT_.out rfl rfl ?_
           refine pq 1 (some 35) HT_.out rfl rfl ?_
           refine pq 2 (some 36) HT_.out rfl rfl ?_
           refine pq 3 (some 37) HT_.out rfl rfl ?_
           refine pq 5 (some 39) HT_.out rfl rfl ?_
           refine pq 6 (some 40) HT_.out rfl rfl ?_
           refine pq 7 (some 41) HT_.out rfl rfl ?_
           refine pq 8 (some 42) HT_.out rfl rfl ?_
           refine take_ (i:=4) (N:=some 38) (v:=?_) (a':=?_) #[T,T,T,T,T,T,T,T,T,F,F,F] rfl rfl (take_ofW HT_.out HW_.out (by kernel_rfl)) (fun _ _ _ h=>h) (Or.inl ⟨by rfl,?_⟩) hHeld ?_ ?_
           rotate_left;(· rintro w' ⟨s0,s1,s2,s3⟩;go_simp;with_reducible rfl);rotate_left;(· simp only[Act.put,s1,s2,s3,i64_w,i32_w];rfl)
           refine take_ (i:=9) (N:=some 43) (v:=?_) (a':=?_) #[T,T,T,T,T,T,T,T,T,T,F,F] rfl rfl (take_ofW HT_.out HW_.out (by kernel_rfl)) (fun _ _ _ h=>h) (Or.inl ⟨by rfl,?_⟩) hHeld ?_ ?_
           rotate_left;(· rintro w' ⟨s0,s1,s2,s3⟩;go_simp;with_reducible rfl);rotate_left;(· simp only[Act.put,s1,s2,s3,i64_w,i32_w];rfl)
           refine one_ (i:=10) (N:=some 44) #[T,T,T,T,T,T,T,T,T,T,T,F] rfl rfl (one_of HT_.out (by kernel_rfl)) (by decide) (fun K hK=>?_)
           refine goes_ Try.func43 (by kernel_rfl) rfl #[.int .i64 ((rd_T60 l0 x5_1).f0),.int .i64 ((rd_T60 l1 x5_1).f0)] (by rfl) rfl rfl az ?_
           with_reducible refine(cmp_Compare_int.calls ((rd_T60 l0 x5_1).f0) ((rd_T60 l1 x5_1).f0) t286 _ A11.out).mono ?_
           rintro e w' ⟨rfl,⟨nd,rfl⟩⟩
           refine⟨_,rfl,?_⟩
           refine hK.out _ _ ⟨((HB.out.cell (World.block_lt_of_cell? w _ hw284_0)).trans hw284_0),((HB.out.cell (World.block_lt_of_cell? w _ hw284_1)).trans hw284_1),((HB.out.cell (World.block_lt_of_cell? w _ hw285_0)).trans hw285_0),((HB.out.cell (World.block_lt_of_cell? w _ hw285_1)).trans hw285_1)⟩ (fun hHeld=>?_)
           clear hK K
           refine norm_ (a':=?_) ?_ ?_
           rotate_left
           ·show Act.put _ (some 44) _=_
            simp only[Act.put,s1,s2,s3,i64_w,i32_w]
            rfl
           refine pq 11 (some 7) HT_.out rfl rfl ?_
           refine done_ (done_of HT_.out (by kernel_rfl)) ?_
           try go_wp2
           go_roundg kj2
           case measure=>have:=HK1.out;have:=HJ2.out;omega
           case rel=>exact⟨(wrap64 (x5_1+1)),(by first|rfl|(simp;done)|(simp[*];done)),H',⟨by have:=HK1.out;have:=HJ2.out;omega⟩,⟨bz⟩⟩
          ·rw[if_neg c12] at H
           have c12b0:(t286 == 0)=false:=beq_eq_false_iff_ne.mpr c12
           have c12b1:(t286 != 0)=true:=bne_iff_ne.mpr c12
           obtain rfl:=Option.some.inj H
           try go_wp2
           have n0_:=Sd.mk (below_drew1 HB.out)
           clear HB
           have HB:=n0_
           clear n0_
           have p281:0≤(x5_1:Int):=dz
           have q281:x5_1<(l0.length:Int):=dz
           obtain⟨ad281,A281_1,c281_1,e281,hx281_0,hx281_1,hl281_1,hi281_1⟩:=at_T60 HR0.out x5_1 p281 q281
           have hw281_1:=hx281_1
           have hw281_0:=hx281_0
           cases e281
           replace hx281_0:=(HB.out.cell (World.block_lt_of_cell? w _ hx281_0)).trans hx281_0
           replace hx281_1:=(HB.out.cell (World.block_lt_of_cell? w _ hx281_1)).trans hx281_1
           have HR281_1:=Sd.mk hi281_1
           have HC281_1:=Sd.mk hl281_1
           clear hi281_1 hl281_1
           replace p281:=eq_true p281
           replace q281:=eq_true q281
           have p282:0≤(x5_1:Int):=dz
           have q282:x5_1<(l1.length:Int):=dz
           obtain⟨ad282,A282_1,c282_1,e282,hx282_0,hx282_1,hl282_1,hi282_1⟩:=at_T60 HR1.out x5_1 p282 q282
           have hw282_1:=hx282_1
           have hw282_0:=hx282_0
           cases e282
           replace hx282_0:=(HB.out.cell (World.block_lt_of_cell? w _ hx282_0)).trans hx282_0
           replace hx282_1:=(HB.out.cell (World.block_lt_of_cell? w _ hx282_1)).trans hx282_1
           have HR282_1:=Sd.mk hi282_1
           have HC282_1:=Sd.mk hl282_1
           clear hi282_1 hl282_1
           replace p282:=eq_true p282
           replace q282:=eq_true q282
           refine start_ (n:=12) (S:=fun w'=>w'.cell? (ad281.add ((x5_1).toNat*2))=some (.int .i64 ((rd_T60 l0 x5_1).f0))∧w'.cell? ⟨(ad281.add ((x5_1).toNat*2)).block,(ad281.add ((x5_1).toNat*2)).off+1,none⟩=some (.slice A281_1 ((rd_T60 l0 x5_1).f1).length c281_1)∧w'.cell? (ad282.add ((x5_1).toNat*2))=some (.int .i64 ((rd_T60 l1 x5_1).f0))∧w'.cell? ⟨(ad282.add ((x5_1).toNat*2)).block,(ad282.add ((x5_1).toNat*2)).off+1,none⟩=some (.slice A282_1 ((rd_T60 l1 x5_1).f1).length c282_1)) (ds:=[]) #[F,F,F,F,F,F,F,F,F,F,F,F] (by kernel_rfl) rfl rfl ⟨((HB.out.cell (World.block_lt_of_cell? w _ hw281_0)).trans hw281_0),((HB.out.cell (World.block_lt_of_cell? w _ hw281_1)).trans hw281_1),((HB.out.cell (World.block_lt_of_cell? w _ hw282_0)).trans hw282_0),((HB.out.cell (World.block_lt_of_cell? w _ hw282_1)).trans hw282_1)⟩ (fun hHeld=>?_);refine with_tabW impl_compare.tab4 impl_compare.bits4 (fun HT_ HW_=>?_)
           generalize wc.drew=w16 at HB HR281_1 HR282_1 hx281_0 hx281_1 hx282_0 hx282_1 hHeld ⊢
           refine pq 0 (some 20) HT_.out rfl rfl ?_
           refine pq 1 (some 21) HT_.out rfl rfl ?_
           refine pq 2 (some 22) HT_.out rfl rfl ?_
           refine pq 3 (some 23) HT_.out rfl rfl ?_
           refine pq 5 (some 25) HT_.out rfl rfl ?_
           refine pq 6 (some 26) HT_.out rfl rfl ?_
           refine pq 7 (some 27) HT_.out rfl rfl ?_
           refine pq 8 (some 28) HT_.out rfl rfl ?_
           refine take_ (i:=4) (N:=some 24) (v:=?_) (a':=?_) #[T,T,T,T,T,T,T,T,T,F,F,F] rfl rfl (take_ofW HT_.out HW_.out (by kernel_rfl)) (fun _ _ _ h=>h) (Or.inl ⟨by rfl,?_⟩) hHeld ?_ ?_
           rotate_left;(· rintro w' ⟨s0,s1,s2,s3⟩;go_simp;with_reducible rfl);rotate_left;(· simp only[Act.put,s1,s2,s3,i64_w,i32_w];rfl)
           refine take_ (i:=9) (N:=some 29) (v:=?_) (a':=?_) #[T,T,T,T,T,T,T,T,T,T,F,F] rfl rfl (take_ofW HT_.out HW_.out (by kernel_rfl)) (fun _ _ _ h=>h) (Or.inl ⟨by rfl,?_⟩) hHeld ?_ ?_
           rotate_left;(· rintro w' ⟨s0,s1,s2,s3⟩;go_simp;with_reducible rfl);rotate_left;(· simp only[Act.put,s1,s2,s3,i64_w,i32_w];rfl)
           refine one_ (i:=10) (N:=some 30) #[T,T,T,T,T,T,T,T,T,T,T,F] rfl rfl (one_of HT_.out (by kernel_rfl)) (by decide) (fun K hK=>?_)
           refine goes_ Try.func28 (by kernel_rfl) rfl #[.slice A281_1 ((rd_T60 l0 x5_1).f1).length c281_1,.slice A282_1 ((rd_T60 l1 x5_1).f1).length c282_1] (by rfl) rfl rfl az ?_
           with_reducible refine(ih kj2 (by have:=HK1.out;have:=HJ2.out;omega) _ _ ((rd_T60 l0 x5_1).f1) _ _ ((rd_T60 l1 x5_1).f1) t283 _ ?side1 ?side2 ?side3 ?side4 A9.out).mono ?_
           (case side1=>exact Kd.Cz (Kd.C_below HR281_1.out HB.out))
           (case side2=>exact HC281_1.out)
           (case side3=>exact Kd.Cz (Kd.C_below HR282_1.out HB.out))
           (case side4=>exact HC282_1.out)
           rintro e w17 ⟨rfl,hb⟩
           refine⟨_,rfl,?_⟩
           have n0_:=Sd.mk (below_step bz hb)
           clear HB
           have HB:=n0_
           clear n0_
           (try clear hb)
           (try clear hb2)
           (try clear hk)
           (try clear hi)
           refine hK.out _ _ ⟨((HB.out.cell (World.block_lt_of_cell? w _ hw281_0)).trans hw281_0),((HB.out.cell (World.block_lt_of_cell? w _ hw281_1)).trans hw281_1),((HB.out.cell (World.block_lt_of_cell? w _ hw282_0)).trans hw282_0),((HB.out.cell (World.block_lt_of_cell? w _ hw282_1)).trans hw282_1)⟩ (fun hHeld=>?_)
           clear hK K
           refine norm_ (a':=?_) ?_ ?_
           rotate_left
           ·show Act.put _ (some 30) _=_
            simp only[Act.put,s1,s2,s3,i64_w,i32_w]
            rfl
           refine pq 11 (some 6) HT_.out rfl rfl ?_
           refine done_ (done_of HT_.out (by kernel_rfl)) ?_
           try go_wp2
           have n0_:=Sd.mk (below_drew1 HB.out)
           clear HB
           have HB:=n0_
           clear n0_
           have p284:0≤(x5_1:Int):=dz
           have q284:x5_1<(l0.length:Int):=dz
           obtain⟨ad284,A284_1,c284_1,e284,hx284_0,hx284_1,hl284_1,hi284_1⟩:=at_T60 HR0.out x5_1 p284 q284
           have hw284_1:=hx284_1
           have hw284_0:=hx284_0
           obtain rfl:ad281=ad284:=(by injection e284)
           replace hx284_0:=(HB.out.cell (World.block_lt_of_cell? w _ hx284_0)).trans hx284_0
           replace hx284_1:=(HB.out.cell (World.block_lt_of_cell? w _ hx284_1)).trans hx284_1
           (try (have he_:=Option.some.inj (hx284_1.symm.trans (show _=some (Value.slice A281_1 _ c281_1) from by assumption));injection he_ with ha_ hn_ hc_;clear hn_;subst ha_;subst hc_))
           have HR284_1:=Sd.mk hi284_1
           have HC284_1:=Sd.mk hl284_1
           clear hi284_1 hl284_1
           replace p284:=eq_true p284
           replace q284:=eq_true q284
           have p285:0≤(x5_1:Int):=dz
           have q285:x5_1<(l1.length:Int):=dz
           obtain⟨ad285,A285_1,c285_1,e285,hx285_0,hx285_1,hl285_1,hi285_1⟩:=at_T60 HR1.out x5_1 p285 q285
           have hw285_1:=hx285_1
           have hw285_0:=hx285_0
           obtain rfl:ad282=ad285:=(by injection e285)
           replace hx285_0:=(HB.out.cell (World.block_lt_of_cell? w _ hx285_0)).trans hx285_0
           replace hx285_1:=(HB.out.cell (World.block_lt_of_cell? w _ hx285_1)).trans hx285_1
           (try (have he_:=Option.some.inj (hx285_1.symm.trans (show _=some (Value.slice A282_1 _ c282_1) from by assumption));injection he_ with ha_ hn_ hc_;clear hn_;subst ha_;subst hc_))
           have HR285_1:=Sd.mk hi285_1
           have HC285_1:=Sd.mk hl285_1
           clear hi285_1 hl285_1
           replace p285:=eq_true p285
           replace q285:=eq_true q285
           refine start_ (n:=12) (S:=fun w'=>w'.cell? (ad281.add ((x5_1).toNat*2))=some (.int .i64 ((rd_T60 l0 x5_1).f0))∧w'.cell? ⟨(ad281.add ((x5_1).toNat*2)).block,(ad281.add ((x5_1).toNat*2)).off+1,none⟩=some (.slice A284_1 ((rd_T60 l0 x5_1).f1).length c284_1)∧w'.cell? (ad282.add ((x5_1).toNat*2))=some (.int .i64 ((rd_T60 l1 x5_1).f0))∧w'.cell? ⟨(ad282.add ((x5_1).toNat*2)).block,(ad282.add ((x5_1).toNat*2)).off+1,none⟩=some (.slice A285_1 ((rd_T60 l1 x5_1).f1).length c285_1)) (ds:=[]) #[F,F,F,F,F,F,F,F,F,F,F,F] (by kernel_rfl) rfl rfl ⟨((HB.out.cell (World.block_lt_of_cell? w _ hw284_0)).trans hw284_0),((HB.out.cell (World.block_lt_of_cell? w _ hw284_1)).trans hw284_1),((HB.out.cell (World.block_lt_of_cell? w _ hw285_0)).trans hw285_0),((HB.out.cell (World.block_lt_of_cell? w _ hw285_1)).trans hw285_1)⟩ (fun hHeld=>?_);refine with_tabW impl_compare.tab7 impl_compare.bits7 (fun HT_ HW_=>?_)
           generalize w17.drew=w18 at HB HR284_1 HR285_1 hx284_0 hx284_1 hx285_0 hx285_1 hHeld ⊢
           refine pq 0 (some 34) HT_.out rfl rfl ?_
           refine pq 1 (some 35) HT_.out rfl rfl ?_
           refine pq 2 (some 36) HT_.out rfl rfl ?_
           refine pq 3 (some 37) HT_.out rfl rfl ?_
           refine pq 5 (some 39) HT_.out rfl rfl ?_
           refine pq 6 (some 40) HT_.out rfl rfl ?_
           refine pq 7 (some 41) HT_.out rfl rfl ?_
           refine pq 8 (some 42) HT_.out rfl rfl ?_
           refine take_ (i:=4) (N:=some 38) (v:=?_) (a':=?_) #[T,T,T,T,T,T,T,T,T,F,F,F] rfl rfl (take_ofW HT_.out HW_.out (by kernel_rfl)) (fun _ _ _ h=>h) (Or.inl ⟨by rfl,?_⟩) hHeld ?_ ?_
           rotate_left;(· rintro w' ⟨s0,s1,s2,s3⟩;go_simp;with_reducible rfl);rotate_left;(· simp only[Act.put,s1,s2,s3,i64_w,i32_w];rfl)
           refine take_ (i:=9) (N:=some 43) (v:=?_) (a':=?_) #[T,T,T,T,T,T,T,T,T,T,F,F] rfl rfl (take_ofW HT_.out HW_.out (by kernel_rfl)) (fun _ _ _ h=>h) (Or.inl ⟨by rfl,?_⟩) hHeld ?_ ?_
           rotate_left;(· rintro w' ⟨s0,s1,s2,s3⟩;go_simp;with_reducible rfl);rotate_left;(· simp only[Act.put,s1,s2,s3,i64_w,i32_w];rfl)
           refine one_ (i:=10) (N:=some 44) #[T,T,T,T,T,T,T,T,T,T,T,F] rfl rfl (one_of HT_.out (by kernel_rfl)) (by decide) (fun K hK=>?_)
           refine goes_ Try.func43 (by kernel_rfl) rfl #[.int .i64 ((rd_T60 l0 x5_1).f0),.int .i64 ((rd_T60 l1 x5_1).f0)] (by rfl) rfl rfl az ?_
           with_reducible refine(cmp_Compare_int.calls ((rd_T60 l0 x5_1).f0) ((rd_T60 l1 x5_1).f0) t286 _ A11.out).mono ?_
           rintro e w' ⟨rfl,⟨nd,rfl⟩⟩
           refine⟨_,rfl,?_⟩
           refine hK.out _ _ ⟨((HB.out.cell (World.block_lt_of_cell? w _ hw284_0)).trans hw284_0),((HB.out.cell (World.block_lt_of_cell? w _ hw284_1)).trans hw284_1),((HB.out.cell (World.block_lt_of_cell? w _ hw285_0)).trans hw285_0),((HB.out.cell (World.block_lt_of_cell? w _ hw285_1)).trans hw285_1)⟩ (fun hHeld=>?_)
           clear hK K
           refine norm_ (a':=?_) ?_ ?_
           rotate_left
           ·show Act.put _ (some 44) _=_
            simp only[Act.put,s1,s2,s3,i64_w,i32_w]
            rfl
           refine pq 11 (some 7) HT_.out rfl rfl ?_
           refine done_ (done_of HT_.out (by kernel_rfl)) ?_
           try go_wp2
           go_ret
           exact⟨by first|rfl|(simp[errW_none,errW_some]<;>rfl)|(simp[*,errW_none,errW_some]<;>rfl),bz⟩
         ·rw[if_neg c10] at H
          have c10b0:(t283 == 0)=false:=beq_eq_false_iff_ne.mpr c10
          have c10b1:(t283 != 0)=true:=bne_iff_ne.mpr c10
          obtain rfl:=Option.some.inj H
          try go_wp2
          have n0_:=Sd.mk (below_drew1 HB.out)
          clear HB
          have HB:=n0_
          clear n0_
          have p281:0≤(x5_1:Int):=dz
          have q281:x5_1<(l0.length:Int):=dz
          obtain⟨ad281,A281_1,c281_1,e281,hx281_0,hx281_1,hl281_1,hi281_1⟩:=at_T60 HR0.out x5_1 p281 q281
          have hw281_1:=hx281_1
          have hw281_0:=hx281_0
          cases e281
          replace hx281_0:=(HB.out.cell (World.block_lt_of_cell? w _ hx281_0)).trans hx281_0
          replace hx281_1:=(HB.out.cell (World.block_lt_of_cell? w _ hx281_1)).trans hx281_1
          have HR281_1:=Sd.mk hi281_1
          have HC281_1:=Sd.mk hl281_1
          clear hi281_1 hl281_1
          replace p281:=eq_true p281
          replace q281:=eq_true q281
          have p282:0≤(x5_1:Int):=dz
          have q282:x5_1<(l1.length:Int):=dz
          obtain⟨ad282,A282_1,c282_1,e282,hx282_0,hx282_1,hl282_1,hi282_1⟩:=at_T60 HR1.out x5_1 p282 q282
          have hw282_1:=hx282_1
          have hw282_0:=hx282_0
          cases e282
          replace hx282_0:=(HB.out.cell (World.block_lt_of_cell? w _ hx282_0)).trans hx282_0
          replace hx282_1:=(HB.out.cell (World.block_lt_of_cell? w _ hx282_1)).trans hx282_1
          have HR282_1:=Sd.mk hi282_1
          have HC282_1:=Sd.mk hl282_1
          clear hi282_1 hl282_1
          replace p282:=eq_true p282
          replace q282:=eq_true q282
          refine start_ (n:=12) (S:=fun w'=>w'.cell? (ad281.add ((x5_1).toNat*2))=some (.int .i64 ((rd_T60 l0 x5_1).f0))∧w'.cell? ⟨(ad281.add ((x5_1).toNat*2)).block,(ad281.add ((x5_1).toNat*2)).off+1,none⟩=some (.slice A281_1 ((rd_T60 l0 x5_1).f1).length c281_1)∧w'.cell? (ad282.add ((x5_1).toNat*2))=some (.int .i64 ((rd_T60 l1 x5_1).f0))∧w'.cell? ⟨(ad282.add ((x5_1).toNat*2)).block,(ad282.add ((x5_1).toNat*2)).off+1,none⟩=some (.slice A282_1 ((rd_T60 l1 x5_1).f1).length c282_1)) (ds:=[]) #[F,F,F,F,F,F,F,F,F,F,F,F] (by kernel_rfl) rfl rfl ⟨((HB.out.cell (World.block_lt_of_cell? w _ hw281_0)).trans hw281_0),((HB.out.cell (World.block_lt_of_cell? w _ hw281_1)).trans hw281_1),((HB.out.cell (World.block_lt_of_cell? w _ hw282_0)).trans hw282_0),((HB.out.cell (World.block_lt_of_cell? w _ hw282_1)).trans hw282_1)⟩ (fun hHeld=>?_);refine with_tabW impl_compare.tab4 impl_compare.bits4 (fun HT_ HW_=>?_)
          generalize wc.drew=w19 at HB HR281_1 HR282_1 hx281_0 hx281_1 hx282_0 hx282_1 hHeld ⊢
          refine pq 0 (some 20) HT_.out rfl rfl ?_
          refine pq 1 (some 21) HT_.out rfl rfl ?_
          refine pq 2 (some 22) HT_.out rfl rfl ?_
          refine pq 3 (some 23) HT_.out rfl rfl ?_
          refine pq 5 (some 25) HT_.out rfl rfl ?_
          refine pq 6 (some 26) HT_.out rfl rfl ?_
          refine pq 7 (some 27) HT_.out rfl rfl ?_
          refine pq 8 (some 28) HT_.out rfl rfl ?_
          refine take_ (i:=4) (N:=some 24) (v:=?_) (a':=?_) #[T,T,T,T,T,T,T,T,T,F,F,F] rfl rfl (take_ofW HT_.out HW_.out (by kernel_rfl)) (fun _ _ _ h=>h) (Or.inl ⟨by rfl,?_⟩) hHeld ?_ ?_
          rotate_left;(· rintro w' ⟨s0,s1,s2,s3⟩;go_simp;with_reducible rfl);rotate_left;(· simp only[Act.put,s1,s2,s3,i64_w,i32_w];rfl)
          refine take_ (i:=9) (N:=some 29) (v:=?_) (a':=?_) #[T,T,T,T,T,T,T,T,T,T,F,F] rfl rfl (take_ofW HT_.out HW_.out (by kernel_rfl)) (fun _ _ _ h=>h) (Or.inl ⟨by rfl,?_⟩) hHeld ?_ ?_
          rotate_left;(· rintro w' ⟨s0,s1,s2,s3⟩;go_simp;with_reducible rfl);rotate_left;(· simp only[Act.put,s1,s2,s3,i64_w,i32_w];rfl)
          refine one_ (i:=10) (N:=some 30) #[T,T,T,T,T,T,T,T,T,T,T,F] rfl rfl (one_of HT_.out (by kernel_rfl)) (by decide) (fun K hK=>?_)
          refine goes_ Try.func28 (by kernel_rfl) rfl #[.slice A281_1 ((rd_T60 l0 x5_1).f1).length c281_1,.slice A282_1 ((rd_T60 l1 x5_1).f1).length c282_1] (by rfl) rfl rfl az ?_
          with_reducible refine(ih kj2 (by have:=HK1.out;have:=HJ2.out;omega) _ _ ((rd_T60 l0 x5_1).f1) _ _ ((rd_T60 l1 x5_1).f1) t283 _ ?side1 ?side2 ?side3 ?side4 A9.out).mono ?_
          (case side1=>exact Kd.Cz (Kd.C_below HR281_1.out HB.out))
          (case side2=>exact HC281_1.out)
          (case side3=>exact Kd.Cz (Kd.C_below HR282_1.out HB.out))
          (case side4=>exact HC282_1.out)
          rintro e w20 ⟨rfl,hb⟩
          refine⟨_,rfl,?_⟩
          have n0_:=Sd.mk (below_step bz hb)
          clear HB
          have HB:=n0_
          clear n0_
          (try clear hb)
          (try clear hb2)
          (try clear hk)
          (try clear hi)
          refine hK.out _ _ ⟨((HB.out.cell (World.block_lt_of_cell? w _ hw281_0)).trans hw281_0),((HB.out.cell (World.block_lt_of_cell? w _ hw281_1)).trans hw281_1),((HB.out.cell (World.block_lt_of_cell? w _ hw282_0)).trans hw282_0),((HB.out.cell (World.block_lt_of_cell? w _ hw282_1)).trans hw282_1)⟩ (fun hHeld=>?_)
          clear hK K
          refine norm_ (a':=?_) ?_ ?_
          rotate_left
          ·show Act.put _ (some 30) _=_
           simp only[Act.put,s1,s2,s3,i64_w,i32_w]
           rfl
          refine pq 11 (some 6) HT_.out rfl rfl ?_
          refine done_ (done_of HT_.out (by kernel_rfl)) ?_
          try go_wp2
          go_ret
          exact⟨by first|rfl|(simp[errW_none,errW_some]<;>rfl)|(simp[*,errW_none,errW_some]<;>rfl),bz⟩
        ·rw[if_neg c8] at H
         exact absurd H (by simp)
       ·rw[if_neg c7] at H
        exact absurd H (by simp)
      ·rw[if_neg c6] at H
       exact absurd H (by simp)
     ·replace c5:=Bool.eq_false_iff.mpr c5
      subst c5
      have H1:((cmp_Compare_int.f (l0.length:Int) (l1.length:Int)).bind fun t280=>(some t280))=some r:=by rw[if_neg (show ¬ (false=true) by decide)] at H;exact H
      clear H
      have H:=H1
      clear H1
      replace H:=Option.bind_eq_some_iff.mp H
      obtain⟨t280,A210,H⟩:=H
      replace H:(some t280)=some r:=H
      have A21:=Sd.mk A210
      clear A210
      obtain rfl:=Option.some.inj H
      go_wp2_with (first|((with_reducible refine gate_callee (f:=43) rfl ?_);refine goesL_ (some 52) rfl rfl Try.func43 (by kernel_rfl) rfl #[.int .i64 (l0.length:Int),.int .i64 (l1.length:Int)] rfl az ?_;(with_reducible refine(cmp_Compare_int.calls (l0.length:Int) (l1.length:Int) t280 _ A21.out).mono ?_);rintro e w' ⟨rfl,⟨nd,rfl⟩⟩;refine⟨_,rfl,?_⟩))
      go_ret
      exact⟨by first|rfl|(simp[errW_none,errW_some]<;>rfl)|(simp[*,errW_none,errW_some]<;>rfl),bz⟩
end Go.Proofs.Ytfkecmnklpjelaa.P