/- One Go function comes to what its Lean function tells. -/
import Derived.Test.YtfblcanijhnhmaaP0
namespace Go.Proofs.Ytfblcanijhnhmaa.P
open Go.RowKit YtfblcanijhnhmaaW.PrintWords YtfblcanijhnhmaaW.PrintLast YtfblcanijhnhmaaW.PrintMore
attribute [local go_sem] max2_int min2_int max_two min_two max_three min_three max_four min_four   
set_option linter.unusedVariables false
set_option linter.unusedSimpArgs false
/-! ### impl_most: function 70 -/
mutual
def impl_most.l0:Nat→Int→List (S61)→Int→Int→Option (Int)
 | 0,_,_,_,_=>none
 | k+1,x3,x6,x7,x8=>if x8<x7 then(if 0≤x8 then(if x8<(x6.length:Int) then((impl_most.f k ((rd_T61 x6 x8).f1)).bind fun t603=>(impl_most.l0 k (mx (mx x3 ((rd_T61 x6 x8).f0)) t603) x6 x7 (wrap64 (x8+1)))) else(none)) else(none)) else(some x3)
def impl_most.f:Nat→List (S61)→Option (Int)
 | 0,_=>none
 | k+1,l0=>impl_most.l0 k 0 l0 (l0.length:Int) 0
end
theorem impl_most.mono_l:∀ k,(∀ y0,LeO (impl_most.f k y0) (impl_most.f (k+1) y0))∧(∀ y0 y1 y2 y3,LeO (impl_most.l0 k y0 y1 y2 y3) (impl_most.l0 (k+1) y0 y1 y2 y3))
 | 0=>⟨fun _ r h=>by simp[impl_most.f] at h,fun _ _ _ _ r h=>by simp[impl_most.l0] at h⟩
 | k+1=>by
  obtain⟨ih0,ih1⟩:=impl_most.mono_l k
  refine⟨?_,?_⟩
  ·intro y0
   unfold impl_most.f
   repeat' first|(with_reducible first|exact ih0 _|exact ih1 _ _ _ _|exact LeO.refl _|exact LeO.none _|refine LeO.ite ?_ ?_|refine LeO.bind ?_ (fun _=>?_))|exact ih0 _|exact ih1 _ _ _ _|exact LeO.none _|refine LeO.ite ?_ ?_|refine LeO.bind ?_ (fun _=>?_)
  ·intro y0 y1 y2 y3
   unfold impl_most.l0
   repeat' first|(with_reducible first|exact ih0 _|exact ih1 _ _ _ _|exact LeO.refl _|exact LeO.none _|refine LeO.ite ?_ ?_|refine LeO.bind ?_ (fun _=>?_))|exact ih0 _|exact ih1 _ _ _ _|exact LeO.none _|refine LeO.ite ?_ ?_|refine LeO.bind ?_ (fun _=>?_)
theorem impl_most.mono:∀ a0 k,LeO (impl_most.f k a0) (impl_most.f (k+1) a0):=by
 intro a0 k;obtain⟨ih0,ih1⟩:=impl_most.mono_l k;exact ih0 a0
def impl_most.T5:Bool × List (List Nat × List Nat):=(true,[([],[]),([],[]),([1],[1]),([],[]),([3],[3]),([4],[4]),([0,2,5],[0,2,5]),([6,5,0,1,2,3,4,5,6],[0,6])])
def impl_most.B5:List Nat:=[0,0,2,0,8,24,63,127]
theorem impl_most.tab5:rtab .any (opsOf Try.f70 5)=impl_most.T5:=by kernel_rfl
theorem impl_most.bits5:waitsOk impl_most.T5.2 impl_most.B5=true:=by kernel_rfl
set_option maxHeartbeats 8000000 in
set_option maxRecDepth 100000 in
theorem impl_most.calls (k:Nat):∀ (A0:Option Addr) (c0:Nat) (l0:List (S61)) (r:Int) (w:World) (hr0:Kd.C k61 w A0 l0.length l0) (hc0:l0.length≤c0) (h:impl_most.f k l0=some r),
  Calls Try.prog 70 #[.slice A0 l0.length c0] w fun e w'=>e=.returned (.int .i64 r)∧Below w.heap.size w w':=by
 induction k using Nat.strongRecOn with
 | _ k ih =>
 intro A0 c0 l0 r w hr0 hc0 h
 cases k with
 | zero=>exact absurd h (by simp[impl_most.f])
 | succ k =>
 simp only[impl_most.f] at h;have hu61:=Try.underlying61;have HR0:=Sd.mk hr0;have HC0:=Sd.mk hc0;clear hr0 hc0;have HB:=Sd.mk (Below.refl w.heap.size w);have H:(impl_most.l0 k 0 l0 (l0.length:Int) 0)=some r:=h;clear h;have H':=Sd.mk H;clear H;go_enter Try.func70,Try.ntmps70;go_wp2
 go_loopg [3,8] k (fun kq v3 v8 w'=>∃ (x3_1:Int) (x8_1:Int),v3=.int .i64 x3_1∧v8=.int .i64 x8_1∧Sd (impl_most.l0 kq x3_1 l0 (l0.length:Int) x8_1=some r)∧Sd (kq≤k)∧Sd (Below w.heap.size w w'))
 case atStart=>exact⟨(0),(0),(by first|rfl|(simp;done)|(simp[*];done)),(by first|rfl|(simp;done)|(simp[*];done)),H',⟨Nat.le_refl _⟩,⟨bz⟩⟩
 case round =>
  clear H';obtain⟨x3_1,x8_1,rfl,rfl,HA,HK1,HB⟩:=hrel
  cases gk with
  | zero=>exact absurd HA.out (by simp[impl_most.l0])
  | succ k1 =>
   have H:=HA.out;clear HA;simp only[impl_most.l0] at H
   by_cases c2:x8_1<(l0.length:Int)
   ·rw[if_pos c2] at H
    have c2b0:decide (x8_1<(l0.length:Int))=true:=decide_eq_true c2;clear c2
    by_cases c3:0≤x8_1
    ·rw[if_pos c3] at H
     have c3b0:decide (0≤x8_1)=true:=decide_eq_true c3;clear c3
     by_cases c4:x8_1<(l0.length:Int)
     ·rw[if_pos c4] at H
      have c4b0:decide (x8_1<(l0.length:Int))=true:=decide_eq_true c4;clear c4;replace H:=Option.bind_eq_some_iff.mp H;obtain⟨t603,A50,H⟩:=H;replace H:(impl_most.l0 k1 (mx (mx x3_1 ((rd_T61 l0 x8_1).f0)) t603) l0 (l0.length:Int) (wrap64 (x8_1+1)))=some r:=H;have A5:=Sd.mk A50;clear A50;obtain⟨ji6,hji6⟩:∃ j_:Int,(mx x3_1 ((rd_T61 l0 x8_1).f0))=j_:=⟨_,rfl⟩
      replace H:(impl_most.l0 k1 (mx (ji6) t603) l0 (l0.length:Int) (wrap64 (x8_1+1)))=some r:=by first|(rw[hji6] at H;exact H)|(simp only[hji6] at H ⊢;exact H)
      (try rw[hji6] at A5)
      have hji6_:(if x3_1<((rd_T61 l0 x8_1).f0) then((rd_T61 l0 x8_1).f0) else x3_1)=ji6:=hji6;obtain⟨ji7,hji7⟩:∃ j_:Int,(mx (ji6) t603)=j_:=⟨_,rfl⟩
      replace H:(impl_most.l0 k1 ji7 l0 (l0.length:Int) (wrap64 (x8_1+1)))=some r:=by first|(rw[hji7] at H;exact H)|(simp only[hji7] at H ⊢;exact H)
      (try rw[hji7] at A5)
      have hji7_:(if(ji6)<t603 then t603 else(ji6))=ji7:=hji7;have H':=Sd.mk H;clear H;have p601:0≤(x8_1:Int):=dz;have q601:x8_1<(l0.length:Int):=dz;obtain⟨ad601,A601_1,c601_1,e601,hx601_0,hx601_1,hl601_1,hi601_1⟩:=at_T61 HR0.out x8_1 p601 q601;cases e601;replace hx601_0:=(HB.out.cell (World.block_lt_of_cell? w _ hx601_0)).trans hx601_0;replace hx601_1:=(HB.out.cell (World.block_lt_of_cell? w _ hx601_1)).trans hx601_1;have HR601_1:=Sd.mk hi601_1;have HC601_1:=Sd.mk hl601_1;clear hi601_1 hl601_1;replace p601:=eq_true p601;replace q601:=eq_true q601
      try go_wp2_with (first|((with_reducible refine gate_dst (N:=5) rfl ?_);refine box_event ?hg (N:=5) ?hd (cs:=#[.int .i64 0,.slice none 0 0]) (t:=61) ?hr ?_;(case hd=>rfl);(case hg=>rfl);(case hr=>first|(go_simp;done)|(go_simp;rfl));intro gb602 hg w8 hbox hb;have BK602:=Sd.mk (hbox);have GW602:=Sd.mk ((by rw[hg];exact(below_size bz):w.heap.size≤gb602));have GE602:=Sd.mk ((by rw[hg];exact(below_size bz):w.heap.size≤gb602));replace HB:=Sd.mk (below_step bz hb);clear hb hbox hg;have hcz9_0:w8.cell? ⟨gb602,0,none⟩=some (.int .i64 0):=(blk_cell BK602.out 0).trans rfl;have hcz9_1:w8.cell? ⟨gb602,1,none⟩=some (.slice none 0 0):=(blk_cell BK602.out 1).trans rfl;have hfz9_0:=blk_frozen BK602.out 0;have hfz9_1:=blk_frozen BK602.out 1))
      have n0_:Sd (((w8.setCell ⟨gb602,0,none⟩ (.int .i64 ((rd_T61 l0 x8_1).f0))).setCell ⟨gb602,1,none⟩ (.slice A601_1 ((rd_T61 l0 x8_1).f1).length c601_1)).heap[gb602]?=some (.cells #[.int .i64 ((rd_T61 l0 x8_1).f0),.slice A601_1 ((rd_T61 l0 x8_1).f1).length c601_1] 61 (0,0))):=⟨by(with_reducible repeat (first|refine blk_drewN ?_ _|refine blk_drew ?_|refine blk_alloc ?_ _));refine blk_put (cs:=#[.int .i64 ((rd_T61 l0 x8_1).f0),.slice none 0 0]) ?_ 1 _ rfl;(with_reducible repeat (first|refine blk_drewN ?_ _|refine blk_drew ?_|refine blk_alloc ?_ _));refine blk_put (cs:=#[.int .i64 0,.slice none 0 0]) ?_ 0 _ rfl;(with_reducible repeat (first|refine blk_drewN ?_ _|refine blk_drew ?_|refine blk_alloc ?_ _));exact BK602.out⟩;have n1_:Sd (Below w.heap.size w ((w8.setCell ⟨gb602,0,none⟩ (.int .i64 ((rd_T61 l0 x8_1).f0))).setCell ⟨gb602,1,none⟩ (.slice A601_1 ((rd_T61 l0 x8_1).f1).length c601_1))):=⟨by repeat (first|(with_reducible first|exact HB.out|apply below_alloc|apply pw_below_drewN|apply below_drew1|refine below_set ?_ GE602.out)|exact HB.out)⟩
      (try clear BK602)
      (try clear HB)
      generalize ((w8.setCell ⟨gb602,0,none⟩ (.int .i64 ((rd_T61 l0 x8_1).f0))).setCell ⟨gb602,1,none⟩ (.slice A601_1 ((rd_T61 l0 x8_1).f1).length c601_1))=w10 at n0_ n1_ ⊢
      have BK602:=n0_;have HB:=n1_;clear n0_ n1_;have n0_:=Sd.mk (blk_drew BK602.out);have n1_:=Sd.mk (below_drew1 HB.out);clear BK602;clear HB;have BK602:=n0_;have HB:=n1_;clear n0_ n1_;refine start_ (n:=8) (S:=fun w'=>w'.cell? ⟨gb602,0,none⟩=some (.int .i64 ((rd_T61 l0 x8_1).f0))∧w'.cell? ⟨gb602,1,none⟩=some (.slice A601_1 ((rd_T61 l0 x8_1).f1).length c601_1)) (ds:=[]) #[F,F,F,F,F,F,F,F] (by kernel_rfl) rfl rfl ⟨(blk_cell BK602.out 0).trans rfl,(blk_cell BK602.out 1).trans rfl⟩ (fun hHeld=>?_);refine with_tabW impl_most.tab5 impl_most.bits5 (fun HT_ HW_=>?_)
      generalize w10.drew=w11 at BK602 HB hHeld ⊢
      refine pq 0 (some 12) HT_.out rfl rfl ?_;refine pq 1 (some 13) HT_.out rfl rfl ?_;refine pq 3 (some 15) HT_.out rfl rfl ?_;refine take_ (i:=2) (N:=some 14) (v:=?_) (a':=?_) #[T,T,T,T,F,F,F,F] rfl rfl (take_ofW HT_.out HW_.out (by kernel_rfl)) (fun _ _ _ h=>h) (Or.inl ⟨by rfl,?_⟩) hHeld ?_ ?_
      rotate_left;(· rintro w' ⟨s0,s1⟩;go_simp;with_reducible rfl);rotate_left;(· simp only[Act.put,s1,s2,s3,i64_w,i32_w];rfl)
      refine take_ (i:=4) (N:=some 16) (v:=?_) (a':=?_) #[T,T,T,T,T,F,F,F] rfl rfl (take_ofW HT_.out HW_.out (by kernel_rfl)) (fun _ _ _ h=>h) (Or.inl ⟨by rfl,?_⟩) hHeld ?_ ?_
      rotate_left;(· rintro w' ⟨s0,s1⟩;go_simp;with_reducible rfl);rotate_left;(· simp only[Act.put,s1,s2,s3,i64_w,i32_w];rfl)
      refine one_ (i:=5) (N:=some 17) #[T,T,T,T,T,T,F,F] rfl rfl (one_of HT_.out (by kernel_rfl)) (by decide) (fun K hK=>?_);refine goes_ Try.func70 (by kernel_rfl) rfl #[.slice A601_1 ((rd_T61 l0 x8_1).f1).length c601_1] (by rfl) rfl rfl az ?_
      with_reducible refine(ih k1 (by have:=HK1.out;omega) _ _ ((rd_T61 l0 x8_1).f1) t603 _ ?side1 ?side2 A5.out).mono ?_
      (case side1=>exact Kd.Cz (Kd.C_below HR601_1.out HB.out))
      (case side2=>exact HC601_1.out)
      rintro e w12 ⟨rfl,hb⟩;refine⟨_,rfl,?_⟩;have n0_:=Sd.mk (blk_below (g:=gb602) (o:=.cells #[.int .i64 ((rd_T61 l0 x8_1).f0),.slice A601_1 ((rd_T61 l0 x8_1).f1).length c601_1] 61 (0,0)) (by(with_reducible repeat (first|refine blk_drewN ?_ _|refine blk_drew ?_|refine blk_alloc ?_ _));exact BK602.out) hb);have n1_:=Sd.mk (below_step (by repeat (first|(with_reducible first|exact HB.out|apply below_alloc|apply pw_below_drewN|apply below_drew1|refine below_set ?_ GE602.out)|exact HB.out)) hb);clear BK602;clear HB;have BK602:=n0_;have HB:=n1_;clear n0_ n1_
      (try clear hb)
      (try clear hb2)
      (try clear hk)
      (try clear hi)
      refine hK.out _ _ ⟨(blk_cell BK602.out 0).trans rfl,(blk_cell BK602.out 1).trans rfl⟩ (fun hHeld=>?_);clear hK K;refine norm_ (a':=?_) ?_ ?_
      rotate_left
      ·show Act.put _ (some 17) _=_
       simp only[Act.put,s1,s2,s3,i64_w,i32_w]
       rfl
      refine pq 6 (some 18) HT_.out rfl rfl ?_;refine pq 7 (some 3) HT_.out rfl rfl ?_;refine done_ (done_of HT_.out (by kernel_rfl)) ?_
      try go_wp2
      go_roundg k1
      case measure=>have:=HK1.out;omega
      case rel=>exact⟨(ji7),(wrap64 (x8_1+1)),(by first|rfl|(simp;done)|(simp only[← hji7]<;>(first|rfl|simp))|(simp[*];done)),(by first|rfl|(simp;done)|(simp[*];done)),H',⟨by have:=HK1.out;omega⟩,⟨by repeat (first|(with_reducible first|exact HB.out|apply below_alloc|apply pw_below_drewN|apply below_drew1|refine below_set ?_ GE602.out)|exact HB.out)⟩⟩
     ·rw[if_neg c4] at H
      exact absurd H (by simp)
    ·rw[if_neg c3] at H
     exact absurd H (by simp)
   ·rw[if_neg c2] at H
    have c2b0:decide (x8_1<(l0.length:Int))=false:=decide_eq_false c2;clear c2;obtain rfl:=Option.some.inj H;go_wp2;go_ret;exact⟨by first|rfl|(simp[errW_none,errW_some]<;>rfl)|(simp[*,errW_none,errW_some]<;>rfl),bz⟩
end Go.Proofs.Ytfblcanijhnhmaa.P