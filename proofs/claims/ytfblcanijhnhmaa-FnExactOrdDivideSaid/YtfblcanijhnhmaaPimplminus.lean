/- One Go function comes to what its Lean function tells. -/
import Derived.Test.YtfblcanijhnhmaaP0
import Derived.Test.YtfblcanijhnhmaaPimplcompare
namespace Go.Proofs.Ytfblcanijhnhmaa.P
open Go.RowKit YtfblcanijhnhmaaW.PrintWords YtfblcanijhnhmaaW.PrintLast YtfblcanijhnhmaaW.PrintMore
set_option linter.unusedVariables false
set_option linter.unusedSimpArgs false
/-! ### impl_minus: function 51 -/
def impl_minus.l0:Nat→List (S61)→List (S61)→Int→Int→Option ((List (S61)))
 | 0,_,_,_,_=>none
 | k+1,x0,x1,x7,x8=>if x8<x7 then(if 0≤x8 then(if x8<(x0.length:Int) then(if x8<(x1.length:Int) then((impl_compare.f k ((rd_T61 x0 x8).f1) ((rd_T61 x1 x8).f1)).bind fun t619=>(if t619>0 then(if x8≤(x0.length:Int) then(some (x0.drop (x8:Int).toNat)) else(none)) else(if((rd_T61 x0 x8).f0)>((rd_T61 x1 x8).f0) then((some (([(⟨wrap64 (((rd_T61 x0 x8).f0)-((rd_T61 x1 x8).f0)),(rd_T61 x0 x8).f1⟩:S61)]:List (S61)):List (S61))).bind fun y630=>(if 0≤(wrap64 (x8+1)) then(if(wrap64 (x8+1))≤(x0.length:Int) then((some (x0.drop ((wrap64 (x8+1)):Int).toNat:List (S61))).bind fun y633=>(if y630.length+y633.length<4398046511104 then(some (y630++y633)) else(none))) else(none)) else(none))) else(impl_minus.l0 k x0 x1 x7 (wrap64 (x8+1)))))) else(none)) else(none)) else(none)) else(if 0≤(x1.length:Int) then(if(x1.length:Int)≤(x0.length:Int) then(some (x0.drop ((x1.length:Int):Int).toNat)) else(none)) else(none))
def impl_minus.f (k:Nat)(l0:List (S61))(l1:List (S61)):Option ((List (S61))):=impl_minus.l0 k l0 l1 (l1.length:Int) 0
theorem impl_minus.mono_l:∀ k,(∀ y0 y1 y2 y3,LeO (impl_minus.l0 k y0 y1 y2 y3) (impl_minus.l0 (k+1) y0 y1 y2 y3))
 | 0=>fun _ _ _ _ r h=>by simp[impl_minus.l0] at h
 | k+1=>by
  have ih0:=impl_minus.mono_l k
  ·intro y0 y1 y2 y3
   unfold impl_minus.l0
   repeat' first|(with_reducible first|exact ih0 _ _ _ _|exact impl_compare.mono _ _ _|exact LeO.refl _|exact LeO.none _|refine LeO.ite ?_ ?_|refine LeO.bind ?_ (fun _=>?_))|exact ih0 _ _ _ _|exact impl_compare.mono _ _ _|exact LeO.none _|refine LeO.ite ?_ ?_|refine LeO.bind ?_ (fun _=>?_)
theorem impl_minus.mono:∀ a0 a1 k,LeO (impl_minus.f k a0 a1) (impl_minus.f (k+1) a0 a1):=by
 intro a0 a1 k;have ih0:=impl_minus.mono_l k;unfold impl_minus.f
 repeat' first|(with_reducible first|exact ih0 _ _ _ _|exact LeO.refl _|exact LeO.none _|refine LeO.ite ?_ ?_|refine LeO.bind ?_ (fun _=>?_))|exact ih0 _ _ _ _|exact LeO.none _|refine LeO.ite ?_ ?_|refine LeO.bind ?_ (fun _=>?_)
def impl_minus.T4:Bool × List (List Nat × List Nat):=(true,[([],[]),([],[]),([0,1],[0,1]),([2],[2]),([3],[3]),([],[]),([],[]),([5,6],[5,6]),([7],[7]),([8],[8]),([4,9],[4,9]),([10],[10])])
def impl_minus.B4:List Nat:=[0,0,3,7,15,0,0,96,224,480,1023,2047]
theorem impl_minus.tab4:rtab .any (opsOf Try.f51 4)=impl_minus.T4:=by kernel_rfl
theorem impl_minus.bits4:waitsOk impl_minus.T4.2 impl_minus.B4=true:=by kernel_rfl
def impl_minus.T6:Bool × List (List Nat × List Nat):=(true,[([],[]),([],[]),([0,1],[0,1]),([2],[2]),([3],[3]),([],[]),([],[]),([5,6],[5,6]),([7],[7]),([8],[8]),([4,9],[4,9])])
def impl_minus.B6:List Nat:=[0,0,3,7,15,0,0,96,224,480,1023]
theorem impl_minus.tab6:rtab .any (opsOf Try.f51 6)=impl_minus.T6:=by kernel_rfl
theorem impl_minus.bits6:waitsOk impl_minus.T6.2 impl_minus.B6=true:=by kernel_rfl
def impl_minus.T7:Bool × List (List Nat × List Nat):=(true,[([],[]),([],[]),([0,1],[0,1]),([2],[2]),([3],[3]),([],[]),([],[]),([5,6],[5,6]),([7],[7]),([8],[8]),([4,9],[4,9]),([],[]),([],[]),([11,12],[11,12]),([13],[13]),([14],[14]),([10,15],[10,15]),([16],[16]),([],[]),([],[]),([19],[19]),([18,20],[18,20]),([17,21],[17,21]),([22,22,0,1,2,3,4,5,6,7,8,9,10,11,12,13,14,15,16,17,18,19,20,21,22],[22])])
def impl_minus.B7:List Nat:=[0,0,3,7,15,0,0,96,224,480,1023,0,0,6144,14336,30720,65535,131071,0,0,524288,1835008,4194303,8388607]
theorem impl_minus.tab7:rtab .any (opsOf Try.f51 7)=impl_minus.T7:=by kernel_rfl
theorem impl_minus.bits7:waitsOk impl_minus.T7.2 impl_minus.B7=true:=by kernel_rfl
set_option maxHeartbeats 8000000 in
set_option maxRecDepth 100000 in
theorem impl_minus.calls (k:Nat)(P0_:Nat→Prop)(A0:Option Addr)(c0:Nat)(l0:List (S61))(A1:Option Addr)(c1:Nat)(l1:List (S61))(r:List (S61))(w:World)(hs0:Kd.V k61 61 w w.heap.size (fun k_=>P0_ k_) (.slice A0 l0.length c0) l0)(hr1:Kd.C k61 w A1 l1.length l1)(hc1:l1.length≤c1)(h:impl_minus.f k l0 l1=some r) :
  Calls Try.prog 51 #[.slice A0 l0.length c0,.slice A1 l1.length c1] w fun e w'=>∃ v0_:Value,e=.returned (v0_)∧Kd.V k61 61 w' w.heap.size (fun k_=>(P0_ k_∨w.heap.size≤k_)) v0_ r∧Below w.heap.size w w':=by
 have hu61:=Try.underlying61;have HO0:=Sd.mk (show Kd.V k61 61 w w.heap.size (fun k_=>(P0_ k_∨w.heap.size≤k_)) (.slice A0 l0.length c0) l0 from Kd.V_mono hs0 (fun k_ hk=>.inl hk));have HR1:=Sd.mk hr1;have HC1:=Sd.mk hc1;clear hr1 hc1;have HB:=Sd.mk (Below.refl w.heap.size w);have H:(impl_minus.l0 k l0 l1 (l1.length:Int) 0)=some r:=h;clear h;have H':=Sd.mk H;clear H;go_enter Try.func51,Try.ntmps51;go_wp2
 go_loopg [8] k (fun kq v8 w'=>∃ (x8_1:Int),v8=.int .i64 x8_1∧Sd (impl_minus.l0 kq l0 l1 (l1.length:Int) x8_1=some r)∧Sd (kq≤k)∧Sd (Kd.V k61 61 w' w.heap.size (fun k_=>(P0_ k_∨w.heap.size≤k_)) (.slice A0 l0.length c0) l0)∧Sd (Below w.heap.size w w'))
 case atStart=>exact⟨(0),(by first|rfl|(simp;done)|(simp[*];done)),H',⟨Nat.le_refl _⟩,⟨by(with_reducible repeat (first|apply Kd.V_alloc|apply Kd.V_drewN|apply Kd.V_drew));exact HO0.out⟩,⟨bz⟩⟩
 case round =>
  clear H'
  try clear c1
  try clear p2
  obtain⟨x8_1,rfl,HA,HK1,HO_0,HB⟩:=hrel
  cases gk with
  | zero=>exact absurd HA.out (by simp[impl_minus.l0])
  | succ k1 =>
   have H:=HA.out;clear HA;simp only[impl_minus.l0] at H
   by_cases c3:x8_1<(l1.length:Int)
   ·rw[if_pos c3] at H
    have c3b0:decide (x8_1<(l1.length:Int))=true:=decide_eq_true c3;clear c3
    by_cases c4:0≤x8_1
    ·rw[if_pos c4] at H
     have c4b0:decide (0≤x8_1)=true:=decide_eq_true c4;clear c4
     by_cases c5:x8_1<(l0.length:Int)
     ·rw[if_pos c5] at H
      have c5b0:decide (x8_1<(l0.length:Int))=true:=decide_eq_true c5;clear c5
      by_cases c6:x8_1<(l1.length:Int)
      ·rw[if_pos c6] at H
       have c6b0:decide (x8_1<(l1.length:Int))=true:=decide_eq_true c6;clear c6;replace H:=Option.bind_eq_some_iff.mp H;obtain⟨t619,A70,H⟩:=H;replace H:(if t619>0 then(if x8_1≤(l0.length:Int) then(some (l0.drop (x8_1:Int).toNat)) else(none)) else(if((rd_T61 l0 x8_1).f0)>((rd_T61 l1 x8_1).f0) then((some (([(⟨wrap64 (((rd_T61 l0 x8_1).f0)-((rd_T61 l1 x8_1).f0)),(rd_T61 l0 x8_1).f1⟩:S61)]:List (S61)):List (S61))).bind fun y630=>(if 0≤(wrap64 (x8_1+1)) then(if(wrap64 (x8_1+1))≤(l0.length:Int) then((some (l0.drop ((wrap64 (x8_1+1)):Int).toNat:List (S61))).bind fun y633=>(if y630.length+y633.length<4398046511104 then(some (y630++y633)) else(none))) else(none)) else(none))) else(impl_minus.l0 k1 l0 l1 (l1.length:Int) (wrap64 (x8_1+1)))))=some r:=H;have A7:=Sd.mk A70;clear A70
       by_cases c8:t619>0
       ·rw[if_pos c8] at H
        have c8b0:decide (0<t619)=true:=decide_eq_true c8;clear c8;have c9b0:=eq_true (dz:0≤x8_1)
        by_cases c10:x8_1≤(l0.length:Int)
        ·rw[if_pos c10] at H
         have c10b0:=eq_true c10;have c10b1:decide (x8_1≤(l0.length:Int))=true:=decide_eq_true c10;clear c10;obtain⟨y620,hy620⟩:∃ y_:List (S61),y_=(l0.drop (x8_1:Int).toNat):=⟨_,rfl⟩;replace H:(some y620)=some r:=hz hy620 H;have Ny620:=Sd.mk hy620;clear hy620;obtain rfl:=Option.some.inj H
         try go_wp2
         have n0_:=Sd.mk (Kd.V_drew HO_0.out);have n1_:=Sd.mk (below_drew1 HB.out);clear HO_0;clear HB;have HO_0:=n0_;have HB:=n1_;clear n0_ n1_;have p617:0≤(x8_1:Int):=dz;have q617:x8_1<(l0.length:Int):=dz;obtain⟨ad617,A617_1,c617_1,e617,hx617_0,hx617_1,hl617_1,hi617_1⟩:=at_T61 (Kd.V_reads' HO_0.out).2.2 x8_1 p617 q617;cases e617;obtain⟨ce617,hce617,hMe617,hcc617⟩:=Kd.V_get HO_0.out z61 x8_1 p617 (by first|exact q617|exact dz|(have e_:=(Kd.V_reads' HO_0.out).1;omega));obtain⟨ua617_1,uc617_1,rfl,ul617_1,ge617_1⟩:=k61_openF hMe617;have hv617_1:=hcc617 1 _ rfl;rw[add_field _ _ 1 (by omega)] at hv617_1;replace hv617_1:=Option.some.inj (hv617_1.symm.trans hx617_1)
         injection hv617_1 with hva_ hvn_ hvc_
         rw[hva_] at ge617_1;rw[hvc_] at ul617_1;have HL617_1:=Sd.mk (show Kd.V k61 61 _ w.heap.size _ _ ((rd_T61 l0 x8_1).f1) from Kd.V_mk ul617_1 ge617_1);clear hva_ hvn_ hvc_ ge617_1 ul617_1;clear hcc617 hce617;have HR617_1:=Sd.mk hi617_1;have HC617_1:=Sd.mk hl617_1;clear hi617_1 hl617_1;replace p617:=eq_true p617;replace q617:=eq_true q617;have p618:0≤(x8_1:Int):=dz;have q618:x8_1<(l1.length:Int):=dz;obtain⟨ad618,A618_1,c618_1,e618,hx618_0,hx618_1,hl618_1,hi618_1⟩:=at_T61 HR1.out x8_1 p618 q618;have hw618_1:=hx618_1;have hw618_0:=hx618_0;cases e618;replace hx618_0:=(HB.out.cell (World.block_lt_of_cell? w _ hx618_0)).trans hx618_0;replace hx618_1:=(HB.out.cell (World.block_lt_of_cell? w _ hx618_1)).trans hx618_1;have HR618_1:=Sd.mk hi618_1;have HC618_1:=Sd.mk hl618_1;clear hi618_1 hl618_1;replace p618:=eq_true p618;replace q618:=eq_true q618;refine start_ (n:=12) (S:=fun w'=>w'.cell? (ad617.add ((x8_1).toNat*2))=some (.int .i64 ((rd_T61 l0 x8_1).f0))∧w'.cell? ⟨(ad617.add ((x8_1).toNat*2)).block,(ad617.add ((x8_1).toNat*2)).off+1,none⟩=some (.slice A617_1 ((rd_T61 l0 x8_1).f1).length c617_1)∧w'.cell? (ad618.add ((x8_1).toNat*2))=some (.int .i64 ((rd_T61 l1 x8_1).f0))∧w'.cell? ⟨(ad618.add ((x8_1).toNat*2)).block,(ad618.add ((x8_1).toNat*2)).off+1,none⟩=some (.slice A618_1 ((rd_T61 l1 x8_1).f1).length c618_1)) (ds:=[]) #[F,F,F,F,F,F,F,F,F,F,F,F] (by kernel_rfl) rfl rfl ⟨hx617_0,hx617_1,((HB.out.cell (World.block_lt_of_cell? w _ hw618_0)).trans hw618_0),((HB.out.cell (World.block_lt_of_cell? w _ hw618_1)).trans hw618_1)⟩ (fun hHeld=>?_);refine with_tabW impl_minus.tab4 impl_minus.bits4 (fun HT_ HW_=>?_)
         generalize wr.drew=w11 at HO_0 HB HL617_1 HR617_1 HR618_1 hx617_0 hx617_1 hx618_0 hx618_1 hHeld ⊢
         refine pq 0 (some 11) HT_.out rfl rfl ?_;refine pq 1 (some 12) HT_.out rfl rfl ?_;refine pq 2 (some 13) HT_.out rfl rfl ?_;refine pq 3 (some 14) HT_.out rfl rfl ?_;refine pq 5 (some 16) HT_.out rfl rfl ?_;refine pq 6 (some 17) HT_.out rfl rfl ?_;refine pq 7 (some 18) HT_.out rfl rfl ?_;refine pq 8 (some 19) HT_.out rfl rfl ?_;refine take_ (i:=4) (N:=some 15) (v:=?_) (a':=?_) #[T,T,T,T,T,T,T,T,T,F,F,F] rfl rfl (take_ofW HT_.out HW_.out (by kernel_rfl)) (fun _ _ _ h=>h) (Or.inl ⟨by rfl,?_⟩) hHeld ?_ ?_
         rotate_left;(· rintro w' ⟨s0,s1,s2,s3⟩;go_simp;with_reducible rfl);rotate_left;(· simp only[Act.put,s1,s2,s3,i64_w,i32_w];rfl)
         refine take_ (i:=9) (N:=some 20) (v:=?_) (a':=?_) #[T,T,T,T,T,T,T,T,T,T,F,F] rfl rfl (take_ofW HT_.out HW_.out (by kernel_rfl)) (fun _ _ _ h=>h) (Or.inl ⟨by rfl,?_⟩) hHeld ?_ ?_
         rotate_left;(· rintro w' ⟨s0,s1,s2,s3⟩;go_simp;with_reducible rfl);rotate_left;(· simp only[Act.put,s1,s2,s3,i64_w,i32_w];rfl)
         refine one_ (i:=10) (N:=some 21) #[T,T,T,T,T,T,T,T,T,T,T,F] rfl rfl (one_of HT_.out (by kernel_rfl)) (by decide) (fun K hK=>?_);refine goes_ Try.func50 (by kernel_rfl) rfl #[.slice A617_1 ((rd_T61 l0 x8_1).f1).length c617_1,.slice A618_1 ((rd_T61 l1 x8_1).f1).length c618_1] (by rfl) rfl rfl az ?_
         with_reducible refine(impl_compare.calls k1 _ _ ((rd_T61 l0 x8_1).f1) _ _ ((rd_T61 l1 x8_1).f1) t619 _ ?side1 ?side2 ?side3 ?side4 A7.out).mono ?_
         (case side1=>exact(Kd.Cz HR617_1.out))
         (case side2=>exact HC617_1.out)
         (case side3=>exact Kd.Cz (Kd.C_below HR618_1.out HB.out))
         (case side4=>exact HC618_1.out)
         rintro e w12 ⟨rfl,hb⟩;have HS0_:=(hb.cell (World.block_lt_of_cell? _ _ (hHeld.1))).trans (hHeld.1);have HS1_:=(hb.cell (World.block_lt_of_cell? _ _ (hHeld.2.1))).trans (hHeld.2.1);refine⟨_,rfl,?_⟩;have n0_:=Sd.mk (Kd.V_below (Kd.Vz HO_0.out) hb);have n1_:=Sd.mk (Kd.V_below (Kd.Vz HL617_1.out) hb);have n2_:=Sd.mk (Kd.C_below (Kd.Cz HR617_1.out) hb);have n3_:=Sd.mk (below_step bz hb);clear HO_0;clear HL617_1;clear HR617_1;clear HB;have HO_0:=n0_;have HL617_1:=n1_;have HR617_1:=n2_;have HB:=n3_;clear n0_ n1_ n2_ n3_
         (try clear hb)
         (try clear hb2)
         (try clear hk)
         (try clear hi)
         refine hK.out _ _ ⟨HS0_,HS1_,((HB.out.cell (World.block_lt_of_cell? w _ hw618_0)).trans hw618_0),((HB.out.cell (World.block_lt_of_cell? w _ hw618_1)).trans hw618_1)⟩ (fun hHeld=>?_);clear hK K;refine norm_ (a':=?_) ?_ ?_
         rotate_left
         ·show Act.put _ (some 21) _=_
          simp only[Act.put,s1,s2,s3,i64_w,i32_w]
          rfl
         refine pq 11 (some 22) HT_.out rfl rfl ?_;refine done_ (done_of HT_.out (by kernel_rfl)) ?_;have q13:(x8_1:Int)≤((l0.length:Int):Int):=dz;obtain⟨i013,hi013,_,hsz13,_⟩:=info_parts info61;have hroom13:l0.length≤c0:=(Kd.V_reads' HO_0.out).2.1;have hC13:Kd.F k61 _ _ (some ad617) l0.length l0:=(Kd.V_at (base:=w.heap.size) HO_0.out).2.2;have q013:(0:Int)≤(x8_1:Int):=dz;have hcut13:=cut_from (P:=Try.prog) 46 61 .i64 Try.underlying46 hi013 2 hsz13 (some ad617) l0.length c0 x8_1 q013 q13;have hr13:=Kd.F_cut (m:=(x8_1:Int).toNat) (c:=c0) hC13 (by omega) hroom13;obtain⟨A13,hA13⟩:∃ Aq_,Aq_=(if c0=(x8_1:Int).toNat then(some ad617) else((some ad617):Option Addr).map (·.add ((x8_1:Int).toNat*2))):=⟨_,rfl⟩;obtain⟨c13,hc13⟩:∃ cq_,cq_=c0-(x8_1:Int).toNat:=⟨_,rfl⟩;have hy13:y620.length=l0.length-(x8_1:Int).toNat:=(by rw[Ny620.out,List.length_drop]<;>omega);rw[show (l0).drop (x8_1:Int).toNat=y620 from Ny620.out.symm] at hr13;replace hr13:Kd.F k61 _ _ A13 y620.length y620:=(by rw[hA13];exact hr13);rw[← hy13,← hA13,← hc13] at hcut13;have HO624:=Sd.mk (show Kd.V k61 61 _ w.heap.size _ (.slice A13 y620.length c13) y620 from Kd.V_mk (by rw[hy13,hc13];exact Nat.sub_le_sub_right hroom13 _) hr13);have HC624:=Sd.mk (show y620.length≤c13 from by rw[hy13,hc13];exact Nat.sub_le_sub_right hroom13 _);clear hr13 hC13 hroom13 hi013 hsz13 hc13;have KY13:=Sd.mk hy13;have KA13:=Sd.mk hA13;clear hy13 hA13;replace q13:=eq_true q13
         try go_wp2
         go_ret;exact⟨_,by first|rfl|(simp[errW_none,errW_some]<;>rfl)|(simp[*,errW_none,errW_some]<;>rfl),by(with_reducible repeat (first|apply Kd.V_alloc|apply Kd.V_drewN|apply Kd.V_drew));exact HO624.out,bz⟩
        ·rw[if_neg c10] at H
         exact absurd H (by simp)
       ·rw[if_neg c8] at H
        have c8b0:decide (0<t619)=false:=decide_eq_false c8;clear c8
        by_cases c14:((rd_T61 l0 x8_1).f0)>((rd_T61 l1 x8_1).f0)
        ·rw[if_pos c14] at H
         have c14b0:decide (((rd_T61 l1 x8_1).f0)<((rd_T61 l0 x8_1).f0))=true:=decide_eq_true c14;clear c14;obtain⟨y630,hy630⟩:∃ y_:List (S61),y_=(([(⟨wrap64 (((rd_T61 l0 x8_1).f0)-((rd_T61 l1 x8_1).f0)),(rd_T61 l0 x8_1).f1⟩:S61)]:List (S61))):=⟨_,rfl⟩;replace H:(if 0≤(wrap64 (x8_1+1)) then(if(wrap64 (x8_1+1))≤(l0.length:Int) then((some (l0.drop ((wrap64 (x8_1+1)):Int).toNat:List (S61))).bind fun y633=>(if y630.length+y633.length<4398046511104 then(some (y630++y633)) else(none))) else(none)) else(none))=some r:=hz hy630 H;have Ny630:=Sd.mk hy630;clear hy630;obtain⟨ji15,hji15⟩:∃ j_:Int,(wrap64 (x8_1+1))=j_:=⟨_,rfl⟩
         replace H:(if 0≤(ji15) then(if(ji15)≤(l0.length:Int) then((some (l0.drop ((ji15):Int).toNat:List (S61))).bind fun y633=>(if y630.length+y633.length<4398046511104 then(some (y630++y633)) else(none))) else(none)) else(none))=some r:=by first|(rw[hji15] at H;exact H)|(simp only[hji15] at H ⊢;exact H)
         (try rw[hji15] at A7)
         have hji15w:(IntKind.i64.wrap (x8_1+1))=ji15:=(i64_w _).trans hji15
         by_cases c16:0≤(ji15)
         ·rw[if_pos c16] at H
          have c16b0:=eq_true c16;have c16b1:decide (0≤(ji15))=true:=decide_eq_true c16;clear c16
          by_cases c17:(ji15)≤(l0.length:Int)
          ·rw[if_pos c17] at H
           have c17b0:=eq_true c17;have c17b1:decide ((ji15)≤(l0.length:Int))=true:=decide_eq_true c17;clear c17;obtain⟨y633,hy633⟩:∃ y_:List (S61),y_=(l0.drop ((ji15):Int).toNat):=⟨_,rfl⟩;replace H:(if y630.length+y633.length<4398046511104 then(some (y630++y633)) else(none))=some r:=hz hy633 H;have Ny633:=Sd.mk hy633;clear hy633
           by_cases c18:y630.length+y633.length<4398046511104
           ·rw[if_pos c18] at H
            have LMc18:=Sd.mk c18;clear c18;obtain⟨y638,hy638⟩:∃ y_:List (S61),y_=(y630++y633):=⟨_,rfl⟩;replace H:(some y638)=some r:=hz hy638 H;have Ny638:=Sd.mk hy638;clear hy638;obtain rfl:=Option.some.inj H
            try go_wp2
            have n0_:=Sd.mk (Kd.V_drew HO_0.out);have n1_:=Sd.mk (below_drew1 HB.out);clear HO_0;clear HB;have HO_0:=n0_;have HB:=n1_;clear n0_ n1_;have p617:0≤(x8_1:Int):=dz;have q617:x8_1<(l0.length:Int):=dz;obtain⟨ad617,A617_1,c617_1,e617,hx617_0,hx617_1,hl617_1,hi617_1⟩:=at_T61 (Kd.V_reads' HO_0.out).2.2 x8_1 p617 q617;cases e617;obtain⟨ce617,hce617,hMe617,hcc617⟩:=Kd.V_get HO_0.out z61 x8_1 p617 (by first|exact q617|exact dz|(have e_:=(Kd.V_reads' HO_0.out).1;omega));obtain⟨ua617_1,uc617_1,rfl,ul617_1,ge617_1⟩:=k61_openF hMe617;have hv617_1:=hcc617 1 _ rfl;rw[add_field _ _ 1 (by omega)] at hv617_1;replace hv617_1:=Option.some.inj (hv617_1.symm.trans hx617_1)
            injection hv617_1 with hva_ hvn_ hvc_
            rw[hva_] at ge617_1;rw[hvc_] at ul617_1;have HL617_1:=Sd.mk (show Kd.V k61 61 _ w.heap.size _ _ ((rd_T61 l0 x8_1).f1) from Kd.V_mk ul617_1 ge617_1);clear hva_ hvn_ hvc_ ge617_1 ul617_1;clear hcc617 hce617;have HR617_1:=Sd.mk hi617_1;have HC617_1:=Sd.mk hl617_1;clear hi617_1 hl617_1;replace p617:=eq_true p617;replace q617:=eq_true q617;have p618:0≤(x8_1:Int):=dz;have q618:x8_1<(l1.length:Int):=dz;obtain⟨ad618,A618_1,c618_1,e618,hx618_0,hx618_1,hl618_1,hi618_1⟩:=at_T61 HR1.out x8_1 p618 q618;have hw618_1:=hx618_1;have hw618_0:=hx618_0;cases e618;replace hx618_0:=(HB.out.cell (World.block_lt_of_cell? w _ hx618_0)).trans hx618_0;replace hx618_1:=(HB.out.cell (World.block_lt_of_cell? w _ hx618_1)).trans hx618_1;have HR618_1:=Sd.mk hi618_1;have HC618_1:=Sd.mk hl618_1;clear hi618_1 hl618_1;replace p618:=eq_true p618;replace q618:=eq_true q618;refine start_ (n:=12) (S:=fun w'=>w'.cell? (ad617.add ((x8_1).toNat*2))=some (.int .i64 ((rd_T61 l0 x8_1).f0))∧w'.cell? ⟨(ad617.add ((x8_1).toNat*2)).block,(ad617.add ((x8_1).toNat*2)).off+1,none⟩=some (.slice A617_1 ((rd_T61 l0 x8_1).f1).length c617_1)∧w'.cell? (ad618.add ((x8_1).toNat*2))=some (.int .i64 ((rd_T61 l1 x8_1).f0))∧w'.cell? ⟨(ad618.add ((x8_1).toNat*2)).block,(ad618.add ((x8_1).toNat*2)).off+1,none⟩=some (.slice A618_1 ((rd_T61 l1 x8_1).f1).length c618_1)) (ds:=[]) #[F,F,F,F,F,F,F,F,F,F,F,F] (by kernel_rfl) rfl rfl ⟨hx617_0,hx617_1,((HB.out.cell (World.block_lt_of_cell? w _ hw618_0)).trans hw618_0),((HB.out.cell (World.block_lt_of_cell? w _ hw618_1)).trans hw618_1)⟩ (fun hHeld=>?_);refine with_tabW impl_minus.tab4 impl_minus.bits4 (fun HT_ HW_=>?_)
            generalize wr.drew=w19 at HO_0 HB HL617_1 HR617_1 HR618_1 hx617_0 hx617_1 hx618_0 hx618_1 hHeld ⊢
            refine pq 0 (some 11) HT_.out rfl rfl ?_;refine pq 1 (some 12) HT_.out rfl rfl ?_;refine pq 2 (some 13) HT_.out rfl rfl ?_;refine pq 3 (some 14) HT_.out rfl rfl ?_;refine pq 5 (some 16) HT_.out rfl rfl ?_;refine pq 6 (some 17) HT_.out rfl rfl ?_;refine pq 7 (some 18) HT_.out rfl rfl ?_;refine pq 8 (some 19) HT_.out rfl rfl ?_;refine take_ (i:=4) (N:=some 15) (v:=?_) (a':=?_) #[T,T,T,T,T,T,T,T,T,F,F,F] rfl rfl (take_ofW HT_.out HW_.out (by kernel_rfl)) (fun _ _ _ h=>h) (Or.inl ⟨by rfl,?_⟩) hHeld ?_ ?_
            rotate_left;(· rintro w' ⟨s0,s1,s2,s3⟩;go_simp;with_reducible rfl);rotate_left;(· simp only[Act.put,s1,s2,s3,i64_w,i32_w];rfl)
            refine take_ (i:=9) (N:=some 20) (v:=?_) (a':=?_) #[T,T,T,T,T,T,T,T,T,T,F,F] rfl rfl (take_ofW HT_.out HW_.out (by kernel_rfl)) (fun _ _ _ h=>h) (Or.inl ⟨by rfl,?_⟩) hHeld ?_ ?_
            rotate_left;(· rintro w' ⟨s0,s1,s2,s3⟩;go_simp;with_reducible rfl);rotate_left;(· simp only[Act.put,s1,s2,s3,i64_w,i32_w];rfl)
            refine one_ (i:=10) (N:=some 21) #[T,T,T,T,T,T,T,T,T,T,T,F] rfl rfl (one_of HT_.out (by kernel_rfl)) (by decide) (fun K hK=>?_);refine goes_ Try.func50 (by kernel_rfl) rfl #[.slice A617_1 ((rd_T61 l0 x8_1).f1).length c617_1,.slice A618_1 ((rd_T61 l1 x8_1).f1).length c618_1] (by rfl) rfl rfl az ?_
            with_reducible refine(impl_compare.calls k1 _ _ ((rd_T61 l0 x8_1).f1) _ _ ((rd_T61 l1 x8_1).f1) t619 _ ?side1 ?side2 ?side3 ?side4 A7.out).mono ?_
            (case side1=>exact(Kd.Cz HR617_1.out))
            (case side2=>exact HC617_1.out)
            (case side3=>exact Kd.Cz (Kd.C_below HR618_1.out HB.out))
            (case side4=>exact HC618_1.out)
            rintro e w20 ⟨rfl,hb⟩;have HS0_:=(hb.cell (World.block_lt_of_cell? _ _ (hHeld.1))).trans (hHeld.1);have HS1_:=(hb.cell (World.block_lt_of_cell? _ _ (hHeld.2.1))).trans (hHeld.2.1);refine⟨_,rfl,?_⟩;have n0_:=Sd.mk (Kd.V_below (Kd.Vz HO_0.out) hb);have n1_:=Sd.mk (Kd.V_below (Kd.Vz HL617_1.out) hb);have n2_:=Sd.mk (Kd.C_below (Kd.Cz HR617_1.out) hb);have n3_:=Sd.mk (below_step bz hb);clear HO_0;clear HL617_1;clear HR617_1;clear HB;have HO_0:=n0_;have HL617_1:=n1_;have HR617_1:=n2_;have HB:=n3_;clear n0_ n1_ n2_ n3_
            (try clear hb)
            (try clear hb2)
            (try clear hk)
            (try clear hi)
            refine hK.out _ _ ⟨HS0_,HS1_,((HB.out.cell (World.block_lt_of_cell? w _ hw618_0)).trans hw618_0),((HB.out.cell (World.block_lt_of_cell? w _ hw618_1)).trans hw618_1)⟩ (fun hHeld=>?_);clear hK K;refine norm_ (a':=?_) ?_ ?_
            rotate_left
            ·show Act.put _ (some 21) _=_
             simp only[Act.put,s1,s2,s3,i64_w,i32_w]
             rfl
            refine pq 11 (some 22) HT_.out rfl rfl ?_;refine done_ (done_of HT_.out (by kernel_rfl)) ?_
            try go_wp2
            have n0_:=Sd.mk (Kd.V_drew HO_0.out);have n1_:=Sd.mk (Kd.V_drew HL617_1.out);have n2_:=Sd.mk (Kd.C_drew HR617_1.out);have n3_:=Sd.mk (below_drew1 HB.out);clear HO_0;clear HL617_1;clear HR617_1;clear HB;have HO_0:=n0_;have HL617_1:=n1_;have HR617_1:=n2_;have HB:=n3_;clear n0_ n1_ n2_ n3_;have p625:0≤(x8_1:Int):=dz;have q625:x8_1<(l0.length:Int):=dz;obtain⟨ad625,A625_1,c625_1,e625,hx625_0,hx625_1,hl625_1,hi625_1⟩:=at_T61 (Kd.V_reads' HO_0.out).2.2 x8_1 p625 q625;obtain rfl:ad617=ad625:=(by injection e625);obtain⟨ce625,hce625,hMe625,hcc625⟩:=Kd.V_get HO_0.out z61 x8_1 p625 (by first|exact q625|exact dz|(have e_:=(Kd.V_reads' HO_0.out).1;omega));obtain⟨ua625_1,uc625_1,rfl,ul625_1,ge625_1⟩:=k61_openF hMe625;have hv625_1:=hcc625 1 _ rfl;rw[add_field _ _ 1 (by omega)] at hv625_1;replace hv625_1:=Option.some.inj (hv625_1.symm.trans hx625_1)
            injection hv625_1 with hva_ hvn_ hvc_
            rw[hva_] at ge625_1;rw[hvc_] at ul625_1;have HL625_1:=Sd.mk (show Kd.V k61 61 _ w.heap.size _ _ ((rd_T61 l0 x8_1).f1) from Kd.V_mk ul625_1 ge625_1);clear hva_ hvn_ hvc_ ge625_1 ul625_1;clear hcc625 hce625
            (try (have he_:=Option.some.inj (hx625_1.symm.trans (show _=some (Value.slice A617_1 _ c617_1) from by assumption));injection he_ with ha_ hn_ hc_;clear hn_;subst ha_;subst hc_))
            have HR625_1:=Sd.mk hi625_1;have HC625_1:=Sd.mk hl625_1;clear hi625_1 hl625_1;replace p625:=eq_true p625;replace q625:=eq_true q625;have p626:0≤(x8_1:Int):=dz;have q626:x8_1<(l1.length:Int):=dz;obtain⟨ad626,A626_1,c626_1,e626,hx626_0,hx626_1,hl626_1,hi626_1⟩:=at_T61 HR1.out x8_1 p626 q626;have hw626_1:=hx626_1;have hw626_0:=hx626_0;obtain rfl:ad618=ad626:=(by injection e626);replace hx626_0:=(HB.out.cell (World.block_lt_of_cell? w _ hx626_0)).trans hx626_0;replace hx626_1:=(HB.out.cell (World.block_lt_of_cell? w _ hx626_1)).trans hx626_1
            (try (have he_:=Option.some.inj (hx626_1.symm.trans (show _=some (Value.slice A618_1 _ c618_1) from by assumption));injection he_ with ha_ hn_ hc_;clear hn_;subst ha_;subst hc_))
            have HR626_1:=Sd.mk hi626_1;have HC626_1:=Sd.mk hl626_1;clear hi626_1 hl626_1;replace p626:=eq_true p626;replace q626:=eq_true q626;refine start_ (n:=11) (S:=fun w'=>w'.cell? (ad617.add ((x8_1).toNat*2))=some (.int .i64 ((rd_T61 l0 x8_1).f0))∧w'.cell? ⟨(ad617.add ((x8_1).toNat*2)).block,(ad617.add ((x8_1).toNat*2)).off+1,none⟩=some (.slice A625_1 ((rd_T61 l0 x8_1).f1).length c625_1)∧w'.cell? (ad618.add ((x8_1).toNat*2))=some (.int .i64 ((rd_T61 l1 x8_1).f0))∧w'.cell? ⟨(ad618.add ((x8_1).toNat*2)).block,(ad618.add ((x8_1).toNat*2)).off+1,none⟩=some (.slice A626_1 ((rd_T61 l1 x8_1).f1).length c626_1)) (ds:=[]) #[F,F,F,F,F,F,F,F,F,F,F] (by kernel_rfl) rfl rfl ⟨hx625_0,hx625_1,((HB.out.cell (World.block_lt_of_cell? w _ hw626_0)).trans hw626_0),((HB.out.cell (World.block_lt_of_cell? w _ hw626_1)).trans hw626_1)⟩ (fun hHeld=>?_);refine with_tabW impl_minus.tab6 impl_minus.bits6 (fun HT_ HW_=>?_)
            generalize w20.drew=w21 at HO_0 HL617_1 HR617_1 HB HL625_1 HR625_1 HR626_1 hx625_0 hx625_1 hx626_0 hx626_1 hHeld ⊢
            refine pq 0 (some 26) HT_.out rfl rfl ?_;refine pq 1 (some 27) HT_.out rfl rfl ?_;refine pq 2 (some 28) HT_.out rfl rfl ?_;refine pq 3 (some 29) HT_.out rfl rfl ?_;refine pq 5 (some 31) HT_.out rfl rfl ?_;refine pq 6 (some 32) HT_.out rfl rfl ?_;refine pq 7 (some 33) HT_.out rfl rfl ?_;refine pq 8 (some 34) HT_.out rfl rfl ?_;refine take_ (i:=4) (N:=some 30) (v:=?_) (a':=?_) #[T,T,T,T,T,T,T,T,T,F,F] rfl rfl (take_ofW HT_.out HW_.out (by kernel_rfl)) (fun _ _ _ h=>h) (Or.inl ⟨by rfl,?_⟩) hHeld ?_ ?_
            rotate_left;(· rintro w' ⟨s0,s1,s2,s3⟩;go_simp;with_reducible rfl);rotate_left;(· simp only[Act.put,s1,s2,s3,i64_w,i32_w];rfl)
            refine take_ (i:=9) (N:=some 35) (v:=?_) (a':=?_) #[T,T,T,T,T,T,T,T,T,T,F] rfl rfl (take_ofW HT_.out HW_.out (by kernel_rfl)) (fun _ _ _ h=>h) (Or.inl ⟨by rfl,?_⟩) hHeld ?_ ?_
            rotate_left;(· rintro w' ⟨s0,s1,s2,s3⟩;go_simp;with_reducible rfl);rotate_left;(· simp only[Act.put,s1,s2,s3,i64_w,i32_w];rfl)
            refine pq 10 (some 36) HT_.out rfl rfl ?_;refine done_ (done_of HT_.out (by kernel_rfl)) ?_
            try go_wp2
            have n0_:=Sd.mk (Kd.V_drew HO_0.out);have n1_:=Sd.mk (Kd.V_drew HL617_1.out);have n2_:=Sd.mk (Kd.V_drew HL625_1.out);have n3_:=Sd.mk (Kd.C_drew HR617_1.out);have n4_:=Sd.mk (Kd.C_drew HR625_1.out);have n5_:=Sd.mk (below_drew1 HB.out);clear HO_0;clear HL617_1;clear HL625_1;clear HR617_1;clear HR625_1;clear HB;have HO_0:=n0_;have HL617_1:=n1_;have HL625_1:=n2_;have HR617_1:=n3_;have HR625_1:=n4_;have HB:=n5_;clear n0_ n1_ n2_ n3_ n4_ n5_;have p627:0≤(x8_1:Int):=dz;have q627:x8_1<(l0.length:Int):=dz;obtain⟨ad627,A627_1,c627_1,e627,hx627_0,hx627_1,hl627_1,hi627_1⟩:=at_T61 (Kd.V_reads' HO_0.out).2.2 x8_1 p627 q627;obtain rfl:ad617=ad627:=(by injection e627);obtain⟨ce627,hce627,hMe627,hcc627⟩:=Kd.V_get HO_0.out z61 x8_1 p627 (by first|exact q627|exact dz|(have e_:=(Kd.V_reads' HO_0.out).1;omega));obtain⟨ua627_1,uc627_1,rfl,ul627_1,ge627_1⟩:=k61_openF hMe627;have hv627_1:=hcc627 1 _ rfl;rw[add_field _ _ 1 (by omega)] at hv627_1;replace hv627_1:=Option.some.inj (hv627_1.symm.trans hx627_1)
            injection hv627_1 with hva_ hvn_ hvc_
            rw[hva_] at ge627_1;rw[hvc_] at ul627_1;have HL627_1:=Sd.mk (show Kd.V k61 61 _ w.heap.size _ _ ((rd_T61 l0 x8_1).f1) from Kd.V_mk ul627_1 ge627_1);clear hva_ hvn_ hvc_ ge627_1 ul627_1;clear hcc627 hce627
            (try (have he_:=Option.some.inj (hx627_1.symm.trans (show _=some (Value.slice A625_1 _ c625_1) from by assumption));injection he_ with ha_ hn_ hc_;clear hn_;subst ha_;subst hc_))
            have HR627_1:=Sd.mk hi627_1;have HC627_1:=Sd.mk hl627_1;clear hi627_1 hl627_1;replace p627:=eq_true p627;replace q627:=eq_true q627;have p628:0≤(x8_1:Int):=dz;have q628:x8_1<(l1.length:Int):=dz;obtain⟨ad628,A628_1,c628_1,e628,hx628_0,hx628_1,hl628_1,hi628_1⟩:=at_T61 HR1.out x8_1 p628 q628;have hw628_1:=hx628_1;have hw628_0:=hx628_0;obtain rfl:ad618=ad628:=(by injection e628);replace hx628_0:=(HB.out.cell (World.block_lt_of_cell? w _ hx628_0)).trans hx628_0;replace hx628_1:=(HB.out.cell (World.block_lt_of_cell? w _ hx628_1)).trans hx628_1
            (try (have he_:=Option.some.inj (hx628_1.symm.trans (show _=some (Value.slice A626_1 _ c626_1) from by assumption));injection he_ with ha_ hn_ hc_;clear hn_;subst ha_;subst hc_))
            have HR628_1:=Sd.mk hi628_1;have HC628_1:=Sd.mk hl628_1;clear hi628_1 hl628_1;replace p628:=eq_true p628;replace q628:=eq_true q628;have p629:0≤(x8_1:Int):=dz;have q629:x8_1<(l0.length:Int):=dz;obtain⟨ad629,A629_1,c629_1,e629,hx629_0,hx629_1,hl629_1,hi629_1⟩:=at_T61 (Kd.V_reads' HO_0.out).2.2 x8_1 p629 q629;obtain rfl:ad617=ad629:=(by injection e629);obtain⟨ce629,hce629,hMe629,hcc629⟩:=Kd.V_get HO_0.out z61 x8_1 p629 (by first|exact q629|exact dz|(have e_:=(Kd.V_reads' HO_0.out).1;omega));obtain⟨ua629_1,uc629_1,rfl,ul629_1,ge629_1⟩:=k61_openF hMe629;have hv629_1:=hcc629 1 _ rfl;rw[add_field _ _ 1 (by omega)] at hv629_1;replace hv629_1:=Option.some.inj (hv629_1.symm.trans hx629_1)
            injection hv629_1 with hva_ hvn_ hvc_
            rw[hva_] at ge629_1;rw[hvc_] at ul629_1;have HL629_1:=Sd.mk (show Kd.V k61 61 _ w.heap.size _ _ ((rd_T61 l0 x8_1).f1) from Kd.V_mk ul629_1 ge629_1);clear hva_ hvn_ hvc_ ge629_1 ul629_1;clear hcc629 hce629;have HR629_1:=Sd.mk hi629_1;have HC629_1:=Sd.mk hl629_1;clear hi629_1 hl629_1;replace p629:=eq_true p629;replace q629:=eq_true q629;have ea_:=Option.some.inj (hx627_1.symm.trans hx629_1)
            injection ea_ with ea_ en_ ec_
            subst ea_;subst ec_;clear en_;have q23:((ji15):Int)≤((l0.length:Int):Int):=dz;obtain⟨i023,hi023,_,hsz23,_⟩:=info_parts info61;have hroom23:l0.length≤c0:=(Kd.V_reads' HO_0.out).2.1;have hC23:Kd.F k61 _ _ (some ad617) l0.length l0:=(Kd.V_at (base:=w.heap.size) HO_0.out).2.2;have q023:(0:Int)≤((ji15):Int):=dz;have hcut23:=cut_from (P:=Try.prog) 46 61 .i64 Try.underlying46 hi023 2 hsz23 (some ad617) l0.length c0 (ji15) q023 q23;have hr23:=Kd.F_cut (m:=((ji15):Int).toNat) (c:=c0) hC23 (by omega) hroom23;obtain⟨A23,hA23⟩:∃ Aq_,Aq_=(if c0=((ji15):Int).toNat then(some ad617) else((some ad617):Option Addr).map (·.add (((ji15):Int).toNat*2))):=⟨_,rfl⟩;obtain⟨c23,hc23⟩:∃ cq_,cq_=c0-((ji15):Int).toNat:=⟨_,rfl⟩;have hy23:y633.length=l0.length-((ji15):Int).toNat:=(by rw[Ny633.out,List.length_drop]<;>omega);rw[show (l0).drop ((ji15):Int).toNat=y633 from Ny633.out.symm] at hr23;replace hr23:Kd.F k61 _ _ A23 y633.length y633:=(by rw[hA23];exact hr23);rw[← hy23,← hA23,← hc23] at hcut23;have HO637:=Sd.mk (show Kd.V k61 61 _ w.heap.size _ (.slice A23 y633.length c23) y633 from Kd.V_mk (by rw[hy23,hc23];exact Nat.sub_le_sub_right hroom23 _) hr23);have HC637:=Sd.mk (show y633.length≤c23 from by rw[hy23,hc23];exact Nat.sub_le_sub_right hroom23 _);clear hr23 hC23 hroom23 hi023 hsz23 hc23;have KY23:=Sd.mk hy23;have KA23:=Sd.mk hA23;clear hy23 hA23;replace q23:=eq_true q23;refine start_ (n:=24) (S:=fun w'=>w'.cell? (ad617.add ((x8_1).toNat*2))=some (.int .i64 ((rd_T61 l0 x8_1).f0))∧w'.cell? ⟨(ad617.add ((x8_1).toNat*2)).block,(ad617.add ((x8_1).toNat*2)).off+1,none⟩=some (.slice A627_1 ((rd_T61 l0 x8_1).f1).length c627_1)∧w'.cell? (ad618.add ((x8_1).toNat*2))=some (.int .i64 ((rd_T61 l1 x8_1).f0))∧w'.cell? ⟨(ad618.add ((x8_1).toNat*2)).block,(ad618.add ((x8_1).toNat*2)).off+1,none⟩=some (.slice A628_1 ((rd_T61 l1 x8_1).f1).length c628_1)∧w'.cell? (ad617.add ((x8_1).toNat*2))=some (.int .i64 ((rd_T61 l0 x8_1).f0))∧w'.cell? ⟨(ad617.add ((x8_1).toNat*2)).block,(ad617.add ((x8_1).toNat*2)).off+1,none⟩=some (.slice A627_1 ((rd_T61 l0 x8_1).f1).length c627_1)) (ds:=[22]) #[F,F,F,F,F,F,F,F,F,F,F,F,F,F,F,F,F,F,F,F,F,F,F,F] (by kernel_rfl) rfl rfl ⟨hx627_0,hx627_1,((HB.out.cell (World.block_lt_of_cell? w _ hw628_0)).trans hw628_0),((HB.out.cell (World.block_lt_of_cell? w _ hw628_1)).trans hw628_1),hx629_0,hx629_1⟩ (fun hHeld=>?_);refine with_tabW impl_minus.tab7 impl_minus.bits7 (fun HT_ HW_=>?_)
            generalize w21.drew=w22 at HO_0 HL617_1 HL625_1 HR617_1 HR625_1 HB HL627_1 HL629_1 HO637 HR627_1 HR628_1 HR629_1 hx627_0 hx627_1 hx628_0 hx628_1 hx629_0 hx629_1 hHeld ⊢
            refine pq 0 (some 37) HT_.out rfl rfl ?_;refine pq 1 (some 38) HT_.out rfl rfl ?_;refine pq 2 (some 39) HT_.out rfl rfl ?_;refine pq 3 (some 40) HT_.out rfl rfl ?_;refine pq 5 (some 42) HT_.out rfl rfl ?_;refine pq 6 (some 43) HT_.out rfl rfl ?_;refine pq 7 (some 44) HT_.out rfl rfl ?_;refine pq 8 (some 45) HT_.out rfl rfl ?_;refine pq 11 (some 48) HT_.out rfl rfl ?_;refine pq 12 (some 49) HT_.out rfl rfl ?_;refine pq 13 (some 50) HT_.out rfl rfl ?_;refine pq 14 (some 51) HT_.out rfl rfl ?_;refine pq 18 (some 55) HT_.out rfl rfl ?_;refine pq 19 (some 56) HT_.out rfl rfl ?_;refine pq 20 (some 57) HT_.out rfl rfl ?_;refine pq 21 (some 58) HT_.out rfl rfl ?_;refine take_ (i:=4) (N:=some 41) (v:=?_) (a':=?_) #[T,T,T,T,T,T,T,T,T,F,F,T,T,T,T,F,F,F,T,T,T,T,F,F] rfl rfl (take_ofW HT_.out HW_.out (by kernel_rfl)) (fun _ _ _ h=>h) (Or.inl ⟨by rfl,?_⟩) hHeld ?_ ?_
            rotate_left;(· rintro w' ⟨s0,s1,s2,s3,s4,s5⟩;go_simp;with_reducible rfl);rotate_left;(· simp only[Act.put,s1,s2,s3,i64_w,i32_w];rfl)
            refine take_ (i:=9) (N:=some 46) (v:=?_) (a':=?_) #[T,T,T,T,T,T,T,T,T,T,F,T,T,T,T,F,F,F,T,T,T,T,F,F] rfl rfl (take_ofW HT_.out HW_.out (by kernel_rfl)) (fun _ _ _ h=>h) (Or.inl ⟨by rfl,?_⟩) hHeld ?_ ?_
            rotate_left;(· rintro w' ⟨s0,s1,s2,s3,s4,s5⟩;go_simp;with_reducible rfl);rotate_left;(· simp only[Act.put,s1,s2,s3,i64_w,i32_w];rfl)
            refine pq 10 (some 47) HT_.out rfl rfl ?_;refine take_ (i:=15) (N:=some 52) (v:=?_) (a':=?_) #[T,T,T,T,T,T,T,T,T,T,T,T,T,T,T,T,F,F,T,T,T,T,F,F] rfl rfl (take_ofW HT_.out HW_.out (by kernel_rfl)) (fun _ _ _ h=>h) (Or.inl ⟨by rfl,?_⟩) hHeld ?_ ?_
            rotate_left;(· rintro w' ⟨s0,s1,s2,s3,s4,s5⟩;go_simp;with_reducible rfl);rotate_left;(· simp only[Act.put,s1,s2,s3,i64_w,i32_w];rfl)
            refine pq 16 (some 53) HT_.out rfl rfl ?_;refine one_ (i:=17) (N:=some 54) #[T,T,T,T,T,T,T,T,T,T,T,T,T,T,T,T,T,T,T,T,T,T,F,F] rfl rfl (one_of HT_.out (by kernel_rfl)) (by decide) (fun K hK=>?_);refine Kd.N_lit_step k61 _ 61 ?hg (N':=54) ?hd (xs:=([(⟨wrap64 (((rd_T61 l0 x8_1).f0)-((rd_T61 l1 x8_1).f0)),(rd_T61 l0 x8_1).f1⟩:S61)]:List (S61))) (inner:=[.int .i64 (wrap64 (((rd_T61 l0 x8_1).f0)-((rd_T61 l1 x8_1).f0))),.slice A627_1 ((rd_T61 l0 x8_1).f1).length c627_1]) (ok:=(fun k_=>(P0_ k_∨w.heap.size≤k_))) (okp:=(fun k_=>(P0_ k_∨w.heap.size≤k_))) ?hr ?hp (fun _ hk=>hk) ((show ∀ k_,w22.heap.size≤k_→(fun k_=>(P0_ k_∨w.heap.size≤k_)) k_ from fun k_ hk=>(.inr (Nat.le_trans (below_size bz) hk))) _ (Nat.le_refl _)) (Below.refl _ _) (Nat.le_refl _) (by simp) ?_;(case hd=>rfl);(case hg=>rfl);(case hr=>first|(go_simp;done)|(go_simp;rfl));(case hp=>exact(Reps.c2 (show Kd.FK k61 _ _ (⟨wrap64 (((rd_T61 l0 x8_1).f0)-((rd_T61 l1 x8_1).f0)),(rd_T61 l0 x8_1).f1⟩:S61) [.int .i64 (wrap64 (((rd_T61 l0 x8_1).f0)-((rd_T61 l1 x8_1).f0))),.slice A627_1 ((rd_T61 l0 x8_1).f1).length c627_1] from(k61_mkF _ _ (⟨wrap64 (((rd_T61 l0 x8_1).f0)-((rd_T61 l1 x8_1).f0)),(rd_T61 l0 x8_1).f1⟩:S61) (Kd.V_reads' (Kd.V_mono (ok':=(fun k_=>(P0_ k_∨w.heap.size≤k_))) (HL629_1.out) (fun k_ hk=>hk))).2.1 (Kd.V_F (Kd.V_mono (ok':=(fun k_=>(P0_ k_∨w.heap.size≤k_))) (HL629_1.out) (fun k_ hk=>hk))))) (Reps.none _ _)));intro v631 w24 ho25 hb hg_ hnew_;have HS0_:=(hb.cell (World.block_lt_of_cell? _ _ (hHeld.1))).trans (hHeld.1);have HS1_:=(hb.cell (World.block_lt_of_cell? _ _ (hHeld.2.1))).trans (hHeld.2.1);have HS4_:=(hb.cell (World.block_lt_of_cell? _ _ (hHeld.2.2.2.2.1))).trans (hHeld.2.2.2.2.1);have HS5_:=(hb.cell (World.block_lt_of_cell? _ _ (hHeld.2.2.2.2.2))).trans (hHeld.2.2.2.2.2);clear hg_ hnew_
            (first|rw[← Ny630.out] at ho25|(simp only[Int.reduceToNat] at ho25;rw[← Ny630.out] at ho25))
            have n0_:=Sd.mk (Kd.V_elder' (Kd.Vz HO_0.out) (Kd.N_base ho25) hb);have n1_:=Sd.mk (Kd.V_elder' (Kd.Vz HL617_1.out) (Kd.N_base ho25) hb);have n2_:=Sd.mk (Kd.V_elder' (Kd.Vz HL625_1.out) (Kd.N_base ho25) hb);have n3_:=Sd.mk (Kd.V_elder' (Kd.Vz HL627_1.out) (Kd.N_base ho25) hb);have n4_:=Sd.mk (Kd.V_elder' (Kd.Vz HL629_1.out) (Kd.N_base ho25) hb);have n5_:=Sd.mk (Kd.V_elder' (Kd.Vz HO637.out) (Kd.N_base ho25) hb);have n6_:=Sd.mk (Kd.N_lower ho25 (below_size bz));have n7_:=Sd.mk (Kd.C_below (Kd.Cz HR617_1.out) hb);have n8_:=Sd.mk (Kd.C_below (Kd.Cz HR625_1.out) hb);have n9_:=Sd.mk (Kd.C_below (Kd.Cz HR627_1.out) hb);have n10_:=Sd.mk (Kd.C_below (Kd.Cz HR629_1.out) hb);have n11_:=Sd.mk (below_step bz hb);clear HO_0;clear HL617_1;clear HL625_1;clear HL627_1;clear HL629_1;clear HO637;clear HR617_1;clear HR625_1;clear HR627_1;clear HR629_1;clear HB;have HO_0:=n0_;have HL617_1:=n1_;have HL625_1:=n2_;have HL627_1:=n3_;have HL629_1:=n4_;have HO637:=n5_;have HO632:=n6_;have HR617_1:=n7_;have HR625_1:=n8_;have HR627_1:=n9_;have HR629_1:=n10_;have HB:=n11_;clear n0_ n1_ n2_ n3_ n4_ n5_ n6_ n7_ n8_ n9_ n10_ n11_;clear hb ho25;refine hK.out _ _ ⟨HS0_,HS1_,((HB.out.cell (World.block_lt_of_cell? w _ hw628_0)).trans hw628_0),((HB.out.cell (World.block_lt_of_cell? w _ hw628_1)).trans hw628_1),HS4_,HS5_⟩ (fun hHeld=>?_);clear hK K;refine norm_ (a':=?_) ?_ ?_
            rotate_left
            ·show Act.put _ (some 54) _=_
             simp only[Act.put,s1,s2,s3,i64_w,i32_w]
             rfl
            refine last_ (i:=22) (N:=some 59) #[T,T,T,T,T,T,T,T,T,T,T,T,T,T,T,T,T,T,T,T,T,T,T,F] rfl rfl (one_of HT_.out (by kernel_rfl)) (by decide) (fun K hK=>?_);refine Kd.N_append_rows_step k61 (w0:=w) w.heap.size (by rfl) (.tmp 54) (.tmp 58) 46 61 (.agg #[(.int .i64 0),(.slice none 0 0)]) 32 rfl Try.underlying46 info61 rfl (by decide) (by omega) v631 y630 y633 _ _ _ (fun k_=>(P0_ k_∨w.heap.size≤k_)) (fun k_=>((fun k_=>(P0_ k_∨w.heap.size≤k_))) k_∧some k_≠(v631:Value).ownBlock) rfl rfl ?aO ?aR (fun _ hk=>hk) ?aF ?aB ?aS ?aL ?_
            (case aR=>exact(by skip;exact Kd.V_F (Kd.V_mono (ok':=(fun k_=>((fun k_=>(P0_ k_∨w.heap.size≤k_))) k_∧some k_≠(v631:Value).ownBlock)) (HO637.out) (fun k_ hk=>⟨hk.1,hk.2⟩))))
            (case aB=>exact bz)
            (case aF=>exact(fun k_ hk=>(.inr (Nat.le_trans (below_size bz) hk))))
            (case aO=>exact(Kd.Nz HO632.out))
            (case aS=>exact(below_size bz))
            (case aL=>have:=LMc18.out;omega)
            intro v639 w26 ho hb hg hat;rw[← Ny638.out] at ho;have n0_:=Sd.mk (Kd.V_afterv (ok:=(fun k_=>(P0_ k_∨w.heap.size≤k_))) (Kd.Vz HO_0.out) hg hat);have n1_:=Sd.mk (Kd.V_afterv (ok:=(fun k_=>(P0_ k_∨w.heap.size≤k_))) (Kd.Vz HL617_1.out) hg hat);have n2_:=Sd.mk (Kd.V_afterv (ok:=(fun k_=>(P0_ k_∨w.heap.size≤k_))) (Kd.Vz HL625_1.out) hg hat);have n3_:=Sd.mk (Kd.V_afterv (ok:=(fun k_=>(P0_ k_∨w.heap.size≤k_))) (Kd.Vz HL627_1.out) hg hat);have n4_:=Sd.mk (Kd.V_afterv (ok:=(fun k_=>(P0_ k_∨w.heap.size≤k_))) (Kd.Vz HL629_1.out) hg hat);have n5_:=Sd.mk (Kd.V_afterv (ok:=(fun k_=>(P0_ k_∨w.heap.size≤k_))) (Kd.Vz HO637.out) hg hat);have n6_:=Sd.mk (hb);have n7_:=Sd.mk (ho);clear HO_0;clear HL617_1;clear HL625_1;clear HL627_1;clear HL629_1;clear HO637;clear HB;clear HO632;have HO_0:=n0_;have HL617_1:=n1_;have HL625_1:=n2_;have HL627_1:=n3_;have HL629_1:=n4_;have HO637:=n5_;have HB:=n6_;have HO640:=n7_;clear n0_ n1_ n2_ n3_ n4_ n5_ n6_ n7_;clear ho hb hg hat;refine hK.out _ _ ?_;clear hK K;refine norm_ (a':=?_) ?_ ?_
            rotate_left
            ·show Act.put _ (some 59) _=_
             simp only[Act.put,s1,s2,s3,i64_w,i32_w]
             rfl
            refine pq 23 (some 4) HT_.out rfl rfl ?_;refine done_ (done_of HT_.out (by kernel_rfl)) ?_
            try go_wp2
            go_ret;exact⟨_,by first|rfl|(simp[errW_none,errW_some]<;>rfl)|(simp only[← hji15];first|rfl|(simp[errW_none,errW_some]<;>rfl))|(simp[*,errW_none,errW_some]<;>rfl),Kd.N_V (Kd.Nz HO640.out),bz⟩
           ·rw[if_neg c18] at H
            exact absurd H (by simp)
          ·rw[if_neg c17] at H
           exact absurd H (by simp)
         ·rw[if_neg c16] at H
          exact absurd H (by simp)
        ·rw[if_neg c14] at H
         have c14b0:decide (((rd_T61 l1 x8_1).f0)<((rd_T61 l0 x8_1).f0))=false:=decide_eq_false c14;clear c14;have H':=Sd.mk H;clear H
         try go_wp2
         have n0_:=Sd.mk (Kd.V_drew HO_0.out);have n1_:=Sd.mk (below_drew1 HB.out);clear HO_0;clear HB;have HO_0:=n0_;have HB:=n1_;clear n0_ n1_;have p617:0≤(x8_1:Int):=dz;have q617:x8_1<(l0.length:Int):=dz;obtain⟨ad617,A617_1,c617_1,e617,hx617_0,hx617_1,hl617_1,hi617_1⟩:=at_T61 (Kd.V_reads' HO_0.out).2.2 x8_1 p617 q617;cases e617;obtain⟨ce617,hce617,hMe617,hcc617⟩:=Kd.V_get HO_0.out z61 x8_1 p617 (by first|exact q617|exact dz|(have e_:=(Kd.V_reads' HO_0.out).1;omega));obtain⟨ua617_1,uc617_1,rfl,ul617_1,ge617_1⟩:=k61_openF hMe617;have hv617_1:=hcc617 1 _ rfl;rw[add_field _ _ 1 (by omega)] at hv617_1;replace hv617_1:=Option.some.inj (hv617_1.symm.trans hx617_1)
         injection hv617_1 with hva_ hvn_ hvc_
         rw[hva_] at ge617_1;rw[hvc_] at ul617_1;have HL617_1:=Sd.mk (show Kd.V k61 61 _ w.heap.size _ _ ((rd_T61 l0 x8_1).f1) from Kd.V_mk ul617_1 ge617_1);clear hva_ hvn_ hvc_ ge617_1 ul617_1;clear hcc617 hce617;have HR617_1:=Sd.mk hi617_1;have HC617_1:=Sd.mk hl617_1;clear hi617_1 hl617_1;replace p617:=eq_true p617;replace q617:=eq_true q617;have p618:0≤(x8_1:Int):=dz;have q618:x8_1<(l1.length:Int):=dz;obtain⟨ad618,A618_1,c618_1,e618,hx618_0,hx618_1,hl618_1,hi618_1⟩:=at_T61 HR1.out x8_1 p618 q618;have hw618_1:=hx618_1;have hw618_0:=hx618_0;cases e618;replace hx618_0:=(HB.out.cell (World.block_lt_of_cell? w _ hx618_0)).trans hx618_0;replace hx618_1:=(HB.out.cell (World.block_lt_of_cell? w _ hx618_1)).trans hx618_1;have HR618_1:=Sd.mk hi618_1;have HC618_1:=Sd.mk hl618_1;clear hi618_1 hl618_1;replace p618:=eq_true p618;replace q618:=eq_true q618;refine start_ (n:=12) (S:=fun w'=>w'.cell? (ad617.add ((x8_1).toNat*2))=some (.int .i64 ((rd_T61 l0 x8_1).f0))∧w'.cell? ⟨(ad617.add ((x8_1).toNat*2)).block,(ad617.add ((x8_1).toNat*2)).off+1,none⟩=some (.slice A617_1 ((rd_T61 l0 x8_1).f1).length c617_1)∧w'.cell? (ad618.add ((x8_1).toNat*2))=some (.int .i64 ((rd_T61 l1 x8_1).f0))∧w'.cell? ⟨(ad618.add ((x8_1).toNat*2)).block,(ad618.add ((x8_1).toNat*2)).off+1,none⟩=some (.slice A618_1 ((rd_T61 l1 x8_1).f1).length c618_1)) (ds:=[]) #[F,F,F,F,F,F,F,F,F,F,F,F] (by kernel_rfl) rfl rfl ⟨hx617_0,hx617_1,((HB.out.cell (World.block_lt_of_cell? w _ hw618_0)).trans hw618_0),((HB.out.cell (World.block_lt_of_cell? w _ hw618_1)).trans hw618_1)⟩ (fun hHeld=>?_);refine with_tabW impl_minus.tab4 impl_minus.bits4 (fun HT_ HW_=>?_)
         generalize wr.drew=w27 at HO_0 HB HL617_1 HR617_1 HR618_1 hx617_0 hx617_1 hx618_0 hx618_1 hHeld ⊢
         refine pq 0 (some 11) HT_.out rfl rfl ?_;refine pq 1 (some 12) HT_.out rfl rfl ?_;refine pq 2 (some 13) HT_.out rfl rfl ?_;refine pq 3 (some 14) HT_.out rfl rfl ?_;refine pq 5 (some 16) HT_.out rfl rfl ?_;refine pq 6 (some 17) HT_.out rfl rfl ?_;refine pq 7 (some 18) HT_.out rfl rfl ?_;refine pq 8 (some 19) HT_.out rfl rfl ?_;refine take_ (i:=4) (N:=some 15) (v:=?_) (a':=?_) #[T,T,T,T,T,T,T,T,T,F,F,F] rfl rfl (take_ofW HT_.out HW_.out (by kernel_rfl)) (fun _ _ _ h=>h) (Or.inl ⟨by rfl,?_⟩) hHeld ?_ ?_
         rotate_left;(· rintro w' ⟨s0,s1,s2,s3⟩;go_simp;with_reducible rfl);rotate_left;(· simp only[Act.put,s1,s2,s3,i64_w,i32_w];rfl)
         refine take_ (i:=9) (N:=some 20) (v:=?_) (a':=?_) #[T,T,T,T,T,T,T,T,T,T,F,F] rfl rfl (take_ofW HT_.out HW_.out (by kernel_rfl)) (fun _ _ _ h=>h) (Or.inl ⟨by rfl,?_⟩) hHeld ?_ ?_
         rotate_left;(· rintro w' ⟨s0,s1,s2,s3⟩;go_simp;with_reducible rfl);rotate_left;(· simp only[Act.put,s1,s2,s3,i64_w,i32_w];rfl)
         refine one_ (i:=10) (N:=some 21) #[T,T,T,T,T,T,T,T,T,T,T,F] rfl rfl (one_of HT_.out (by kernel_rfl)) (by decide) (fun K hK=>?_);refine goes_ Try.func50 (by kernel_rfl) rfl #[.slice A617_1 ((rd_T61 l0 x8_1).f1).length c617_1,.slice A618_1 ((rd_T61 l1 x8_1).f1).length c618_1] (by rfl) rfl rfl az ?_
         with_reducible refine(impl_compare.calls k1 _ _ ((rd_T61 l0 x8_1).f1) _ _ ((rd_T61 l1 x8_1).f1) t619 _ ?side1 ?side2 ?side3 ?side4 A7.out).mono ?_
         (case side1=>exact(Kd.Cz HR617_1.out))
         (case side2=>exact HC617_1.out)
         (case side3=>exact Kd.Cz (Kd.C_below HR618_1.out HB.out))
         (case side4=>exact HC618_1.out)
         rintro e w28 ⟨rfl,hb⟩;have HS0_:=(hb.cell (World.block_lt_of_cell? _ _ (hHeld.1))).trans (hHeld.1);have HS1_:=(hb.cell (World.block_lt_of_cell? _ _ (hHeld.2.1))).trans (hHeld.2.1);refine⟨_,rfl,?_⟩;have n0_:=Sd.mk (Kd.V_below (Kd.Vz HO_0.out) hb);have n1_:=Sd.mk (Kd.V_below (Kd.Vz HL617_1.out) hb);have n2_:=Sd.mk (Kd.C_below (Kd.Cz HR617_1.out) hb);have n3_:=Sd.mk (below_step bz hb);clear HO_0;clear HL617_1;clear HR617_1;clear HB;have HO_0:=n0_;have HL617_1:=n1_;have HR617_1:=n2_;have HB:=n3_;clear n0_ n1_ n2_ n3_
         (try clear hb)
         (try clear hb2)
         (try clear hk)
         (try clear hi)
         refine hK.out _ _ ⟨HS0_,HS1_,((HB.out.cell (World.block_lt_of_cell? w _ hw618_0)).trans hw618_0),((HB.out.cell (World.block_lt_of_cell? w _ hw618_1)).trans hw618_1)⟩ (fun hHeld=>?_);clear hK K;refine norm_ (a':=?_) ?_ ?_
         rotate_left
         ·show Act.put _ (some 21) _=_
          simp only[Act.put,s1,s2,s3,i64_w,i32_w]
          rfl
         refine pq 11 (some 22) HT_.out rfl rfl ?_;refine done_ (done_of HT_.out (by kernel_rfl)) ?_
         try go_wp2
         have n0_:=Sd.mk (Kd.V_drew HO_0.out);have n1_:=Sd.mk (Kd.V_drew HL617_1.out);have n2_:=Sd.mk (Kd.C_drew HR617_1.out);have n3_:=Sd.mk (below_drew1 HB.out);clear HO_0;clear HL617_1;clear HR617_1;clear HB;have HO_0:=n0_;have HL617_1:=n1_;have HR617_1:=n2_;have HB:=n3_;clear n0_ n1_ n2_ n3_;have p625:0≤(x8_1:Int):=dz;have q625:x8_1<(l0.length:Int):=dz;obtain⟨ad625,A625_1,c625_1,e625,hx625_0,hx625_1,hl625_1,hi625_1⟩:=at_T61 (Kd.V_reads' HO_0.out).2.2 x8_1 p625 q625;obtain rfl:ad617=ad625:=(by injection e625);obtain⟨ce625,hce625,hMe625,hcc625⟩:=Kd.V_get HO_0.out z61 x8_1 p625 (by first|exact q625|exact dz|(have e_:=(Kd.V_reads' HO_0.out).1;omega));obtain⟨ua625_1,uc625_1,rfl,ul625_1,ge625_1⟩:=k61_openF hMe625;have hv625_1:=hcc625 1 _ rfl;rw[add_field _ _ 1 (by omega)] at hv625_1;replace hv625_1:=Option.some.inj (hv625_1.symm.trans hx625_1)
         injection hv625_1 with hva_ hvn_ hvc_
         rw[hva_] at ge625_1;rw[hvc_] at ul625_1;have HL625_1:=Sd.mk (show Kd.V k61 61 _ w.heap.size _ _ ((rd_T61 l0 x8_1).f1) from Kd.V_mk ul625_1 ge625_1);clear hva_ hvn_ hvc_ ge625_1 ul625_1;clear hcc625 hce625
         (try (have he_:=Option.some.inj (hx625_1.symm.trans (show _=some (Value.slice A617_1 _ c617_1) from by assumption));injection he_ with ha_ hn_ hc_;clear hn_;subst ha_;subst hc_))
         have HR625_1:=Sd.mk hi625_1;have HC625_1:=Sd.mk hl625_1;clear hi625_1 hl625_1;replace p625:=eq_true p625;replace q625:=eq_true q625;have p626:0≤(x8_1:Int):=dz;have q626:x8_1<(l1.length:Int):=dz;obtain⟨ad626,A626_1,c626_1,e626,hx626_0,hx626_1,hl626_1,hi626_1⟩:=at_T61 HR1.out x8_1 p626 q626;have hw626_1:=hx626_1;have hw626_0:=hx626_0;obtain rfl:ad618=ad626:=(by injection e626);replace hx626_0:=(HB.out.cell (World.block_lt_of_cell? w _ hx626_0)).trans hx626_0;replace hx626_1:=(HB.out.cell (World.block_lt_of_cell? w _ hx626_1)).trans hx626_1
         (try (have he_:=Option.some.inj (hx626_1.symm.trans (show _=some (Value.slice A618_1 _ c618_1) from by assumption));injection he_ with ha_ hn_ hc_;clear hn_;subst ha_;subst hc_))
         have HR626_1:=Sd.mk hi626_1;have HC626_1:=Sd.mk hl626_1;clear hi626_1 hl626_1;replace p626:=eq_true p626;replace q626:=eq_true q626;refine start_ (n:=11) (S:=fun w'=>w'.cell? (ad617.add ((x8_1).toNat*2))=some (.int .i64 ((rd_T61 l0 x8_1).f0))∧w'.cell? ⟨(ad617.add ((x8_1).toNat*2)).block,(ad617.add ((x8_1).toNat*2)).off+1,none⟩=some (.slice A625_1 ((rd_T61 l0 x8_1).f1).length c625_1)∧w'.cell? (ad618.add ((x8_1).toNat*2))=some (.int .i64 ((rd_T61 l1 x8_1).f0))∧w'.cell? ⟨(ad618.add ((x8_1).toNat*2)).block,(ad618.add ((x8_1).toNat*2)).off+1,none⟩=some (.slice A626_1 ((rd_T61 l1 x8_1).f1).length c626_1)) (ds:=[]) #[F,F,F,F,F,F,F,F,F,F,F] (by kernel_rfl) rfl rfl ⟨hx625_0,hx625_1,((HB.out.cell (World.block_lt_of_cell? w _ hw626_0)).trans hw626_0),((HB.out.cell (World.block_lt_of_cell? w _ hw626_1)).trans hw626_1)⟩ (fun hHeld=>?_);refine with_tabW impl_minus.tab6 impl_minus.bits6 (fun HT_ HW_=>?_)
         generalize w28.drew=w29 at HO_0 HL617_1 HR617_1 HB HL625_1 HR625_1 HR626_1 hx625_0 hx625_1 hx626_0 hx626_1 hHeld ⊢
         refine pq 0 (some 26) HT_.out rfl rfl ?_;refine pq 1 (some 27) HT_.out rfl rfl ?_;refine pq 2 (some 28) HT_.out rfl rfl ?_;refine pq 3 (some 29) HT_.out rfl rfl ?_;refine pq 5 (some 31) HT_.out rfl rfl ?_;refine pq 6 (some 32) HT_.out rfl rfl ?_;refine pq 7 (some 33) HT_.out rfl rfl ?_;refine pq 8 (some 34) HT_.out rfl rfl ?_;refine take_ (i:=4) (N:=some 30) (v:=?_) (a':=?_) #[T,T,T,T,T,T,T,T,T,F,F] rfl rfl (take_ofW HT_.out HW_.out (by kernel_rfl)) (fun _ _ _ h=>h) (Or.inl ⟨by rfl,?_⟩) hHeld ?_ ?_
         rotate_left;(· rintro w' ⟨s0,s1,s2,s3⟩;go_simp;with_reducible rfl);rotate_left;(· simp only[Act.put,s1,s2,s3,i64_w,i32_w];rfl)
         refine take_ (i:=9) (N:=some 35) (v:=?_) (a':=?_) #[T,T,T,T,T,T,T,T,T,T,F] rfl rfl (take_ofW HT_.out HW_.out (by kernel_rfl)) (fun _ _ _ h=>h) (Or.inl ⟨by rfl,?_⟩) hHeld ?_ ?_
         rotate_left;(· rintro w' ⟨s0,s1,s2,s3⟩;go_simp;with_reducible rfl);rotate_left;(· simp only[Act.put,s1,s2,s3,i64_w,i32_w];rfl)
         refine pq 10 (some 36) HT_.out rfl rfl ?_;refine done_ (done_of HT_.out (by kernel_rfl)) ?_
         try go_wp2
         go_roundg k1
         case measure=>have:=HK1.out;omega
         case rel=>exact⟨(wrap64 (x8_1+1)),(by first|rfl|(simp;done)|(simp[*];done)),H',⟨by have:=HK1.out;omega⟩,⟨by(with_reducible repeat (first|apply Kd.V_alloc|apply Kd.V_drewN|apply Kd.V_drew));exact HO_0.out⟩,⟨bz⟩⟩
      ·rw[if_neg c6] at H
       exact absurd H (by simp)
     ·rw[if_neg c5] at H
      exact absurd H (by simp)
    ·rw[if_neg c4] at H
     exact absurd H (by simp)
   ·rw[if_neg c3] at H
    have c3b0:decide (x8_1<(l1.length:Int))=false:=decide_eq_false c3;clear c3
    by_cases c30:0≤(l1.length:Int)
    ·rw[if_pos c30] at H
     have c30b0:=eq_true c30;have c30b1:decide (0≤(l1.length:Int))=true:=decide_eq_true c30;clear c30
     by_cases c31:(l1.length:Int)≤(l0.length:Int)
     ·rw[if_pos c31] at H
      have c31b0:=eq_true c31;have c31b1:decide ((l1.length:Int)≤(l0.length:Int))=true:=decide_eq_true c31;clear c31;obtain⟨y612,hy612⟩:∃ y_:List (S61),y_=(l0.drop ((l1.length:Int):Int).toNat):=⟨_,rfl⟩;replace H:(some y612)=some r:=hz hy612 H;have Ny612:=Sd.mk hy612;clear hy612;obtain rfl:=Option.some.inj H;have q32:((l1.length:Int):Int)≤((l0.length:Int):Int):=dz;obtain⟨i032,hi032,_,hsz32,_⟩:=info_parts info61;have hroom32:l0.length≤c0:=(Kd.V_reads' HO_0.out).2.1;have hC32:Kd.F k61 _ _ A0 l0.length l0:=(Kd.V_at (base:=w.heap.size) HO_0.out).2.2;have q032:(0:Int)≤((l1.length:Int):Int):=dz;have hcut32:=cut_from (P:=Try.prog) 46 61 .i64 Try.underlying46 hi032 2 hsz32 A0 l0.length c0 (l1.length:Int) q032 q32;have hr32:=Kd.F_cut (m:=((l1.length:Int):Int).toNat) (c:=c0) hC32 (by omega) hroom32;obtain⟨A32,hA32⟩:∃ Aq_,Aq_=(if c0=((l1.length:Int):Int).toNat then A0 else(A0:Option Addr).map (·.add (((l1.length:Int):Int).toNat*2))):=⟨_,rfl⟩;obtain⟨c32,hc32⟩:∃ cq_,cq_=c0-((l1.length:Int):Int).toNat:=⟨_,rfl⟩;have hy32:y612.length=l0.length-((l1.length:Int):Int).toNat:=(by rw[Ny612.out,List.length_drop]<;>omega);rw[show (l0).drop ((l1.length:Int):Int).toNat=y612 from Ny612.out.symm] at hr32;replace hr32:Kd.F k61 _ _ A32 y612.length y612:=(by rw[hA32];exact hr32);rw[← hy32,← hA32,← hc32] at hcut32;have HO616:=Sd.mk (show Kd.V k61 61 _ w.heap.size _ (.slice A32 y612.length c32) y612 from Kd.V_mk (by rw[hy32,hc32];exact Nat.sub_le_sub_right hroom32 _) hr32);have HC616:=Sd.mk (show y612.length≤c32 from by rw[hy32,hc32];exact Nat.sub_le_sub_right hroom32 _);clear hr32 hC32 hroom32 hi032 hsz32 hc32;have KY32:=Sd.mk hy32;have KA32:=Sd.mk hA32;clear hy32 hA32;replace q32:=eq_true q32;go_wp2;go_ret;exact⟨_,by first|rfl|(simp[errW_none,errW_some]<;>rfl)|(simp[*,errW_none,errW_some]<;>rfl),by(with_reducible repeat (first|apply Kd.V_alloc|apply Kd.V_drewN|apply Kd.V_drew));exact HO616.out,bz⟩
     ·rw[if_neg c31] at H
      exact absurd H (by simp)
    ·rw[if_neg c30] at H
     exact absurd H (by simp)
end Go.Proofs.Ytfblcanijhnhmaa.P