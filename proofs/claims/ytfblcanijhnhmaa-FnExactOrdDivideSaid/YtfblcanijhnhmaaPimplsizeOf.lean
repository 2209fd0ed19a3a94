/- One Go function comes to what its Lean function tells. -/
import Derived.Test.YtfblcanijhnhmaaP0
namespace Go.Proofs.Ytfblcanijhnhmaa.P
open Go.RowKit YtfblcanijhnhmaaW.PrintWords YtfblcanijhnhmaaW.PrintLast YtfblcanijhnhmaaW.PrintMore
set_option linter.unusedVariables false
set_option linter.unusedSimpArgs false
/-! ### impl_sizeOf: function 69 -/
mutual
def impl_sizeOf.l0:Nat→Int→List (S61)→Int→Int→Option (Int)
 | 0,_,_,_,_=>none
 | k+1,x3,x6,x7,x8=>if x8<x7 then(if 0≤x8 then(if x8<(x6.length:Int) then((impl_sizeOf.f k ((rd_T61 x6 x8).f1)).bind fun t600=>(impl_sizeOf.l0 k (wrap64 (x3+(wrap64 (1+t600)))) x6 x7 (wrap64 (x8+1)))) else(none)) else(none)) else(some x3)
def impl_sizeOf.f:Nat→List (S61)→Option (Int)
 | 0,_=>none
 | k+1,l0=>impl_sizeOf.l0 k 1 l0 (l0.length:Int) 0
end
theorem impl_sizeOf.mono_l:∀ k,(∀ y0,LeO (impl_sizeOf.f k y0) (impl_sizeOf.f (k+1) y0))∧(∀ y0 y1 y2 y3,LeO (impl_sizeOf.l0 k y0 y1 y2 y3) (impl_sizeOf.l0 (k+1) y0 y1 y2 y3))
 | 0=>⟨fun _ r h=>by simp[impl_sizeOf.f] at h,fun _ _ _ _ r h=>by simp[impl_sizeOf.l0] at h⟩
 | k+1=>by
  obtain⟨ih0,ih1⟩:=impl_sizeOf.mono_l k
  refine⟨?_,?_⟩
  ·intro y0
   unfold impl_sizeOf.f
   repeat' first|(with_reducible first|exact ih0 _|exact ih1 _ _ _ _|exact LeO.refl _|exact LeO.none _|refine LeO.ite ?_ ?_|refine LeO.bind ?_ (fun _=>?_))|exact ih0 _|exact ih1 _ _ _ _|exact LeO.none _|refine LeO.ite ?_ ?_|refine LeO.bind ?_ (fun _=>?_)
  ·intro y0 y1 y2 y3
   unfold impl_sizeOf.l0
   repeat' first|(with_reducible first|exact ih0 _|exact ih1 _ _ _ _|exact LeO.refl _|exact LeO.none _|refine LeO.ite ?_ ?_|refine LeO.bind ?_ (fun _=>?_))|exact ih0 _|exact ih1 _ _ _ _|exact LeO.none _|refine LeO.ite ?_ ?_|refine LeO.bind ?_ (fun _=>?_)
theorem impl_sizeOf.mono:∀ a0 k,LeO (impl_sizeOf.f k a0) (impl_sizeOf.f (k+1) a0):=by
 intro a0 k;obtain⟨ih0,ih1⟩:=impl_sizeOf.mono_l k;exact ih0 a0
set_option maxHeartbeats 8000000 in
set_option maxRecDepth 100000 in
theorem impl_sizeOf.calls (k:Nat):∀ (A0:Option Addr) (c0:Nat) (l0:List (S61)) (r:Int) (w:World) (hr0:Kd.C k61 w A0 l0.length l0) (hc0:l0.length≤c0) (h:impl_sizeOf.f k l0=some r),
  Calls Try.prog 69 #[.slice A0 l0.length c0] w fun e w'=>e=.returned (.int .i64 r)∧Below w.heap.size w w':=by
 induction k using Nat.strongRecOn with
 | _ k ih =>
 intro A0 c0 l0 r w hr0 hc0 h
 cases k with
 | zero=>exact absurd h (by simp[impl_sizeOf.f])
 | succ k =>
 simp only[impl_sizeOf.f] at h;have hu61:=Try.underlying61;have HR0:=Sd.mk hr0;have HC0:=Sd.mk hc0;clear hr0 hc0;have HB:=Sd.mk (Below.refl w.heap.size w);have H:(impl_sizeOf.l0 k 1 l0 (l0.length:Int) 0)=some r:=h;clear h;have H':=Sd.mk H;clear H;go_enter Try.func69,Try.ntmps69;go_wp2
 go_loopg [3,8] k (fun kq v3 v8 w'=>∃ (x3_1:Int) (x8_1:Int),v3=.int .i64 x3_1∧v8=.int .i64 x8_1∧Sd (impl_sizeOf.l0 kq x3_1 l0 (l0.length:Int) x8_1=some r)∧Sd (kq≤k)∧Sd (Below w.heap.size w w'))
 case atStart=>exact⟨(1),(0),(by first|rfl|(simp;done)|(simp[*];done)),(by first|rfl|(simp;done)|(simp[*];done)),H',⟨Nat.le_refl _⟩,⟨bz⟩⟩
 case round =>
  clear H';obtain⟨x3_1,x8_1,rfl,rfl,HA,HK1,HB⟩:=hrel
  cases gk with
  | zero=>exact absurd HA.out (by simp[impl_sizeOf.l0])
  | succ k1 =>
   have H:=HA.out;clear HA;simp only[impl_sizeOf.l0] at H
   by_cases c2:x8_1<(l0.length:Int)
   ·rw[if_pos c2] at H
    have c2b0:decide (x8_1<(l0.length:Int))=true:=decide_eq_true c2;clear c2
    by_cases c3:0≤x8_1
    ·rw[if_pos c3] at H
     have c3b0:decide (0≤x8_1)=true:=decide_eq_true c3;clear c3
     by_cases c4:x8_1<(l0.length:Int)
     ·rw[if_pos c4] at H
      have c4b0:decide (x8_1<(l0.length:Int))=true:=decide_eq_true c4;clear c4;replace H:=Option.bind_eq_some_iff.mp H;obtain⟨t600,A50,H⟩:=H;replace H:(impl_sizeOf.l0 k1 (wrap64 (x3_1+(wrap64 (1+t600)))) l0 (l0.length:Int) (wrap64 (x8_1+1)))=some r:=H;have A5:=Sd.mk A50;clear A50;have H':=Sd.mk H;clear H;have p598:0≤(x8_1:Int):=dz;have q598:x8_1<(l0.length:Int):=dz;obtain⟨ad598,A598_1,c598_1,e598,hx598_0,hx598_1,hl598_1,hi598_1⟩:=at_T61 HR0.out x8_1 p598 q598;cases e598;replace hx598_0:=(HB.out.cell (World.block_lt_of_cell? w _ hx598_0)).trans hx598_0;replace hx598_1:=(HB.out.cell (World.block_lt_of_cell? w _ hx598_1)).trans hx598_1;have HR598_1:=Sd.mk hi598_1;have HC598_1:=Sd.mk hl598_1;clear hi598_1 hl598_1;replace p598:=eq_true p598;replace q598:=eq_true q598;go_wp2_with (first|((with_reducible refine gate_dst (N:=5) rfl ?_);refine box_event ?hg (N:=5) ?hd (cs:=#[.int .i64 0,.slice none 0 0]) (t:=61) ?hr ?_;(case hd=>rfl);(case hg=>rfl);(case hr=>first|(go_simp;done)|(go_simp;rfl));intro gb599 hg w6 hbox hb;have BK599:=Sd.mk (hbox);have GW599:=Sd.mk ((by rw[hg];exact(below_size bz):w.heap.size≤gb599));have GE599:=Sd.mk ((by rw[hg];exact(below_size bz):w.heap.size≤gb599));replace HB:=Sd.mk (below_step bz hb);clear hb hbox hg;have hcz7_0:w6.cell? ⟨gb599,0,none⟩=some (.int .i64 0):=(blk_cell BK599.out 0).trans rfl;have hcz7_1:w6.cell? ⟨gb599,1,none⟩=some (.slice none 0 0):=(blk_cell BK599.out 1).trans rfl;have hfz7_0:=blk_frozen BK599.out 0;have hfz7_1:=blk_frozen BK599.out 1)|((with_reducible refine gate_callee (f:=69) rfl ?_);refine goesL_ (some 15) rfl rfl Try.func69 (by kernel_rfl) rfl #[.slice A598_1 ((rd_T61 l0 x8_1).f1).length c598_1] rfl az ?_;(with_reducible refine(ih k1 (by have:=HK1.out;omega) _ _ ((rd_T61 l0 x8_1).f1) t600 _ ?side1 ?side2 A5.out).mono ?_);(case side1=>exact Kd.C_below HR598_1.out (by repeat (first|(with_reducible first|exact HB.out|apply below_alloc|apply pw_below_drewN|apply below_drew1|refine below_set ?_ GE599.out)|exact HB.out)));(case side2=>exact HC598_1.out);rintro e w8 ⟨rfl,hb⟩;refine⟨_,rfl,?_⟩;replace BK599:=Sd.mk (blk_below (g:=gb599) (o:=.cells #[.int .i64 ((rd_T61 l0 x8_1).f0),.slice A598_1 ((rd_T61 l0 x8_1).f1).length c598_1] 61 (0,0)) (by(with_reducible repeat (first|refine blk_drewN ?_ _|refine blk_drew ?_|refine blk_alloc ?_ _));refine blk_put (cs:=#[.int .i64 ((rd_T61 l0 x8_1).f0),.slice none 0 0]) ?_ 1 _ rfl;(with_reducible repeat (first|refine blk_drewN ?_ _|refine blk_drew ?_|refine blk_alloc ?_ _));refine blk_put (cs:=#[.int .i64 0,.slice none 0 0]) ?_ 0 _ rfl;(with_reducible repeat (first|refine blk_drewN ?_ _|refine blk_drew ?_|refine blk_alloc ?_ _));exact BK599.out) hb);replace HB:=Sd.mk (below_step (by repeat (first|(with_reducible first|exact HB.out|apply below_alloc|apply pw_below_drewN|apply below_drew1|refine below_set ?_ GE599.out)|exact HB.out)) hb);(try clear hb);(try clear hb2);(try clear hk);(try clear hi)))
      go_roundg k1
      case measure=>have:=HK1.out;omega
      case rel=>exact⟨(wrap64 (x3_1+(wrap64 (1+t600)))),(wrap64 (x8_1+1)),(by first|rfl|(simp;done)|(simp[*];done)),(by first|rfl|(simp;done)|(simp[*];done)),H',⟨by have:=HK1.out;omega⟩,⟨by repeat (first|(with_reducible first|exact HB.out|apply below_alloc|apply pw_below_drewN|apply below_drew1|refine below_set ?_ GE599.out)|exact HB.out)⟩⟩
     ·rw[if_neg c4] at H
      exact absurd H (by simp)
    ·rw[if_neg c3] at H
     exact absurd H (by simp)
   ·rw[if_neg c2] at H
    have c2b0:decide (x8_1<(l0.length:Int))=false:=decide_eq_false c2;clear c2;obtain rfl:=Option.some.inj H;go_wp2;go_ret;exact⟨by first|rfl|(simp[errW_none,errW_some]<;>rfl)|(simp[*,errW_none,errW_some]<;>rfl),bz⟩
end Go.Proofs.Ytfblcanijhnhmaa.P