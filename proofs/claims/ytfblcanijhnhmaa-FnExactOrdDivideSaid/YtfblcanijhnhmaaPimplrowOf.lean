/- One Go function comes to what its Lean function tells. -/
import Derived.Test.YtfblcanijhnhmaaP0
namespace Go.Proofs.Ytfblcanijhnhmaa.P
open Go.RowKit YtfblcanijhnhmaaW.PrintWords YtfblcanijhnhmaaW.PrintLast YtfblcanijhnhmaaW.PrintMore
set_option linter.unusedVariables false
set_option linter.unusedSimpArgs false
/-! ### impl_rowOf: function 65 -/
mutual
def impl_rowOf.l0:Nat→List Int→List (S61)→Int→Int→Option (List Int)
 | 0,_,_,_,_=>none
 | k+1,x3,x9,x10,x11=>if x11<x10 then(if 0≤x11 then(if x11<(x9.length:Int) then(if x3.length<17592186044416 then((some (x3++[(rd_T61 x9 x11).f0]:List Int)).bind fun y589=>((impl_rowOf.f k ((rd_T61 x9 x11).f1)).bind fun t592=>(if y589.length+t592.length<17592186044416 then(impl_rowOf.l0 k (y589++t592) x9 x10 (wrap64 (x11+1))) else(none)))) else(none)) else(none)) else(none)) else(some x3)
def impl_rowOf.f:Nat→List (S61)→Option (List Int)
 | 0,_=>none
 | k+1,l0=>impl_rowOf.l0 k (([(l0.length:Int)]:List Int)) l0 (l0.length:Int) 0
end
theorem impl_rowOf.mono_l:∀ k,(∀ y0,LeO (impl_rowOf.f k y0) (impl_rowOf.f (k+1) y0))∧(∀ y0 y1 y2 y3,LeO (impl_rowOf.l0 k y0 y1 y2 y3) (impl_rowOf.l0 (k+1) y0 y1 y2 y3))
 | 0=>⟨fun _ r h=>by simp[impl_rowOf.f] at h,fun _ _ _ _ r h=>by simp[impl_rowOf.l0] at h⟩
 | k+1=>by
  obtain⟨ih0,ih1⟩:=impl_rowOf.mono_l k
  refine⟨?_,?_⟩
  ·intro y0
   unfold impl_rowOf.f
   repeat' first|(with_reducible first|exact ih0 _|exact ih1 _ _ _ _|exact LeO.refl _|exact LeO.none _|refine LeO.ite ?_ ?_|refine LeO.bind ?_ (fun _=>?_))|exact ih0 _|exact ih1 _ _ _ _|exact LeO.none _|refine LeO.ite ?_ ?_|refine LeO.bind ?_ (fun _=>?_)
  ·intro y0 y1 y2 y3
   unfold impl_rowOf.l0
   repeat' first|(with_reducible first|exact ih0 _|exact ih1 _ _ _ _|exact LeO.refl _|exact LeO.none _|refine LeO.ite ?_ ?_|refine LeO.bind ?_ (fun _=>?_))|exact ih0 _|exact ih1 _ _ _ _|exact LeO.none _|refine LeO.ite ?_ ?_|refine LeO.bind ?_ (fun _=>?_)
theorem impl_rowOf.mono:∀ a0 k,LeO (impl_rowOf.f k a0) (impl_rowOf.f (k+1) a0):=by
 intro a0 k;obtain⟨ih0,ih1⟩:=impl_rowOf.mono_l k;exact ih0 a0
set_option maxHeartbeats 8000000 in
set_option maxRecDepth 100000 in
theorem impl_rowOf.calls (k:Nat):∀ (A0:Option Addr) (c0:Nat) (l0:List (S61)) (r:List Int) (w:World) (hr0:Kd.C k61 w A0 l0.length l0) (hc0:l0.length≤c0) (h:impl_rowOf.f k l0=some r),
  Calls Try.prog 65 #[.slice A0 l0.length c0] w fun e w'=>∃ v0_:Value,e=.returned (v0_)∧Kd.R (Kd.int .i64) 3 w' w.heap.size (fun _=>True) v0_ r∧Below w.heap.size w w':=by
 induction k using Nat.strongRecOn with
 | _ k ih =>
 intro A0 c0 l0 r w hr0 hc0 h
 cases k with
 | zero=>exact absurd h (by simp[impl_rowOf.f])
 | succ k =>
 simp only[impl_rowOf.f] at h;have hu61:=Try.underlying61;have HR0:=Sd.mk hr0;have HC0:=Sd.mk hc0;clear hr0 hc0;have HB:=Sd.mk (Below.refl w.heap.size w);have H:(impl_rowOf.l0 k (([(l0.length:Int)]:List Int)) l0 (l0.length:Int) 0)=some r:=h;clear h;obtain⟨y584,hy584⟩:∃ y_:List Int,y_=(([(l0.length:Int)]:List Int)):=⟨_,rfl⟩;replace H:(impl_rowOf.l0 k y584 l0 (l0.length:Int) 0)=some r:=hz hy584 H;have Ny584:=Sd.mk hy584;clear hy584;have H':=Sd.mk H;clear H;go_enter Try.func65,Try.ntmps65;go_wp2_with (first|((with_reducible refine gate_dst (N:=8) rfl ?_);refine Kd.R_lit (Kd.int .i64) _ 3 ?hg (N:=8) ?hd (xs:=([(l0.length:Int)]:List Int)) (inner:=[.int .i64 (l0.length:Int)]) (ok:=fun _=>True) (okp:=fun _=>True) ?hr ?hp (fun _ hk=>hk) trivial (Below.refl _ _) (Nat.le_refl _) (by simp) ?_;(case hd=>rfl);(case hg=>rfl);(case hr=>first|(go_simp;done)|(go_simp;rfl));(case hp=>exact(Reps.one (show Kd.M (Kd.int .i64) _ _ _ (l0.length:Int) [.int .i64 (l0.length:Int)] from rfl) (Reps.none _ _)));intro v585 w2 ho3 hb hg_ hnew_;clear hg_ hnew_;(first|rw[← Ny584.out] at ho3|(simp only[Int.reduceToNat] at ho3;rw[← Ny584.out] at ho3));have HO586:=Sd.mk (Kd.R_lower ho3 (below_size bz));replace HB:=Sd.mk (below_step bz hb);clear hb ho3))
 go_loopg [3,11] k (fun kq v3 v11 w'=>∃ (x3_1:List Int) (x11_1:Int),v11=.int .i64 x11_1∧Sd (impl_rowOf.l0 kq x3_1 l0 (l0.length:Int) x11_1=some r)∧Sd (kq≤k)∧Sd (Kd.R (Kd.int .i64) 3 w' w.heap.size (fun _=>True) v3 x3_1)∧Sd (Below w.heap.size w w'))
 case atStart=>exact⟨(y584),(0),(by first|rfl|(simp;done)|(simp[*];done)),H',⟨Nat.le_refl _⟩,⟨by(with_reducible repeat (first|apply Kd.R_alloc|apply Kd.R_drewN|apply Kd.R_drew));exact HO586.out⟩,⟨bz⟩⟩
 case round =>
  clear H'
  try clear p2
  obtain⟨x3_1,x11_1,rfl,HA,HK1,HO_3,HB⟩:=hrel
  cases gk with
  | zero=>exact absurd HA.out (by simp[impl_rowOf.l0])
  | succ k1 =>
   have H:=HA.out;clear HA;simp only[impl_rowOf.l0] at H
   by_cases c4:x11_1<(l0.length:Int)
   ·rw[if_pos c4] at H
    have c4b0:decide (x11_1<(l0.length:Int))=true:=decide_eq_true c4;clear c4
    by_cases c5:0≤x11_1
    ·rw[if_pos c5] at H
     have c5b0:decide (0≤x11_1)=true:=decide_eq_true c5;clear c5
     by_cases c6:x11_1<(l0.length:Int)
     ·rw[if_pos c6] at H
      have c6b0:decide (x11_1<(l0.length:Int))=true:=decide_eq_true c6;clear c6
      by_cases c7:x3_1.length<17592186044416
      ·rw[if_pos c7] at H
       have LMc7:=Sd.mk c7;clear c7;obtain⟨y589,hy589⟩:∃ y_:List Int,y_=(x3_1++[(rd_T61 l0 x11_1).f0]):=⟨_,rfl⟩;replace H:((impl_rowOf.f k1 ((rd_T61 l0 x11_1).f1)).bind fun t592=>(if y589.length+t592.length<17592186044416 then(impl_rowOf.l0 k1 (y589++t592) l0 (l0.length:Int) (wrap64 (x11_1+1))) else(none)))=some r:=hz hy589 H;have Ny589:=Sd.mk hy589;clear hy589;replace H:=Option.bind_eq_some_iff.mp H;obtain⟨t592,A80,H⟩:=H;replace H:(if y589.length+t592.length<17592186044416 then(impl_rowOf.l0 k1 (y589++t592) l0 (l0.length:Int) (wrap64 (x11_1+1))) else(none))=some r:=H;have A8:=Sd.mk A80;clear A80
       by_cases c9:y589.length+t592.length<17592186044416
       ·rw[if_pos c9] at H
        have LMc9:=Sd.mk c9;clear c9;obtain⟨y595,hy595⟩:∃ y_:List Int,y_=(y589++t592):=⟨_,rfl⟩;replace H:(impl_rowOf.l0 k1 y595 l0 (l0.length:Int) (wrap64 (x11_1+1)))=some r:=hz hy595 H;have Ny595:=Sd.mk hy595;clear hy595;have H':=Sd.mk H;clear H;have p587:0≤(x11_1:Int):=dz;have q587:x11_1<(l0.length:Int):=dz;obtain⟨ad587,A587_1,c587_1,e587,hx587_0,hx587_1,hl587_1,hi587_1⟩:=at_T61 HR0.out x11_1 p587 q587;cases e587;replace hx587_0:=(HB.out.cell (World.block_lt_of_cell? w _ hx587_0)).trans hx587_0;replace hx587_1:=(HB.out.cell (World.block_lt_of_cell? w _ hx587_1)).trans hx587_1;have HR587_1:=Sd.mk hi587_1;have HC587_1:=Sd.mk hl587_1;clear hi587_1 hl587_1;replace p587:=eq_true p587;replace q587:=eq_true q587;go_wp2_with (first|((with_reducible refine gate_dst (N:=5) rfl ?_);refine box_event ?hg (N:=5) ?hd (cs:=#[.int .i64 0,.slice none 0 0]) (t:=61) ?hr ?_;(case hd=>rfl);(case hg=>rfl);(case hr=>first|(go_simp;done)|(go_simp;rfl));intro gb588 hg w10 hbox hb;replace HO_3:=Sd.mk (Kd.R_below (Kd.Rz HO_3.out) hb);have BK588:=Sd.mk (hbox);have GW588:=Sd.mk ((by rw[hg];exact(below_size bz):w.heap.size≤gb588));have GE588:=Sd.mk ((by rw[hg];exact(below_size bz):w.heap.size≤gb588));replace HB:=Sd.mk (below_step bz hb);clear hb hbox hg;have hcz11_0:w10.cell? ⟨gb588,0,none⟩=some (.int .i64 0):=(blk_cell BK588.out 0).trans rfl;have hcz11_1:w10.cell? ⟨gb588,1,none⟩=some (.slice none 0 0):=(blk_cell BK588.out 1).trans rfl;have hfz11_0:=blk_frozen BK588.out 0;have hfz11_1:=blk_frozen BK588.out 1)|((with_reducible refine gate_builtin (b:=.append) (xs:=#[.tmp 15,.tmp 18]) rfl ?_);at_builtin;refine Kd.R_append (Kd.int .i64) (w0:=w) w.heap.size rfl (.tmp 15) (.tmp 18) 22 3 (.int .i64 0) 8 rfl Try.underlying22 info3 rfl (by decide) (by omega) u3 x3_1 ((rd_T61 l0 x11_1).f0) [.int .i64 ((rd_T61 l0 x11_1).f0)] (fun _=>True) (fun _=>False) rfl (by first|(go_simp;done)|(go_simp;rfl)) ?aP (fun _ hk=>hk.elim) ?aF ?aO ?aB ?aS ?aL ?_;(case aP=>exact rfl);(case aB=>exact(by repeat (first|(with_reducible first|exact HB.out|apply below_alloc|apply pw_below_drewN|apply below_drew1|refine below_set ?_ GE588.out)|exact HB.out)));(case aF=>exact(fun _ _=>trivial));(case aO=>exact(Kd.Rz <| Kd.R_mono (Kd.R_far (p:=⟨gb588,1,none⟩) (Kd.R_far (p:=⟨gb588,0,none⟩) (Kd.R_types HO_3.out BK588.out (by decide)) (fun _ hk=>hk.2) (.int .i64 ((rd_T61 l0 x11_1).f0))) (fun _ hk=>hk.2) (.slice A587_1 ((rd_T61 l0 x11_1).f1).length c587_1)) (fun _ hk=>trivial)));(case aS=>exact(below_size (by repeat (first|(with_reducible first|exact HB.out|apply below_alloc|apply pw_below_drewN|apply below_drew1|refine below_set ?_ GE588.out)|exact HB.out))));(case aL=>have:=LMc7.out;omega);intro v590 w12 ho hb hg hat;rw[← Ny589.out] at ho;replace BK588:=Sd.mk (blk_grown (g:=gb588) (o:=.cells #[.int .i64 ((rd_T61 l0 x11_1).f0),.slice A587_1 ((rd_T61 l0 x11_1).f1).length c587_1] 61 (0,0)) (by(with_reducible repeat (first|refine blk_drewN ?_ _|refine blk_drew ?_|refine blk_alloc ?_ _));refine blk_put (cs:=#[.int .i64 ((rd_T61 l0 x11_1).f0),.slice none 0 0]) ?_ 1 _ rfl;(with_reducible repeat (first|refine blk_drewN ?_ _|refine blk_drew ?_|refine blk_alloc ?_ _));refine blk_put (cs:=#[.int .i64 0,.slice none 0 0]) ?_ 0 _ rfl;(with_reducible repeat (first|refine blk_drewN ?_ _|refine blk_drew ?_|refine blk_alloc ?_ _));exact BK588.out) hg (Kd.R_ne HO_3.out BK588.out (by decide)));replace HB:=Sd.mk (hb);have HO591:=Sd.mk (ho);clear HO_3;clear ho hb hg hat;have hcz13_0:w12.cell? ⟨gb588,0,none⟩=some (.int .i64 ((rd_T61 l0 x11_1).f0)):=(blk_cell BK588.out 0).trans rfl;have hcz13_1:w12.cell? ⟨gb588,1,none⟩=some (.slice A587_1 ((rd_T61 l0 x11_1).f1).length c587_1):=(blk_cell BK588.out 1).trans rfl;have hfz13_0:=blk_frozen BK588.out 0;have hfz13_1:=blk_frozen BK588.out 1)|((with_reducible refine gate_callee (f:=65) rfl ?_);refine goesL_ (some 23) rfl rfl Try.func65 (by kernel_rfl) rfl #[.slice A587_1 ((rd_T61 l0 x11_1).f1).length c587_1] rfl az ?_;(with_reducible refine(ih k1 (by have:=HK1.out;omega) _ _ ((rd_T61 l0 x11_1).f1) t592 _ ?side1 ?side2 A8.out).mono ?_);(case side1=>exact Kd.Cz (Kd.C_below HR587_1.out HB.out));(case side2=>exact HC587_1.out);rintro e w14 ⟨v593,rfl,ho0,hb⟩;refine⟨_,rfl,?_⟩;have HO594:=Sd.mk (Kd.R_lower (Kd.R_new' ho0 (Kd.R_lt (Kd.Rz HO591.out))) (below_size (by repeat (first|(with_reducible first|exact HB.out|apply below_alloc|apply pw_below_drewN|apply below_drew1|refine below_set ?_ GE588.out)|exact HB.out))));replace HO591:=Sd.mk (Kd.R_elder' (Kd.Rz HO591.out) (Kd.R_base ho0) hb);replace BK588:=Sd.mk (blk_below (g:=gb588) (o:=.cells #[.int .i64 ((rd_T61 l0 x11_1).f0),.slice A587_1 ((rd_T61 l0 x11_1).f1).length c587_1] 61 (0,0)) (by(with_reducible repeat (first|refine blk_drewN ?_ _|refine blk_drew ?_|refine blk_alloc ?_ _));exact BK588.out) hb);replace HB:=Sd.mk (below_step (by repeat (first|(with_reducible first|exact HB.out|apply below_alloc|apply pw_below_drewN|apply below_drew1|refine below_set ?_ GE588.out)|exact HB.out)) hb);(try clear hb);(try clear hb2);(try clear hk);(try clear hi);(try clear ho0);obtain⟨Ao16,co16,eo16⟩:=Kd.R_slice HO594.out;subst eo16)|((with_reducible refine gate_builtin (b:=.append) (xs:=#[.tmp 20,.tmp 23]) rfl ?_);at_builtin;refine Kd.R_append_rows (Kd.int .i64) (w0:=w) w.heap.size rfl (.tmp 20) (.tmp 23) 22 3 (.int .i64 0) 8 rfl Try.underlying22 info3 rfl (by decide) (by omega) v590 y589 t592 _ _ _ (fun k_=>some k_≠(.slice Ao16 t592.length co16:Value).ownBlock) (fun _=>False) rfl rfl ?aO ?aR (fun _ _ h=>h) (fun _ h=>h.elim) ?aF ?aB ?aS ?aL ?_;(case aR=>repeat (first|exact(Kd.R_reads' HO594.out).2.2|(with_reducible refine Kd.C_alloc ?_ _)|(with_reducible refine Kd.C_drewN ?_ _)|(with_reducible refine Kd.C_drew ?_)));(case aB=>exact(by repeat (first|(with_reducible first|exact HB.out|apply below_alloc|apply pw_below_drewN|apply below_drew1|refine below_set ?_ GE588.out)|exact HB.out)));(case aF=>exact(fun k_ hk=>Kd.fresh' (Kd.R_lt (Kd.Rz HO594.out)) k_ hk));(case aO=>exact(Kd.Rz <| Kd.R_mono HO591.out (fun _ hk=>hk.2)));(case aS=>exact(below_size (by repeat (first|(with_reducible first|exact HB.out|apply below_alloc|apply pw_below_drewN|apply below_drew1|refine below_set ?_ GE588.out)|exact HB.out))));(case aL=>have:=LMc9.out;omega);intro v596 w15 ho hb hg hat;rw[← Ny595.out] at ho;replace BK588:=Sd.mk (blk_grown (g:=gb588) (o:=.cells #[.int .i64 ((rd_T61 l0 x11_1).f0),.slice A587_1 ((rd_T61 l0 x11_1).f1).length c587_1] 61 (0,0)) (by(with_reducible repeat (first|refine blk_drewN ?_ _|refine blk_drew ?_|refine blk_alloc ?_ _));exact BK588.out) hg (Kd.R_ne HO591.out BK588.out (by decide)));replace HO594:=Sd.mk (Kd.R_after (ok:=(fun _=>True)) (Kd.Rz HO594.out) hg hat);replace HB:=Sd.mk (hb);have HO597:=Sd.mk (ho);clear HO591;clear ho hb hg hat))
        go_roundg k1
        case measure=>have:=HK1.out;omega
        case rel=>exact⟨(y595),(wrap64 (x11_1+1)),(by first|rfl|(simp;done)|(simp[*];done)),H',⟨by have:=HK1.out;omega⟩,⟨Kd.Rz <| Kd.R_mono HO597.out (fun _ hk=>trivial)⟩,⟨by repeat (first|(with_reducible first|exact HB.out|apply below_alloc|apply pw_below_drewN|apply below_drew1|refine below_set ?_ GE588.out)|exact HB.out)⟩⟩
       ·rw[if_neg c9] at H
        exact absurd H (by simp)
      ·rw[if_neg c7] at H
       exact absurd H (by simp)
     ·rw[if_neg c6] at H
      exact absurd H (by simp)
    ·rw[if_neg c5] at H
     exact absurd H (by simp)
   ·rw[if_neg c4] at H
    have c4b0:decide (x11_1<(l0.length:Int))=false:=decide_eq_false c4;clear c4;obtain rfl:=Option.some.inj H;go_wp2;go_ret;exact⟨_,by first|rfl|(simp[errW_none,errW_some]<;>rfl)|(simp[*,errW_none,errW_some]<;>rfl),by(with_reducible repeat (first|apply Kd.R_alloc|apply Kd.R_drewN|apply Kd.R_drew));exact HO_3.out,bz⟩
end Go.Proofs.Ytfblcanijhnhmaa.P