/- One Go function comes to what its Lean function tells. -/
import Derived.Test.YtbdbldhpglponaaDoorP0
namespace Go.Proofs.YtbdbldhpglponaaDoor.P
open Go.RowKit YtbdbldhpglponaaDoorW.PrintWords YtbdbldhpglponaaDoorW.PrintLast YtbdbldhpglponaaDoorW.PrintMore
set_option linter.unusedVariables false
set_option linter.unusedSimpArgs false
/-! ### impl_rowOf: function 23 -/
mutual
def impl_rowOf.l0:Nat→List Int→List (S57)→Int→Int→Option (List Int)
 | 0,_,_,_,_=>none
 | k+1,x3,x9,x10,x11=>if x11<x10 then(if 0≤x11 then(if x11<(x9.length:Int) then(if x3.length<17592186044416 then((some (x3++[(rd_T57 x9 x11).f0]:List Int)).bind fun y474=>((impl_rowOf.f k ((rd_T57 x9 x11).f1)).bind fun t477=>(if y474.length+t477.length<17592186044416 then(impl_rowOf.l0 k (y474++t477) x9 x10 (wrap64 (x11+1))) else(none)))) else(none)) else(none)) else(none)) else(some x3)
def impl_rowOf.f:Nat→List (S57)→Option (List Int)
 | 0,_=>none
 | k+1,l0=>impl_rowOf.l0 k (([(l0.length:Int)]:List Int)) l0 (l0.length:Int) 0
end
set_option maxHeartbeats 8000000 in
set_option maxRecDepth 100000 in
theorem impl_rowOf.calls (k:Nat):∀ (A0:Option Addr) (c0:Nat) (l0:List (S57)) (r:List Int) (w:World) (al:Kd.C k57 w A0 l0.length l0) (am:l0.length≤c0) (h:impl_rowOf.f k l0=some r),
  Calls Tryd.prog 23 #[.slice A0 l0.length c0] w fun e w'=>∃ aw:Value,e=.returned (aw)∧Kd.R (Kd.int .i64) 3 w' w.heap.size (fun _=>True) aw r∧Below w.heap.size w w':=by
 induction k using Nat.strongRecOn with
 | _ k ih =>
 intro A0 c0 l0 r w al am h
 cases k with
 | zero=>exact absurd h (by simp[impl_rowOf.f])
 | succ k =>
 simp only[impl_rowOf.f] at h;have bq:=Tryd.underlying57;have bl:=Sd.mk al;have b2:=Sd.mk am;clear al am;have HB:=Sd.mk (Below.refl w.heap.size w);have H:(impl_rowOf.l0 k (([(l0.length:Int)]:List Int)) l0 (l0.length:Int) 0)=some r:=h;clear h;obtain⟨an,ac⟩:∃ y_:List Int,y_=(([(l0.length:Int)]:List Int)):=⟨_,rfl⟩;replace H:(impl_rowOf.l0 k an l0 (l0.length:Int) 0)=some r:=hz ac H;have ai:=Sd.mk ac;clear ac;have H':=Sd.mk H;clear H;go_enter Tryd.func23,Tryd.ntmps23;go_wp2_with (first|((with_reducible refine gate_dst (N:=8) rfl ?_);refine Kd.R_lit (Kd.int .i64) _ 3 ?hg (N:=8) ?hd (xs:=([(l0.length:Int)]:List Int)) (inner:=[.int .i64 (l0.length:Int)]) (ok:=fun _=>True) (okp:=fun _=>True) ?hr ?hp (fun _ hk=>hk) trivial (Below.refl _ _) (Nat.le_refl _) (by simp) ?_;(case hd=>rfl);(case hg=>rfl);(case hr=>first|(go_simp;done)|(go_simp;rfl));(case hp=>exact(Reps.one (show Kd.M (Kd.int .i64) _ _ _ (l0.length:Int) [.int .i64 (l0.length:Int)] from rfl) (Reps.none _ _)));intro br w2 af hb bm hnew_;clear bm hnew_;(first|rw[← ai.out] at af|(simp only[Int.reduceToNat] at af;rw[← ai.out] at af));have aq:=Sd.mk (Kd.R_lower af (below_size bz));replace HB:=Sd.mk (below_step bz hb);clear hb af))
 go_loopg [3,11] k (fun kq v3 bn w'=>∃ (O:List Int) (j:Int),bn=.int .i64 j∧Sd (impl_rowOf.l0 kq O l0 (l0.length:Int) j=some r)∧Sd (kq≤k)∧Sd (Kd.R (Kd.int .i64) 3 w' w.heap.size (fun _=>True) v3 O)∧Sd (Below w.heap.size w w'))
 case atStart=>exact⟨(an),(0),(by first|rfl|(simp;done)|(simp[*];done)),H',⟨Nat.le_refl _⟩,⟨Kd.Rz aq.out⟩,⟨bz⟩⟩
 case round =>
  clear H';obtain⟨O,j,rfl,HA,ao,U,HB⟩:=hrel
  cases gk with
  | zero=>exact absurd HA.out (by simp[impl_rowOf.l0])
  | succ k1 =>
   have H:=HA.out;clear HA;simp only[impl_rowOf.l0] at H
   by_cases c4:j<(l0.length:Int)
   ·rw[if_pos c4] at H
    have a4:decide (j<(l0.length:Int))=true:=decide_eq_true c4;clear c4
    by_cases c5:0≤j
    ·rw[if_pos c5] at H
     have bv:decide (0≤j)=true:=decide_eq_true c5;clear c5
     by_cases c6:j<(l0.length:Int)
     ·rw[if_pos c6] at H
      have bw:decide (j<(l0.length:Int))=true:=decide_eq_true c6;clear c6
      by_cases c7:O.length<17592186044416
      ·rw[if_pos c7] at H
       have a5:=Sd.mk c7;clear c7;obtain⟨Z,ad⟩:∃ y_:List Int,y_=(O++[(rd_T57 l0 j).f0]):=⟨_,rfl⟩;replace H:((impl_rowOf.f k1 ((rd_T57 l0 j).f1)).bind fun I=>(if Z.length+I.length<17592186044416 then(impl_rowOf.l0 k1 (Z++I) l0 (l0.length:Int) (wrap64 (j+1))) else(none)))=some r:=hz ad H;have ar:=Sd.mk ad;clear ad;obtain⟨I,A8,H⟩:=bs H
       by_cases c9:Z.length+I.length<17592186044416
       ·rw[if_pos c9] at H
        have a6:=Sd.mk c9;clear c9;obtain⟨ap,ae⟩:∃ y_:List Int,y_=(Z++I):=⟨_,rfl⟩;replace H:(impl_rowOf.l0 k1 ap l0 (l0.length:Int) (wrap64 (j+1)))=some r:=hz ae H;have au:=Sd.mk ae;clear ae;have H':=Sd.mk H;clear H;have ag:0≤(j:Int):=dz;have ah:j<(l0.length:Int):=dz;obtain⟨bo,D,E,a7,X,Y,aa,ab⟩:=at_T57 bl.out j ag ah;cases a7;replace X:=(HB.out.cell (World.block_lt_of_cell? w _ X)).trans X;replace Y:=(HB.out.cell (World.block_lt_of_cell? w _ Y)).trans Y;have aj:=Sd.mk ab;have ak:=Sd.mk aa;clear ab aa;replace ag:=eq_true ag;replace ah:=eq_true ah;go_wp2_with (first|((with_reducible refine gate_dst (N:=5) rfl ?_);refine box_event ?hg (N:=5) ?hd (cs:=#[.int .i64 0,.slice none 0 0]) (t:=57) ?hr ?_;(case hd=>rfl);(case hg=>rfl);(case hr=>first|(go_simp;done)|(go_simp;rfl));intro z hg ax hbox hb;replace U:=Sd.mk (Kd.R_below (Kd.Rz U.out) hb);have m:=Sd.mk (hbox);have bp:=Sd.mk ((by rw[hg];exact(below_size bz):w.heap.size≤z));have G:=Sd.mk ((by rw[hg];exact(below_size bz):w.heap.size≤z));replace HB:=Sd.mk (below_step bz hb);clear hb hbox hg;have bc:ax.cell? ⟨z,0,none⟩=some (.int .i64 0):=(blk_cell m.out 0).trans rfl;have bd:ax.cell? ⟨z,1,none⟩=some (.slice none 0 0):=(blk_cell m.out 1).trans rfl;have be:=blk_frozen m.out 0;have bf:=blk_frozen m.out 1)|((with_reducible refine gate_builtin (b:=.append) (xs:=#[.tmp 15,.tmp 18]) rfl ?_);at_builtin;refine Kd.R_append (Kd.int .i64) (w0:=w) w.heap.size rfl (.tmp 15) (.tmp 18) 22 3 (.int .i64 0) 8 rfl Tryd.underlying22 info3 rfl (by decide) (by omega) u3 O ((rd_T57 l0 j).f0) [.int .i64 ((rd_T57 l0 j).f0)] (fun _=>True) (fun _=>False) rfl (by first|(go_simp;done)|(go_simp;rfl)) ?aP (fun _ hk=>hk.elim) ?aF ?aO ?aB ?aS ?aL ?_;(case aP=>exact rfl);(case aB=>exact(by repeat (first|(with_reducible first|exact HB.out|apply below_alloc|apply pw_below_drewN|apply below_drew1|refine below_set ?_ G.out)|exact HB.out)));(case aF=>exact(fun _ _=>trivial));(case aO=>exact(Kd.Rz <| Kd.R_mono (Kd.R_far (p:=⟨z,1,none⟩) (Kd.R_far (p:=⟨z,0,none⟩) (Kd.R_types U.out m.out (by decide)) (fun _ hk=>hk.2) (.int .i64 ((rd_T57 l0 j).f0))) (fun _ hk=>hk.2) (.slice D ((rd_T57 l0 j).f1).length E)) (fun _ hk=>trivial)));(case aS=>exact(below_size (by repeat (first|(with_reducible first|exact HB.out|apply below_alloc|apply pw_below_drewN|apply below_drew1|refine below_set ?_ G.out)|exact HB.out))));(case aL=>have:=a5.out;omega);intro a8 ay ho hb hg hat;rw[← ar.out] at ho;replace m:=Sd.mk (blk_grown (g:=z) (o:=.cells #[.int .i64 ((rd_T57 l0 j).f0),.slice D ((rd_T57 l0 j).f1).length E] 57 (0,0)) (by(with_reducible repeat (first|refine blk_drewN ?_ _|refine blk_drew ?_|refine blk_alloc ?_ _));refine blk_put (cs:=#[.int .i64 ((rd_T57 l0 j).f0),.slice none 0 0]) ?_ 1 _ rfl;(with_reducible repeat (first|refine blk_drewN ?_ _|refine blk_drew ?_|refine blk_alloc ?_ _));refine blk_put (cs:=#[.int .i64 0,.slice none 0 0]) ?_ 0 _ rfl;(with_reducible repeat (first|refine blk_drewN ?_ _|refine blk_drew ?_|refine blk_alloc ?_ _));exact m.out) hg (Kd.R_ne U.out m.out (by decide)));replace HB:=Sd.mk (hb);have J:=Sd.mk (ho);clear U;clear ho hb hg hat;have bg:ay.cell? ⟨z,0,none⟩=some (.int .i64 ((rd_T57 l0 j).f0)):=(blk_cell m.out 0).trans rfl;have bh:ay.cell? ⟨z,1,none⟩=some (.slice D ((rd_T57 l0 j).f1).length E):=(blk_cell m.out 1).trans rfl;have bj:=blk_frozen m.out 0;have bk:=blk_frozen m.out 1)|((with_reducible refine gate_callee (f:=23) rfl ?_);refine goesL_ (some 23) rfl rfl Tryd.func23 (by kernel_rfl) rfl #[.slice D ((rd_T57 l0 j).f1).length E] rfl az ?_;(with_reducible refine(ih k1 (by have:=ao.out;omega) _ _ ((rd_T57 l0 j).f1) I _ ?side1 ?side2 A8.out).mono ?_);(case side1=>exact Kd.Cz (Kd.C_below aj.out HB.out));(case side2=>exact ak.out);rintro e b3 ⟨b0,rfl,a0,hb⟩;refine⟨_,rfl,?_⟩;have L:=Sd.mk (Kd.R_lower (Kd.R_new' a0 (Kd.R_lt (Kd.Rz J.out))) (below_size (by repeat (first|(with_reducible first|exact HB.out|apply below_alloc|apply pw_below_drewN|apply below_drew1|refine below_set ?_ G.out)|exact HB.out))));replace J:=Sd.mk (Kd.R_elder' (Kd.Rz J.out) (Kd.R_base a0) hb);replace m:=Sd.mk (blk_below (g:=z) (o:=.cells #[.int .i64 ((rd_T57 l0 j).f0),.slice D ((rd_T57 l0 j).f1).length E] 57 (0,0)) (by(with_reducible repeat (first|refine blk_drewN ?_ _|refine blk_drew ?_|refine blk_alloc ?_ _));exact m.out) hb);replace HB:=Sd.mk (below_step (by repeat (first|(with_reducible first|exact HB.out|apply below_alloc|apply pw_below_drewN|apply below_drew1|refine below_set ?_ G.out)|exact HB.out)) hb);obtain⟨a9,ba,bb⟩:=Kd.R_slice L.out;subst bb)|((with_reducible refine gate_builtin (b:=.append) (xs:=#[.tmp 20,.tmp 23]) rfl ?_);at_builtin;refine Kd.R_append_rows (Kd.int .i64) (w0:=w) w.heap.size rfl (.tmp 20) (.tmp 23) 22 3 (.int .i64 0) 8 rfl Tryd.underlying22 info3 rfl (by decide) (by omega) a8 Z I _ _ _ (fun k_=>some k_≠(.slice a9 I.length ba:Value).ownBlock) (fun _=>False) rfl rfl ?aO ?aR (fun _ _ h=>h) (fun _ h=>h.elim) ?aF ?aB ?aS ?aL ?_;(case aR=>repeat (first|exact(Kd.R_reads' L.out).2.2|(with_reducible refine Kd.C_alloc ?_ _)|(with_reducible refine Kd.C_drewN ?_ _)|(with_reducible refine Kd.C_drew ?_)));(case aB=>exact(by repeat (first|(with_reducible first|exact HB.out|apply below_alloc|apply pw_below_drewN|apply below_drew1|refine below_set ?_ G.out)|exact HB.out)));(case aF=>exact(fun k_ hk=>Kd.fresh' (Kd.R_lt (Kd.Rz L.out)) k_ hk));(case aO=>exact(Kd.Rz <| Kd.R_mono J.out (fun _ hk=>hk.2)));(case aS=>exact(below_size (by repeat (first|(with_reducible first|exact HB.out|apply below_alloc|apply pw_below_drewN|apply below_drew1|refine below_set ?_ G.out)|exact HB.out))));(case aL=>have:=a6.out;omega);intro b1 b4 ho hb hg hat;rw[← au.out] at ho;replace m:=Sd.mk (blk_grown (g:=z) (o:=.cells #[.int .i64 ((rd_T57 l0 j).f0),.slice D ((rd_T57 l0 j).f1).length E] 57 (0,0)) (by(with_reducible repeat (first|refine blk_drewN ?_ _|refine blk_drew ?_|refine blk_alloc ?_ _));exact m.out) hg (Kd.R_ne J.out m.out (by decide)));replace L:=Sd.mk (Kd.R_after (ok:=(fun _=>True)) (Kd.Rz L.out) hg hat);replace HB:=Sd.mk (hb);have av:=Sd.mk (ho);clear J;clear ho hb hg hat))
        go_roundg k1
        case measure=>have:=ao.out;omega
        case rel=>exact⟨(ap),(wrap64 (j+1)),(by first|rfl|(simp;done)|(simp[*];done)),H',⟨by have:=ao.out;omega⟩,⟨Kd.Rz <| Kd.R_mono av.out (fun _ hk=>trivial)⟩,⟨by repeat (first|(with_reducible first|exact HB.out|apply below_alloc|apply pw_below_drewN|apply below_drew1|refine below_set ?_ G.out)|exact HB.out)⟩⟩
       ·rw[if_neg c9] at H
        exact absurd H (by simp)
      ·rw[if_neg c7] at H
       exact absurd H (by simp)
     ·rw[if_neg c6] at H
      exact absurd H (by simp)
    ·rw[if_neg c5] at H
     exact absurd H (by simp)
   ·rw[if_neg c4] at H
    have a4:decide (j<(l0.length:Int))=false:=decide_eq_false c4;clear c4;obtain rfl:=Option.some.inj H;go_wp2;go_ret;exact⟨_,by first|rfl|(simp[errW_none,errW_some]<;>rfl)|(simp[*,errW_none,errW_some]<;>rfl),by(with_reducible repeat (first|apply Kd.R_alloc|apply Kd.R_drewN|apply Kd.R_drew));exact U.out,bz⟩
end Go.Proofs.YtbdbldhpglponaaDoor.P