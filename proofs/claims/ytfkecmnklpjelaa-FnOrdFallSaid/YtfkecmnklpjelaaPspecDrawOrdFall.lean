/- One Go function comes to what its Lean function tells. -/
import Derived.Test.YtfkecmnklpjelaaP0
import Derived.Test.YtfkecmnklpjelaaPspecl20Open
import Derived.Test.YtfkecmnklpjelaaPspecl20Ord
import Derived.Test.YtfkecmnklpjelaaPspecl20Rdpick
namespace Go.Proofs.Ytfkecmnklpjelaa.P
open Go.RowKit YtfkecmnklpjelaaW.PrintWords YtfkecmnklpjelaaW.PrintLast YtfkecmnklpjelaaW.PrintMore
set_option linter.unusedVariables false
set_option linter.unusedSimpArgs false
/-! ### spec_DrawOrdFall: function 13 -/
def spec_DrawOrdFall.l0:Nat→List Int→Int→List Int→Int→Option (List Int × List Int)
 | 0,_,_,_,_=>none
 | k+1,x5,x6,x577000,x577001=>if x6>0 then((spec_l20Rd_pick.f k x577000 x577001 5).bind fun bt582=>((spec_l20Rd_pick.f k x577000 bt582.2 60).bind fun bt584=>(if x5.length<17592186044416 then(spec_DrawOrdFall.l0 k (x5++[wrap64 (bt582.1-(wrap64 ((wrap64 (Int.tdiv bt584.1 59))*6)))]) (wrap64 (x6-1)) x577000 bt584.2) else(none)))) else((spec_l20Ord.f k x577000 x577001 9).bind fun bt589=>(some (bt589.1,x5)))
def spec_DrawOrdFall.f (k:Nat)(l0:List Int):Option (List Int × List Int):=(spec_l20Open.f l0).bind fun bt574=>((spec_l20Rd_pick.f k bt574.1 bt574.2 14).bind fun bt580=>(spec_DrawOrdFall.l0 k (([]:List Int)) bt580.1 bt574.1 bt580.2))
theorem spec_DrawOrdFall.mono_l:∀ k,(∀ y0 y1 y2 y3,LeO (spec_DrawOrdFall.l0 k y0 y1 y2 y3) (spec_DrawOrdFall.l0 (k+1) y0 y1 y2 y3))
 | 0=>fun _ _ _ _ r h=>by simp[spec_DrawOrdFall.l0] at h
 | k+1=>by
  have ih0:=spec_DrawOrdFall.mono_l k
  ·intro y0 y1 y2 y3
   unfold spec_DrawOrdFall.l0
   repeat' first|(with_reducible first|exact ih0 _ _ _ _|exact spec_l20Ord.mono _ _ _ _|exact spec_l20Rd_pick.mono _ _ _ _|exact LeO.refl _|exact LeO.none _|refine LeO.ite ?_ ?_|refine LeO.bind ?_ (fun _=>?_))|exact ih0 _ _ _ _|exact spec_l20Ord.mono _ _ _ _|exact spec_l20Rd_pick.mono _ _ _ _|exact LeO.none _|refine LeO.ite ?_ ?_|refine LeO.bind ?_ (fun _=>?_)
theorem spec_DrawOrdFall.mono:∀ a0 k,LeO (spec_DrawOrdFall.f k a0) (spec_DrawOrdFall.f (k+1) a0):=by
 intro a0 k
 have ih0:=spec_DrawOrdFall.mono_l k
 unfold spec_DrawOrdFall.f
 repeat' first|(with_reducible first|exact ih0 _ _ _ _|exact spec_l20Rd_pick.mono _ _ _ _|exact LeO.refl _|exact LeO.none _|refine LeO.ite ?_ ?_|refine LeO.bind ?_ (fun _=>?_))|exact ih0 _ _ _ _|exact spec_l20Rd_pick.mono _ _ _ _|exact LeO.none _|refine LeO.ite ?_ ?_|refine LeO.bind ?_ (fun _=>?_)
set_option maxHeartbeats 8000000 in
set_option maxRecDepth 100000 in
theorem spec_DrawOrdFall.calls (k:Nat)(A0:Option Addr)(c0:Nat)(l0:List Int)(r1:List Int)(r2:List Int)(w:World)(hr0:Kd.C (Kd.int .u8) w A0 l0.length l0)(hc0:l0.length≤c0)(h:spec_DrawOrdFall.f k l0=some (r1,r2)) :
  Calls Try.prog 13 #[.slice A0 l0.length c0] w fun e w'=>∃ v0_ v1_:Value,e=.returned (.tuple #[v0_,v1_])∧Kd.R (Kd.int .i64) 3 w' w.heap.size (fun k_=>some k_≠(v1_:Value).ownBlock) v0_ r1∧Kd.R (Kd.int .i64) 3 w' w.heap.size (fun k_=>some k_≠(v0_:Value).ownBlock) v1_ r2∧Below w.heap.size w w':=by
 have HR0:=Aside0.mk hr0
 have HC0:=Aside0.mk hc0
 clear hr0 hc0
 have HB:=Aside0.mk (Below.refl w.heap.size w)
 have H:((spec_l20Open.f l0).bind fun bt574=>((spec_l20Rd_pick.f k bt574.1 bt574.2 14).bind fun bt580=>(spec_DrawOrdFall.l0 k (([]:List Int)) bt580.1 bt574.1 bt580.2)))=some (r1,r2):=h
 clear h
 replace H:=Option.bind_eq_some_iff.mp H
 obtain⟨⟨t574,t575⟩,A20,H⟩:=H
 replace H:((spec_l20Rd_pick.f k t574 t575 14).bind fun bt580=>(spec_DrawOrdFall.l0 k (([]:List Int)) bt580.1 t574 bt580.2))=some (r1,r2):=H
 have A2:=Aside0.mk A20
 clear A20
 obtain⟨y577,hy577⟩:∃ y_:List Int,y_=(([]:List Int)):=⟨_,rfl⟩
 replace H:((spec_l20Rd_pick.f k t574 t575 14).bind fun bt580=>(spec_DrawOrdFall.l0 k y577 bt580.1 t574 bt580.2))=some (r1,r2):=hz hy577 H
 have Ny577:=Aside0.mk hy577
 clear hy577
 replace H:=Option.bind_eq_some_iff.mp H
 obtain⟨⟨t580,t581⟩,A30,H⟩:=H
 replace H:(spec_DrawOrdFall.l0 k y577 t580 t574 t581)=some (r1,r2):=H
 have A3:=Aside0.mk A30
 clear A30
 have H':=Aside0.mk H
 clear H
 go_enter Try.func13,Try.ntmps13
 go_wp2_with (first|((with_reducible refine gate_callee (f:=24) rfl ?_);refine goesL_ (some 8) rfl rfl Try.func24 (by kernel_rfl) rfl #[.slice A0 l0.length c0] rfl az ?_;(with_reducible refine(spec_l20Open.calls _ _ l0 t574 t575 w _ ?side1 ?side2 ?side3 A2.out).mono ?_);(case side1=>repeat (first|(with_reducible first|exact HB.out|apply below_alloc|apply pw_below_drewN|apply below_drew1)|exact HB.out));(case side2=>exact HR0.out);(case side3=>exact HC0.out);rintro e w4 ⟨g576,rfl,hi,hb,hb2⟩;refine⟨_,rfl,?_⟩;replace HB:=Aside0.mk (hb);have HI576:=Aside0.mk (hi);(try clear hb);(try clear hb2);(try clear hk);(try clear hi))|((with_reducible refine gate_dst (N:=9) rfl ?_);refine Kd.R_lit (Kd.int .i64) _ 3 ?hg (N:=9) ?hd (xs:=([]:List Int)) (inner:=[]) (ok:=fun _=>True) (okp:=fun _=>True) ?hr ?hp (fun _ hk=>hk) trivial (Below.refl _ _) (Nat.le_refl _) (by simp) ?_;(case hd=>rfl);(case hg=>rfl);(case hr=>first|(go_simp;done)|(go_simp;rfl));(case hp=>exact(Reps.none _ _));intro v578 w5 ho6 hb hg_ hnew_;clear hg_ hnew_;(first|rw[← Ny577.out] at ho6|(simp only[Int.reduceToNat] at ho6;rw[← Ny577.out] at ho6));have HO579:=Aside0.mk (Kd.R_lower ho6 (below_size (by repeat (first|(with_reducible first|exact HB.out|apply below_alloc|apply pw_below_drewN|apply below_drew1|refine below_set ?_ (IsS63.ge HI576.out))|exact HB.out))));replace HB:=Aside0.mk (below_step (by repeat (first|(with_reducible first|exact HB.out|apply below_alloc|apply pw_below_drewN|apply below_drew1|refine below_set ?_ (IsS63.ge HI576.out))|exact HB.out)) hb);replace HI576:=Aside0.mk (IsS63.below (by repeat (first|(with_reducible first|exact HI576.out|apply IsS63.alloc|apply IsS63.drewN|apply IsS63.drew|apply IsS63.set_1)|exact HI576.out)) hb);clear hb ho6)|((with_reducible refine gate_callee (f:=25) rfl ?_);refine goesL_ (some 11) rfl rfl Try.func25 (by kernel_rfl) rfl #[.pointer (some ⟨g576,0,none⟩),.int .i64 14] rfl az ?_;(with_reducible refine(spec_l20Rd_pick.calls k g576 t574 t575 14 t580 t581 w _ ?side1 ?side2 A3.out).mono ?_);(case side1=>repeat (first|(with_reducible first|exact HI576.out|apply IsS63.alloc|apply IsS63.drewN|apply IsS63.drew|apply IsS63.set_1)|exact HI576.out));(case side2=>repeat (first|(with_reducible first|exact HB.out|apply below_alloc|apply pw_below_drewN|apply below_drew1|refine below_set ?_ (IsS63.ge HI576.out))|exact HB.out));rintro e w7 ⟨rfl,hi,hb,hk⟩;refine⟨_,rfl,?_⟩;replace HO579:=Aside0.mk (Kd.R_mono (Kd.R_keep (IsS63.apart (show IsS63 w _ g576 t574 t575 from by repeat (first|(with_reducible first|exact HI576.out|apply IsS63.alloc|apply IsS63.drewN|apply IsS63.drew|apply IsS63.set_1)|exact HI576.out)) (Kd.Rz HO579.out) (by decide)) hk (fun _ h=>h.2)) (fun _ h=>h.1));replace HB:=Aside0.mk (hb);replace HI576:=Aside0.mk (hi);(try clear hb);(try clear hb2);(try clear hk);(try clear hi)))
 go_loopg [5,6] k (fun kq v5 v6 w'=>∃ (x5_1:List Int) (x6_1:Int) (x577001_1:Int),v6=.int .i64 x6_1∧Aside0 (spec_DrawOrdFall.l0 kq x5_1 x6_1 t574 x577001_1=some (r1,r2))∧Aside0 (kq≤k)∧Aside0 (Kd.R (Kd.int .i64) 3 w' w.heap.size (fun _=>True) v5 x5_1)∧Aside0 (IsS63 w w' g576 t574 x577001_1)∧Aside0 (Below w.heap.size w w'))
 case atStart=>exact⟨(y577),(t580),(t581),(by first|rfl|(simp;done)|(simp[*];done)),H',⟨Nat.le_refl _⟩,⟨by(with_reducible repeat (first|apply Kd.R_alloc|apply Kd.R_drewN|apply Kd.R_drew));exact HO579.out⟩,⟨by repeat (first|(with_reducible first|exact HI576.out|apply IsS63.alloc|apply IsS63.drewN|apply IsS63.drew|apply IsS63.set_1)|exact HI576.out)⟩,⟨by repeat (first|(with_reducible first|exact HB.out|apply below_alloc|apply pw_below_drewN|apply below_drew1|refine below_set ?_ (IsS63.ge HI576.out))|exact HB.out)⟩⟩
 case round =>
  clear H'
  try clear c1
  try clear c2
  try clear p2
  obtain⟨x5_1,x6_1,x577001_1,rfl,HA,HK1,HO_5,HI576,HB⟩:=hrel
  cases gk with
  | zero=>exact absurd HA.out (by simp[spec_DrawOrdFall.l0])
  | succ k1 =>
   have H:=HA.out
   clear HA
   simp only[spec_DrawOrdFall.l0] at H
   by_cases c8:x6_1>0
   ·rw[if_pos c8] at H
    have c8b0:decide (0<x6_1)=true:=decide_eq_true c8
    clear c8
    replace H:=Option.bind_eq_some_iff.mp H
    obtain⟨⟨t582,t583⟩,A90,H⟩:=H
    replace H:((spec_l20Rd_pick.f k1 t574 t583 60).bind fun bt584=>(if x5_1.length<17592186044416 then(spec_DrawOrdFall.l0 k1 (x5_1++[wrap64 (t582-(wrap64 ((wrap64 (Int.tdiv bt584.1 59))*6)))]) (wrap64 (x6_1-1)) t574 bt584.2) else(none)))=some (r1,r2):=H
    have A9:=Aside0.mk A90
    clear A90
    replace H:=Option.bind_eq_some_iff.mp H
    obtain⟨⟨t584,t585⟩,A100,H⟩:=H
    replace H:(if x5_1.length<17592186044416 then(spec_DrawOrdFall.l0 k1 (x5_1++[wrap64 (t582-(wrap64 ((wrap64 (Int.tdiv t584 59))*6)))]) (wrap64 (x6_1-1)) t574 t585) else(none))=some (r1,r2):=H
    have A10:=Aside0.mk A100
    clear A100
    by_cases c11:x5_1.length<17592186044416
    ·rw[if_pos c11] at H
     have LMc11:=Aside0.mk c11
     clear c11
     obtain⟨y586,hy586⟩:∃ y_:List Int,y_=(x5_1++[wrap64 (t582-(wrap64 ((wrap64 (Int.tdiv t584 59))*6)))]):=⟨_,rfl⟩
     replace H:(spec_DrawOrdFall.l0 k1 y586 (wrap64 (x6_1-1)) t574 t585)=some (r1,r2):=hz hy586 H
     have Ny586:=Aside0.mk hy586
     clear hy586
     have H':=Aside0.mk H
     clear H
     go_wp2_with (first|((with_reducible refine gate_callee (f:=25) rfl ?_);refine goesL_ (some 18) rfl rfl Try.func25 (by kernel_rfl) rfl #[.pointer (some ⟨g576,0,none⟩),.int .i64 5] rfl az ?_;(with_reducible refine(spec_l20Rd_pick.calls k1 g576 t574 x577001_1 5 t582 t583 w _ ?side1 ?side2 A9.out).mono ?_);(case side1=>repeat (first|(with_reducible first|exact HI576.out|apply IsS63.alloc|apply IsS63.drewN|apply IsS63.drew|apply IsS63.set_1)|exact HI576.out));(case side2=>repeat (first|(with_reducible first|exact HB.out|apply below_alloc|apply pw_below_drewN|apply below_drew1|refine below_set ?_ (IsS63.ge HI576.out))|exact HB.out));rintro e w12 ⟨rfl,hi,hb,hk⟩;refine⟨_,rfl,?_⟩;replace HO_5:=Aside0.mk (Kd.R_mono (Kd.R_keep (IsS63.apart (show IsS63 w _ g576 t574 x577001_1 from by repeat (first|(with_reducible first|exact HI576.out|apply IsS63.alloc|apply IsS63.drewN|apply IsS63.drew|apply IsS63.set_1)|exact HI576.out)) (Kd.Rz HO_5.out) (by decide)) hk (fun _ h=>h.2)) (fun _ h=>h.1));replace HB:=Aside0.mk (hb);replace HI576:=Aside0.mk (hi);(try clear hb);(try clear hb2);(try clear hk);(try clear hi))|((with_reducible refine gate_callee (f:=25) rfl ?_);refine goesL_ (some 20) rfl rfl Try.func25 (by kernel_rfl) rfl #[.pointer (some ⟨g576,0,none⟩),.int .i64 60] rfl az ?_;(with_reducible refine(spec_l20Rd_pick.calls k1 g576 t574 t583 60 t584 t585 w _ ?side1 ?side2 A10.out).mono ?_);(case side1=>repeat (first|(with_reducible first|exact HI576.out|apply IsS63.alloc|apply IsS63.drewN|apply IsS63.drew|apply IsS63.set_1)|exact HI576.out));(case side2=>repeat (first|(with_reducible first|exact HB.out|apply below_alloc|apply pw_below_drewN|apply below_drew1|refine below_set ?_ (IsS63.ge HI576.out))|exact HB.out));rintro e w13 ⟨rfl,hi,hb,hk⟩;refine⟨_,rfl,?_⟩;replace HO_5:=Aside0.mk (Kd.R_mono (Kd.R_keep (IsS63.apart (show IsS63 w _ g576 t574 t583 from by repeat (first|(with_reducible first|exact HI576.out|apply IsS63.alloc|apply IsS63.drewN|apply IsS63.drew|apply IsS63.set_1)|exact HI576.out)) (Kd.Rz HO_5.out) (by decide)) hk (fun _ h=>h.2)) (fun _ h=>h.1));replace HB:=Aside0.mk (hb);replace HI576:=Aside0.mk (hi);(try clear hb);(try clear hb2);(try clear hk);(try clear hi))|((with_reducible refine gate_builtin (b:=.append) (xs:=#[.tmp 16,.tmp 24]) rfl ?_);at_builtin;refine Kd.R_append (Kd.int .i64) (w0:=w) w.heap.size rfl (.tmp 16) (.tmp 24) 22 3 (.int .i64 0) 8 rfl Try.underlying22 info3 rfl (by decide) (by omega) u5 x5_1 (wrap64 (t582-(wrap64 ((wrap64 (Int.tdiv t584 59))*6)))) [.int .i64 (wrap64 (t582-(wrap64 ((wrap64 (Int.tdiv t584 59))*6))))] (fun _=>True) (fun _=>False) rfl rfl ?aP (fun _ hk=>hk.elim) ?aF ?aO ?aB ?aS ?aL ?_;(case aP=>exact rfl);(case aB=>exact(by repeat (first|(with_reducible first|exact HB.out|apply below_alloc|apply pw_below_drewN|apply below_drew1|refine below_set ?_ (IsS63.ge HI576.out))|exact HB.out)));(case aF=>exact(fun _ _=>trivial));(case aO=>exact(Kd.Rz HO_5.out));(case aS=>exact(below_size (by repeat (first|(with_reducible first|exact HB.out|apply below_alloc|apply pw_below_drewN|apply below_drew1|refine below_set ?_ (IsS63.ge HI576.out))|exact HB.out))));(case aL=>have:=LMc11.out;omega);intro v587 w14 ho hb hg hat;rw[← Ny586.out] at ho;replace HI576:=Aside0.mk (IsS63.grown (by repeat (first|(with_reducible first|exact HI576.out|apply IsS63.alloc|apply IsS63.drewN|apply IsS63.drew|apply IsS63.set_1)|exact HI576.out)) hg (IsS63.own_ne HI576.out HO_5.out (by decide)));replace HB:=Aside0.mk (hb);have HO588:=Aside0.mk (ho);clear HO_5;clear ho hb hg hat))
     go_roundg k1
     case measure=>have:=HK1.out;omega
     case rel=>exact⟨(y586),(wrap64 (x6_1-1)),(t585),(by first|rfl|(simp;done)|(simp[*];done)),H',⟨by have:=HK1.out;omega⟩,⟨by(with_reducible repeat (first|apply Kd.R_alloc|apply Kd.R_drewN|apply Kd.R_drew));exact HO588.out⟩,⟨by repeat (first|(with_reducible first|exact HI576.out|apply IsS63.alloc|apply IsS63.drewN|apply IsS63.drew|apply IsS63.set_1)|exact HI576.out)⟩,⟨by repeat (first|(with_reducible first|exact HB.out|apply below_alloc|apply pw_below_drewN|apply below_drew1|refine below_set ?_ (IsS63.ge HI576.out))|exact HB.out)⟩⟩
    ·rw[if_neg c11] at H
     exact absurd H (by simp)
   ·rw[if_neg c8] at H
    have c8b0:decide (0<x6_1)=false:=decide_eq_false c8
    clear c8
    replace H:=Option.bind_eq_some_iff.mp H
    obtain⟨⟨t589,t592⟩,A150,H⟩:=H
    replace H:(some (t589,x5_1))=some (r1,r2):=H
    have A15:=Aside0.mk A150
    clear A150
    simp only[Option.some.injEq,Prod.mk.injEq] at H
    obtain⟨rfl,rfl⟩:=H
    go_wp2_with (first|((with_reducible refine gate_callee (f:=26) rfl ?_);refine goesL_ (some 27) rfl rfl Try.func26 (by kernel_rfl) rfl #[.pointer (some ⟨g576,0,none⟩),.int .i64 9] rfl az ?_;(with_reducible refine(spec_l20Ord.calls k1 g576 t574 x577001_1 9 t589 t592 w _ ?side1 ?side2 A15.out).mono ?_);(case side1=>repeat (first|(with_reducible first|exact HI576.out|apply IsS63.alloc|apply IsS63.drewN|apply IsS63.drew|apply IsS63.set_1)|exact HI576.out));(case side2=>repeat (first|(with_reducible first|exact HB.out|apply below_alloc|apply pw_below_drewN|apply below_drew1|refine below_set ?_ (IsS63.ge HI576.out))|exact HB.out));rintro e w16 ⟨v590,rfl,ho0,hi,hb,hk⟩;refine⟨_,rfl,?_⟩;have HO591:=Aside0.mk (Kd.R_lower (Kd.R_new' ho0 (Kd.R_lt (Kd.Rz HO_5.out))) (below_size (by repeat (first|(with_reducible first|exact HB.out|apply below_alloc|apply pw_below_drewN|apply below_drew1|refine below_set ?_ (IsS63.ge HI576.out))|exact HB.out))));replace HO_5:=Aside0.mk (Kd.R_mono (Kd.R_told (Kd.R_oldK (IsS63.apart (show IsS63 w _ g576 t574 x577001_1 from by repeat (first|(with_reducible first|exact HI576.out|apply IsS63.alloc|apply IsS63.drewN|apply IsS63.drew|apply IsS63.set_1)|exact HI576.out)) (Kd.Rz HO_5.out) (by decide)) hk) (Kd.R_base ho0)) (fun _ h_=>h_.1));replace HB:=Aside0.mk (hb);replace HI576:=Aside0.mk (hi);(try clear hb);(try clear hb2);(try clear hk);(try clear hi);(try clear ho0)))
    go_ret2
    exact⟨_,_,by first|rfl|(simp[errW_none,errW_some]<;>rfl)|(simp[*,errW_none,errW_some]<;>rfl),Kd.Rz <| Kd.R_mono HO591.out (fun _ hk=>hk.2),Kd.Rz <| Kd.R_mono HO_5.out (fun _ hk=>hk.2),by repeat (first|(with_reducible first|exact HB.out|apply below_alloc|apply pw_below_drewN|apply below_drew1|refine below_set ?_ (IsS63.ge HI576.out))|exact HB.out)⟩
end Go.Proofs.Ytfkecmnklpjelaa.P