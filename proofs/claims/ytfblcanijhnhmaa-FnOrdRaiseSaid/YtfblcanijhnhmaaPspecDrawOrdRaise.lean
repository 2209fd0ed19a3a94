/- One Go function comes to what its Lean function tells. -/
import Derived.Test.YtfblcanijhnhmaaP0
import Derived.Test.YtfblcanijhnhmaaPspecl20Little
import Derived.Test.YtfblcanijhnhmaaPspecl20Open
import Derived.Test.YtfblcanijhnhmaaPspecl20Rdpick
namespace Go.Proofs.Ytfblcanijhnhmaa.P
open Go.RowKit YtfblcanijhnhmaaW.PrintWords YtfblcanijhnhmaaW.PrintLast YtfblcanijhnhmaaW.PrintMore
set_option linter.unusedVariables false
set_option linter.unusedSimpArgs false
/-! ### spec_DrawOrdRaise: function 42 -/
def spec_DrawOrdRaise.f (k:Nat)(l0:List Int):Option (List Int × Int):=(spec_l20Open.f l0).bind fun bt1672=>((spec_l20Little.f k bt1672.1 bt1672.2 9).bind fun bt1675=>((spec_l20Rd_pick.f k bt1672.1 bt1675.2 5).bind fun bt1679=>((spec_l20Rd_pick.f k bt1672.1 bt1679.2 20).bind fun bt1681=>((spec_l20Rd_pick.f k bt1672.1 bt1681.2 20).bind fun bt1683=>(some (bt1675.1,wrap64 ((wrap64 (bt1679.1+(wrap64 ((wrap64 (Int.tdiv bt1681.1 19))*7))))-(wrap64 ((wrap64 (Int.tdiv bt1683.1 19))*6)))))))))
theorem spec_DrawOrdRaise.mono:∀ a0 k,LeO (spec_DrawOrdRaise.f k a0) (spec_DrawOrdRaise.f (k+1) a0):=by
 intro a0 k
 unfold spec_DrawOrdRaise.f
 repeat' first|(with_reducible first|exact spec_l20Little.mono _ _ _ _|exact spec_l20Rd_pick.mono _ _ _ _|exact LeO.refl _|exact LeO.none _|refine LeO.ite ?_ ?_|refine LeO.bind ?_ (fun _=>?_))|exact spec_l20Little.mono _ _ _ _|exact spec_l20Rd_pick.mono _ _ _ _|exact LeO.none _|refine LeO.ite ?_ ?_|refine LeO.bind ?_ (fun _=>?_)
set_option maxHeartbeats 8000000 in
set_option maxRecDepth 100000 in
theorem spec_DrawOrdRaise.calls (k:Nat)(A0:Option Addr)(c0:Nat)(l0:List Int)(r1:List Int)(r2:Int)(w:World)(hr0:Kd.C (Kd.int .u8) w A0 l0.length l0)(hc0:l0.length≤c0)(h:spec_DrawOrdRaise.f k l0=some (r1,r2)) :
  Calls Try.prog 42 #[.slice A0 l0.length c0] w fun e w'=>∃ v0_:Value,e=.returned (.tuple #[v0_,.int .i64 r2])∧Kd.R (Kd.int .i64) 3 w' w.heap.size (fun _=>True) v0_ r1∧Below w.heap.size w w':=by
 have HR0:=Aside0.mk hr0
 have HC0:=Aside0.mk hc0
 clear hr0 hc0
 have HB:=Aside0.mk (Below.refl w.heap.size w)
 have H:((spec_l20Open.f l0).bind fun bt1672=>((spec_l20Little.f k bt1672.1 bt1672.2 9).bind fun bt1675=>((spec_l20Rd_pick.f k bt1672.1 bt1675.2 5).bind fun bt1679=>((spec_l20Rd_pick.f k bt1672.1 bt1679.2 20).bind fun bt1681=>((spec_l20Rd_pick.f k bt1672.1 bt1681.2 20).bind fun bt1683=>(some (bt1675.1,wrap64 ((wrap64 (bt1679.1+(wrap64 ((wrap64 (Int.tdiv bt1681.1 19))*7))))-(wrap64 ((wrap64 (Int.tdiv bt1683.1 19))*6))))))))))=some (r1,r2):=h
 clear h
 replace H:=Option.bind_eq_some_iff.mp H
 obtain⟨⟨t1672,t1673⟩,A20,H⟩:=H
 replace H:((spec_l20Little.f k t1672 t1673 9).bind fun bt1675=>((spec_l20Rd_pick.f k t1672 bt1675.2 5).bind fun bt1679=>((spec_l20Rd_pick.f k t1672 bt1679.2 20).bind fun bt1681=>((spec_l20Rd_pick.f k t1672 bt1681.2 20).bind fun bt1683=>(some (bt1675.1,wrap64 ((wrap64 (bt1679.1+(wrap64 ((wrap64 (Int.tdiv bt1681.1 19))*7))))-(wrap64 ((wrap64 (Int.tdiv bt1683.1 19))*6)))))))))=some (r1,r2):=H
 have A2:=Aside0.mk A20
 clear A20
 replace H:=Option.bind_eq_some_iff.mp H
 obtain⟨⟨t1675,t1678⟩,A30,H⟩:=H
 replace H:((spec_l20Rd_pick.f k t1672 t1678 5).bind fun bt1679=>((spec_l20Rd_pick.f k t1672 bt1679.2 20).bind fun bt1681=>((spec_l20Rd_pick.f k t1672 bt1681.2 20).bind fun bt1683=>(some (t1675,wrap64 ((wrap64 (bt1679.1+(wrap64 ((wrap64 (Int.tdiv bt1681.1 19))*7))))-(wrap64 ((wrap64 (Int.tdiv bt1683.1 19))*6))))))))=some (r1,r2):=H
 have A3:=Aside0.mk A30
 clear A30
 replace H:=Option.bind_eq_some_iff.mp H
 obtain⟨⟨t1679,t1680⟩,A40,H⟩:=H
 replace H:((spec_l20Rd_pick.f k t1672 t1680 20).bind fun bt1681=>((spec_l20Rd_pick.f k t1672 bt1681.2 20).bind fun bt1683=>(some (t1675,wrap64 ((wrap64 (t1679+(wrap64 ((wrap64 (Int.tdiv bt1681.1 19))*7))))-(wrap64 ((wrap64 (Int.tdiv bt1683.1 19))*6)))))))=some (r1,r2):=H
 have A4:=Aside0.mk A40
 clear A40
 replace H:=Option.bind_eq_some_iff.mp H
 obtain⟨⟨t1681,t1682⟩,A50,H⟩:=H
 replace H:((spec_l20Rd_pick.f k t1672 t1682 20).bind fun bt1683=>(some (t1675,wrap64 ((wrap64 (t1679+(wrap64 ((wrap64 (Int.tdiv t1681 19))*7))))-(wrap64 ((wrap64 (Int.tdiv bt1683.1 19))*6))))))=some (r1,r2):=H
 have A5:=Aside0.mk A50
 clear A50
 replace H:=Option.bind_eq_some_iff.mp H
 obtain⟨⟨t1683,t1684⟩,A60,H⟩:=H
 replace H:(some (t1675,wrap64 ((wrap64 (t1679+(wrap64 ((wrap64 (Int.tdiv t1681 19))*7))))-(wrap64 ((wrap64 (Int.tdiv t1683 19))*6)))))=some (r1,r2):=H
 have A6:=Aside0.mk A60
 clear A60
 simp only[Option.some.injEq,Prod.mk.injEq] at H
 obtain⟨rfl,rfl⟩:=H
 go_enter Try.func42,Try.ntmps42
 go_wp2_with (first|((with_reducible refine gate_callee (f:=63) rfl ?_);refine goesL_ (some 6) rfl rfl Try.func63 (by kernel_rfl) rfl #[.slice A0 l0.length c0] rfl az ?_;(with_reducible refine(spec_l20Open.calls _ _ l0 t1672 t1673 w _ ?side1 ?side2 ?side3 A2.out).mono ?_);(case side1=>repeat (first|(with_reducible first|exact HB.out|apply below_alloc|apply pw_below_drewN|apply below_drew1)|exact HB.out));(case side2=>exact HR0.out);(case side3=>exact HC0.out);rintro e w7 ⟨g1674,rfl,hi,hb,hb2⟩;refine⟨_,rfl,?_⟩;replace HB:=Aside0.mk (hb);have HI1674:=Aside0.mk (hi);(try clear hb);(try clear hb2);(try clear hk);(try clear hi))|((with_reducible refine gate_callee (f:=68) rfl ?_);refine goesL_ (some 8) rfl rfl Try.func68 (by kernel_rfl) rfl #[.pointer (some ⟨g1674,0,none⟩),.int .i64 9] rfl az ?_;(with_reducible refine(spec_l20Little.calls k g1674 t1672 t1673 9 t1675 t1678 w _ ?side1 ?side2 A3.out).mono ?_);(case side1=>repeat (first|(with_reducible first|exact HI1674.out|apply IsS73.alloc|apply IsS73.drewN|apply IsS73.drew|apply IsS73.set_1)|exact HI1674.out));(case side2=>repeat (first|(with_reducible first|exact HB.out|apply below_alloc|apply pw_below_drewN|apply below_drew1|refine below_set ?_ (IsS73.ge HI1674.out))|exact HB.out));rintro e w8 ⟨v1676,rfl,ho0,hi,hb,hk⟩;refine⟨_,rfl,?_⟩;have HO1677:=Aside0.mk (Kd.R_lower ho0 (below_size (by repeat (first|(with_reducible first|exact HB.out|apply below_alloc|apply pw_below_drewN|apply below_drew1|refine below_set ?_ (IsS73.ge HI1674.out))|exact HB.out))));replace HB:=Aside0.mk (hb);replace HI1674:=Aside0.mk (hi);(try clear hb);(try clear hb2);(try clear hk);(try clear hi);(try clear ho0))|((with_reducible refine gate_callee (f:=66) rfl ?_);refine goesL_ (some 10) rfl rfl Try.func66 (by kernel_rfl) rfl #[.pointer (some ⟨g1674,0,none⟩),.int .i64 5] rfl az ?_;(with_reducible refine(spec_l20Rd_pick.calls k g1674 t1672 t1678 5 t1679 t1680 w _ ?side1 ?side2 A4.out).mono ?_);(case side1=>repeat (first|(with_reducible first|exact HI1674.out|apply IsS73.alloc|apply IsS73.drewN|apply IsS73.drew|apply IsS73.set_1)|exact HI1674.out));(case side2=>repeat (first|(with_reducible first|exact HB.out|apply below_alloc|apply pw_below_drewN|apply below_drew1|refine below_set ?_ (IsS73.ge HI1674.out))|exact HB.out));rintro e w9 ⟨rfl,hi,hb,hk⟩;refine⟨_,rfl,?_⟩;replace HO1677:=Aside0.mk (Kd.R_mono (Kd.R_keep (IsS73.apart (show IsS73 w _ g1674 t1672 t1678 from by repeat (first|(with_reducible first|exact HI1674.out|apply IsS73.alloc|apply IsS73.drewN|apply IsS73.drew|apply IsS73.set_1)|exact HI1674.out)) (Kd.Rz HO1677.out) (by decide)) hk (fun _ h=>h.2)) (fun _ h=>h.1));replace HB:=Aside0.mk (hb);replace HI1674:=Aside0.mk (hi);(try clear hb);(try clear hb2);(try clear hk);(try clear hi))|((with_reducible refine gate_callee (f:=66) rfl ?_);refine goesL_ (some 12) rfl rfl Try.func66 (by kernel_rfl) rfl #[.pointer (some ⟨g1674,0,none⟩),.int .i64 20] rfl az ?_;(with_reducible refine(spec_l20Rd_pick.calls k g1674 t1672 t1680 20 t1681 t1682 w _ ?side1 ?side2 A5.out).mono ?_);(case side1=>repeat (first|(with_reducible first|exact HI1674.out|apply IsS73.alloc|apply IsS73.drewN|apply IsS73.drew|apply IsS73.set_1)|exact HI1674.out));(case side2=>repeat (first|(with_reducible first|exact HB.out|apply below_alloc|apply pw_below_drewN|apply below_drew1|refine below_set ?_ (IsS73.ge HI1674.out))|exact HB.out));rintro e w10 ⟨rfl,hi,hb,hk⟩;refine⟨_,rfl,?_⟩;replace HO1677:=Aside0.mk (Kd.R_mono (Kd.R_keep (IsS73.apart (show IsS73 w _ g1674 t1672 t1680 from by repeat (first|(with_reducible first|exact HI1674.out|apply IsS73.alloc|apply IsS73.drewN|apply IsS73.drew|apply IsS73.set_1)|exact HI1674.out)) (Kd.Rz HO1677.out) (by decide)) hk (fun _ h=>h.2)) (fun _ h=>h.1));replace HB:=Aside0.mk (hb);replace HI1674:=Aside0.mk (hi);(try clear hb);(try clear hb2);(try clear hk);(try clear hi))|((with_reducible refine gate_callee (f:=66) rfl ?_);refine goesL_ (some 17) rfl rfl Try.func66 (by kernel_rfl) rfl #[.pointer (some ⟨g1674,0,none⟩),.int .i64 20] rfl az ?_;(with_reducible refine(spec_l20Rd_pick.calls k g1674 t1672 t1682 20 t1683 t1684 w _ ?side1 ?side2 A6.out).mono ?_);(case side1=>repeat (first|(with_reducible first|exact HI1674.out|apply IsS73.alloc|apply IsS73.drewN|apply IsS73.drew|apply IsS73.set_1)|exact HI1674.out));(case side2=>repeat (first|(with_reducible first|exact HB.out|apply below_alloc|apply pw_below_drewN|apply below_drew1|refine below_set ?_ (IsS73.ge HI1674.out))|exact HB.out));rintro e w11 ⟨rfl,hi,hb,hk⟩;refine⟨_,rfl,?_⟩;replace HO1677:=Aside0.mk (Kd.R_mono (Kd.R_keep (IsS73.apart (show IsS73 w _ g1674 t1672 t1682 from by repeat (first|(with_reducible first|exact HI1674.out|apply IsS73.alloc|apply IsS73.drewN|apply IsS73.drew|apply IsS73.set_1)|exact HI1674.out)) (Kd.Rz HO1677.out) (by decide)) hk (fun _ h=>h.2)) (fun _ h=>h.1));replace HB:=Aside0.mk (hb);replace HI1674:=Aside0.mk (hi);(try clear hb);(try clear hb2);(try clear hk);(try clear hi)))
 go_ret2
 exact⟨_,by first|rfl|(simp[errW_none,errW_some]<;>rfl)|(simp[*,errW_none,errW_some]<;>rfl),by(with_reducible repeat (first|apply Kd.R_alloc|apply Kd.R_drewN|apply Kd.R_drew));exact HO1677.out,by repeat (first|(with_reducible first|exact HB.out|apply below_alloc|apply pw_below_drewN|apply below_drew1|refine below_set ?_ (IsS73.ge HI1674.out))|exact HB.out)⟩
end Go.Proofs.Ytfblcanijhnhmaa.P