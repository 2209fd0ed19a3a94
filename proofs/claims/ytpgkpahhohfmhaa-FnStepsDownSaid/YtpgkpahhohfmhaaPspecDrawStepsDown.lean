/- One Go function comes to what its Lean function tells. -/
import Derived.Test.YtpgkpahhohfmhaaP0
import Derived.Test.YtpgkpahhohfmhaaPspecl20Little
import Derived.Test.YtpgkpahhohfmhaaPspecl20Number
import Derived.Test.YtpgkpahhohfmhaaPspecl20Open
namespace Go.Proofs.Ytpgkpahhohfmhaa.P
open Go.RowKit YtpgkpahhohfmhaaW.PrintWords YtpgkpahhohfmhaaW.PrintLast YtpgkpahhohfmhaaW.PrintMore
set_option linter.unusedVariables false
set_option linter.unusedSimpArgs false
/-! ### spec_DrawStepsDown: function 40 -/
def spec_DrawStepsDown.f (k:Nat)(l0:List Int):Option (List Int × Int):=(spec_l20Open.f l0).bind fun bt933=>((spec_l20Little.f k bt933.1 bt933.2 9).bind fun bt936=>((spec_l20Number.f k bt933.1 bt936.2).bind fun bt940=>(some (bt936.1,bt940.1))))
theorem spec_DrawStepsDown.mono:∀ a0 k,LeO (spec_DrawStepsDown.f k a0) (spec_DrawStepsDown.f (k+1) a0):=by
 intro a0 k
 unfold spec_DrawStepsDown.f
 repeat' first|(with_reducible first|exact spec_l20Little.mono _ _ _ _|exact spec_l20Number.mono _ _ _|exact LeO.refl _|exact LeO.none _|refine LeO.ite ?_ ?_|refine LeO.bind ?_ (fun _=>?_))|exact spec_l20Little.mono _ _ _ _|exact spec_l20Number.mono _ _ _|exact LeO.none _|refine LeO.ite ?_ ?_|refine LeO.bind ?_ (fun _=>?_)
set_option maxHeartbeats 8000000 in
set_option maxRecDepth 100000 in
theorem spec_DrawStepsDown.calls (k:Nat)(A0:Option Addr)(c0:Nat)(l0:List Int)(r1:List Int)(r2:Int)(w:World)(hr0:Kd.C (Kd.int .u8) w A0 l0.length l0)(hc0:l0.length≤c0)(h:spec_DrawStepsDown.f k l0=some (r1,r2)) :
  Calls Try.prog 40 #[.slice A0 l0.length c0] w fun e w'=>∃ v0_:Value,e=.returned (.tuple #[v0_,.int .i64 r2])∧Kd.R (Kd.int .i64) 3 w' w.heap.size (fun _=>True) v0_ r1∧Below w.heap.size w w':=by
 have HR0:=Aside0.mk hr0
 have HC0:=Aside0.mk hc0
 clear hr0 hc0
 have HB:=Aside0.mk (Below.refl w.heap.size w)
 have H:((spec_l20Open.f l0).bind fun bt933=>((spec_l20Little.f k bt933.1 bt933.2 9).bind fun bt936=>((spec_l20Number.f k bt933.1 bt936.2).bind fun bt940=>(some (bt936.1,bt940.1)))))=some (r1,r2):=h
 clear h
 replace H:=Option.bind_eq_some_iff.mp H
 obtain⟨⟨t933,t934⟩,A20,H⟩:=H
 replace H:((spec_l20Little.f k t933 t934 9).bind fun bt936=>((spec_l20Number.f k t933 bt936.2).bind fun bt940=>(some (bt936.1,bt940.1))))=some (r1,r2):=H
 have A2:=Aside0.mk A20
 clear A20
 replace H:=Option.bind_eq_some_iff.mp H
 obtain⟨⟨t936,t939⟩,A30,H⟩:=H
 replace H:((spec_l20Number.f k t933 t939).bind fun bt940=>(some (t936,bt940.1)))=some (r1,r2):=H
 have A3:=Aside0.mk A30
 clear A30
 replace H:=Option.bind_eq_some_iff.mp H
 obtain⟨⟨t940,t941⟩,A40,H⟩:=H
 replace H:(some (t936,t940))=some (r1,r2):=H
 have A4:=Aside0.mk A40
 clear A40
 simp only[Option.some.injEq,Prod.mk.injEq] at H
 obtain⟨rfl,rfl⟩:=H
 go_enter Try.func40,Try.ntmps40
 go_wp2_with (first|((with_reducible refine gate_callee (f:=45) rfl ?_);refine goesL_ (some 6) rfl rfl Try.func45 (by kernel_rfl) rfl #[.slice A0 l0.length c0] rfl az ?_;(with_reducible refine(spec_l20Open.calls _ _ l0 t933 t934 w _ ?side1 ?side2 ?side3 A2.out).mono ?_);(case side1=>repeat (first|(with_reducible first|exact HB.out|apply below_alloc|apply pw_below_drewN|apply below_drew1)|exact HB.out));(case side2=>exact HR0.out);(case side3=>exact HC0.out);rintro e w5 ⟨g935,rfl,hi,hb,hb2⟩;refine⟨_,rfl,?_⟩;replace HB:=Aside0.mk (hb);have HI935:=Aside0.mk (hi);(try clear hb);(try clear hb2);(try clear hk);(try clear hi))|((with_reducible refine gate_callee (f:=69) rfl ?_);refine goesL_ (some 8) rfl rfl Try.func69 (by kernel_rfl) rfl #[.pointer (some ⟨g935,0,none⟩),.int .i64 9] rfl az ?_;(with_reducible refine(spec_l20Little.calls k g935 t933 t934 9 t936 t939 w _ ?side1 ?side2 A3.out).mono ?_);(case side1=>repeat (first|(with_reducible first|exact HI935.out|apply IsS77.alloc|apply IsS77.drewN|apply IsS77.drew|apply IsS77.set_1)|exact HI935.out));(case side2=>repeat (first|(with_reducible first|exact HB.out|apply below_alloc|apply pw_below_drewN|apply below_drew1|refine below_set ?_ (IsS77.ge HI935.out))|exact HB.out));rintro e w6 ⟨v937,rfl,ho0,hi,hb,hk⟩;refine⟨_,rfl,?_⟩;have HO938:=Aside0.mk (Kd.R_lower ho0 (below_size (by repeat (first|(with_reducible first|exact HB.out|apply below_alloc|apply pw_below_drewN|apply below_drew1|refine below_set ?_ (IsS77.ge HI935.out))|exact HB.out))));replace HB:=Aside0.mk (hb);replace HI935:=Aside0.mk (hi);(try clear hb);(try clear hb2);(try clear hk);(try clear hi);(try clear ho0))|((with_reducible refine gate_callee (f:=64) rfl ?_);refine goesL_ (some 10) rfl rfl Try.func64 (by kernel_rfl) rfl #[.pointer (some ⟨g935,0,none⟩)] rfl az ?_;(with_reducible refine(spec_l20Number.calls k g935 t933 t939 t940 t941 w _ ?side1 ?side2 A4.out).mono ?_);(case side1=>repeat (first|(with_reducible first|exact HI935.out|apply IsS77.alloc|apply IsS77.drewN|apply IsS77.drew|apply IsS77.set_1)|exact HI935.out));(case side2=>repeat (first|(with_reducible first|exact HB.out|apply below_alloc|apply pw_below_drewN|apply below_drew1|refine below_set ?_ (IsS77.ge HI935.out))|exact HB.out));rintro e w7 ⟨rfl,hi,hb,hk⟩;refine⟨_,rfl,?_⟩;replace HO938:=Aside0.mk (Kd.R_mono (Kd.R_keep (IsS77.apart (show IsS77 w _ g935 t933 t939 from by repeat (first|(with_reducible first|exact HI935.out|apply IsS77.alloc|apply IsS77.drewN|apply IsS77.drew|apply IsS77.set_1)|exact HI935.out)) (Kd.Rz HO938.out) (by decide)) hk (fun _ h=>h.2)) (fun _ h=>h.1));replace HB:=Aside0.mk (hb);replace HI935:=Aside0.mk (hi);(try clear hb);(try clear hb2);(try clear hk);(try clear hi)))
 go_ret2
 exact⟨_,by first|rfl|(simp[errW_none,errW_some]<;>rfl)|(simp[*,errW_none,errW_some]<;>rfl),by(with_reducible repeat (first|apply Kd.R_alloc|apply Kd.R_drewN|apply Kd.R_drew));exact HO938.out,by repeat (first|(with_reducible first|exact HB.out|apply below_alloc|apply pw_below_drewN|apply below_drew1|refine below_set ?_ (IsS77.ge HI935.out))|exact HB.out)⟩
end Go.Proofs.Ytpgkpahhohfmhaa.P