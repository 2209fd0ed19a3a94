/- One Go function comes to what its Lean function tells. -/
import Derived.Test.YtpgkpahhohfmhaaP0
import Derived.Test.YtpgkpahhohfmhaaPspecl20Open
import Derived.Test.YtpgkpahhohfmhaaPspecl20Rdpick
namespace Go.Proofs.Ytpgkpahhohfmhaa.P
open Go.RowKit YtpgkpahhohfmhaaW.PrintWords YtpgkpahhohfmhaaW.PrintLast YtpgkpahhohfmhaaW.PrintMore
set_option linter.unusedVariables false
set_option linter.unusedSimpArgs false
/-! ### spec_l20Number: function 64 -/
def spec_l20Number.f (k:Nat)(s0_0:List Int)(s0_1:Int):Option (Int × Int):=(spec_l20Rd_pick.f k s0_0 s0_1 6).bind fun bt682=>((spec_l20Rd_pick.f k s0_0 bt682.2 30).bind fun bt684=>((spec_l20Rd_pick.f k s0_0 bt684.2 30).bind fun bt686=>(some (wrap64 ((wrap64 (bt682.1+(wrap64 ((wrap64 (Int.tdiv bt684.1 29))*100))))-(wrap64 ((wrap64 (Int.tdiv bt686.1 29))*7))),bt686.2))))
theorem spec_l20Number.mono:∀ a0 a1 k,LeO (spec_l20Number.f k a0 a1) (spec_l20Number.f (k+1) a0 a1):=by
 intro a0 a1 k
 unfold spec_l20Number.f
 repeat' first|(with_reducible first|exact spec_l20Rd_pick.mono _ _ _ _|exact LeO.refl _|exact LeO.none _|refine LeO.ite ?_ ?_|refine LeO.bind ?_ (fun _=>?_))|exact spec_l20Rd_pick.mono _ _ _ _|exact LeO.none _|refine LeO.ite ?_ ?_|refine LeO.bind ?_ (fun _=>?_)
set_option maxHeartbeats 8000000 in
set_option maxRecDepth 100000 in
theorem spec_l20Number.calls (k:Nat)(g:Nat)(s0_0:List Int)(s0_1:Int)(r1:Int)(r2:Int)(w0 w:World)(hI:IsS77 w0 w g s0_0 s0_1)(hB:Below w0.heap.size w0 w)(h:spec_l20Number.f k s0_0 s0_1=some (r1,r2)) :
  Calls Try.prog 64 #[.pointer (some ⟨g,0,none⟩)] w fun e w'=>e=.returned (.int .i64 r1)∧IsS77 w0 w' g s0_0 r2∧Below w0.heap.size w0 w'∧KeepBut w w' g none:=by
 have HI0:=Aside0.mk hI
 have HK:=Aside0.mk (KeepBut.refl w g none)
 have HL:=Aside0.mk hB.size
 clear hI
 have HW0:=Aside0.mk hB.size
 have HB:=Aside0.mk hB
 clear hB
 have H:((spec_l20Rd_pick.f k s0_0 s0_1 6).bind fun bt682=>((spec_l20Rd_pick.f k s0_0 bt682.2 30).bind fun bt684=>((spec_l20Rd_pick.f k s0_0 bt684.2 30).bind fun bt686=>(some (wrap64 ((wrap64 (bt682.1+(wrap64 ((wrap64 (Int.tdiv bt684.1 29))*100))))-(wrap64 ((wrap64 (Int.tdiv bt686.1 29))*7))),bt686.2)))))=some (r1,r2):=h
 clear h
 replace H:=Option.bind_eq_some_iff.mp H
 obtain⟨⟨t682,t683⟩,A20,H⟩:=H
 replace H:((spec_l20Rd_pick.f k s0_0 t683 30).bind fun bt684=>((spec_l20Rd_pick.f k s0_0 bt684.2 30).bind fun bt686=>(some (wrap64 ((wrap64 (t682+(wrap64 ((wrap64 (Int.tdiv bt684.1 29))*100))))-(wrap64 ((wrap64 (Int.tdiv bt686.1 29))*7))),bt686.2))))=some (r1,r2):=H
 have A2:=Aside0.mk A20
 clear A20
 replace H:=Option.bind_eq_some_iff.mp H
 obtain⟨⟨t684,t685⟩,A30,H⟩:=H
 replace H:((spec_l20Rd_pick.f k s0_0 t685 30).bind fun bt686=>(some (wrap64 ((wrap64 (t682+(wrap64 ((wrap64 (Int.tdiv t684 29))*100))))-(wrap64 ((wrap64 (Int.tdiv bt686.1 29))*7))),bt686.2)))=some (r1,r2):=H
 have A3:=Aside0.mk A30
 clear A30
 replace H:=Option.bind_eq_some_iff.mp H
 obtain⟨⟨t686,t687⟩,A40,H⟩:=H
 replace H:(some (wrap64 ((wrap64 (t682+(wrap64 ((wrap64 (Int.tdiv t684 29))*100))))-(wrap64 ((wrap64 (Int.tdiv t686 29))*7))),t687))=some (r1,r2):=H
 have A4:=Aside0.mk A40
 clear A40
 simp only[Option.some.injEq,Prod.mk.injEq] at H
 obtain⟨rfl,rfl⟩:=H
 go_enter Try.func64,Try.ntmps64
 go_wp2_with (first|((with_reducible refine gate_callee (f:=47) rfl ?_);refine goesL_ (some 4) rfl rfl Try.func47 (by kernel_rfl) rfl #[.pointer (some ⟨g,0,none⟩),.int .i64 6] rfl az ?_;(with_reducible refine(spec_l20Rd_pick.calls k g s0_0 s0_1 6 t682 t683 w0 _ ?side1 ?side2 A2.out).mono ?_);(case side1=>exact iz);(case side2=>exact bi);rintro e w5 ⟨rfl,hi,hb,hk⟩;refine⟨_,rfl,?_⟩;replace HK:=Aside0.mk (KeepBut.trans kz hk (.inl rfl));replace HB:=Aside0.mk (hb);replace HI0:=Aside0.mk (hi);(try clear hb);(try clear hb2);(try clear hk);(try clear hi))|((with_reducible refine gate_callee (f:=47) rfl ?_);refine goesL_ (some 6) rfl rfl Try.func47 (by kernel_rfl) rfl #[.pointer (some ⟨g,0,none⟩),.int .i64 30] rfl az ?_;(with_reducible refine(spec_l20Rd_pick.calls k g s0_0 t683 30 t684 t685 w0 _ ?side1 ?side2 A3.out).mono ?_);(case side1=>exact iz);(case side2=>exact bi);rintro e w6 ⟨rfl,hi,hb,hk⟩;refine⟨_,rfl,?_⟩;replace HK:=Aside0.mk (KeepBut.trans kz hk (.inl rfl));replace HB:=Aside0.mk (hb);replace HI0:=Aside0.mk (hi);(try clear hb);(try clear hb2);(try clear hk);(try clear hi))|((with_reducible refine gate_callee (f:=47) rfl ?_);refine goesL_ (some 11) rfl rfl Try.func47 (by kernel_rfl) rfl #[.pointer (some ⟨g,0,none⟩),.int .i64 30] rfl az ?_;(with_reducible refine(spec_l20Rd_pick.calls k g s0_0 t685 30 t686 t687 w0 _ ?side1 ?side2 A4.out).mono ?_);(case side1=>exact iz);(case side2=>exact bi);rintro e w7 ⟨rfl,hi,hb,hk⟩;refine⟨_,rfl,?_⟩;replace HK:=Aside0.mk (KeepBut.trans kz hk (.inl rfl));replace HB:=Aside0.mk (hb);replace HI0:=Aside0.mk (hi);(try clear hb);(try clear hb2);(try clear hk);(try clear hi)))
 go_ret
 exact⟨by first|rfl|(simp[errW_none,errW_some]<;>rfl)|(simp[*,errW_none,errW_some]<;>rfl),iz,bi,by repeat (first|(with_reducible first|exact HK.out|apply KeepBut.set_|apply keep_drewN|apply keep_drew|apply keep_alloc)|exact HK.out)⟩
end Go.Proofs.Ytpgkpahhohfmhaa.P