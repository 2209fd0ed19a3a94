/- One Go function comes to what its Lean function tells. -/
import Derived.Test.YtfblcanijhnhmaaP0
import Derived.Test.YtfblcanijhnhmaaPspecl20Rdpick
namespace Go.Proofs.Ytfblcanijhnhmaa.P
open Go.RowKit YtfblcanijhnhmaaW.PrintWords YtfblcanijhnhmaaW.PrintLast YtfblcanijhnhmaaW.PrintMore
set_option linter.unusedVariables false
set_option linter.unusedSimpArgs false
/-! ### spec_l20Rd_odd: function 76 -/
def spec_l20Rd_odd.f (k:Nat)(s0_0:List Int)(s0_1:Int)(a1:Int):Option (Bool × Int):=if a1>0 then((spec_l20Rd_pick.f k s0_0 s0_1 a1).bind fun bt1326=>(some ((bt1326.1 == (wrap64 (a1-1))),bt1326.2))) else(some (false,s0_1))
theorem spec_l20Rd_odd.mono:∀ a0 a1 a2 k,LeO (spec_l20Rd_odd.f k a0 a1 a2) (spec_l20Rd_odd.f (k+1) a0 a1 a2):=by
 intro a0 a1 a2 k
 unfold spec_l20Rd_odd.f
 repeat' first|(with_reducible first|exact spec_l20Rd_pick.mono _ _ _ _|exact LeO.refl _|exact LeO.none _|refine LeO.ite ?_ ?_|refine LeO.bind ?_ (fun _=>?_))|exact spec_l20Rd_pick.mono _ _ _ _|exact LeO.none _|refine LeO.ite ?_ ?_|refine LeO.bind ?_ (fun _=>?_)
set_option maxHeartbeats 8000000 in
set_option maxRecDepth 100000 in
theorem spec_l20Rd_odd.calls (k:Nat)(g:Nat)(s0_0:List Int)(s0_1:Int)(a1:Int)(r1:Bool)(r2:Int)(w0 w:World)(hI:IsS73 w0 w g s0_0 s0_1)(hB:Below w0.heap.size w0 w)(h:spec_l20Rd_odd.f k s0_0 s0_1 a1=some (r1,r2)) :
  Calls Try.prog 76 #[.pointer (some ⟨g,0,none⟩),.int .i64 a1] w fun e w'=>e=.returned (.bool r1)∧IsS73 w0 w' g s0_0 r2∧Below w0.heap.size w0 w'∧KeepBut w w' g none:=by
 have HI0:=Sd.mk hI
 have HK:=Sd.mk (KeepBut.refl w g none)
 have HL:=Sd.mk hB.size
 clear hI
 have HW0:=Sd.mk hB.size
 have HB:=Sd.mk hB
 clear hB
 have H:(if a1>0 then((spec_l20Rd_pick.f k s0_0 s0_1 a1).bind fun bt1326=>(some ((bt1326.1 == (wrap64 (a1-1))),bt1326.2))) else(some (false,s0_1)))=some (r1,r2):=h
 clear h
 by_cases c3:a1>0
 ·rw[if_pos c3] at H
  have c3b0:decide (0<a1)=true:=decide_eq_true c3
  clear c3
  replace H:=Option.bind_eq_some_iff.mp H
  obtain⟨⟨t1326,t1327⟩,A40,H⟩:=H
  replace H:(some ((t1326 == (wrap64 (a1-1))),t1327))=some (r1,r2):=H
  have A4:=Sd.mk A40
  clear A40
  simp only[Option.some.injEq,Prod.mk.injEq] at H
  obtain⟨rfl,rfl⟩:=H
  go_enter Try.func76,Try.ntmps76
  go_wp2_with (first|(go_at_call 66;(with_reducible refine(spec_l20Rd_pick.calls k g s0_0 s0_1 a1 t1326 t1327 w0 _ ?side1 ?side2 A4.out).mono ?_);(case side1=>exact iz);(case side2=>exact bi);rintro e w5 ⟨rfl,hi,hb,hk⟩;replace HK:=Sd.mk (KeepBut.trans kz hk (.inl rfl));replace HB:=Sd.mk (hb);replace HI0:=Sd.mk (hi);(try clear hb);(try clear hb2);(try clear hk);(try clear hi)))
  go_ret
  exact⟨by first|rfl|(simp[errW_none,errW_some]<;>rfl)|(simp[*,errW_none,errW_some]<;>rfl),iz,bi,by repeat (first|(with_reducible first|exact HK.out|apply KeepBut.set_|apply keep_drewN|apply keep_drew|apply keep_alloc)|exact HK.out)⟩
 ·rw[if_neg c3] at H
  have c3b0:decide (0<a1)=false:=decide_eq_false c3
  clear c3
  simp only[Option.some.injEq,Prod.mk.injEq] at H
  obtain⟨rfl,rfl⟩:=H
  go_enter Try.func76,Try.ntmps76
  go_wp2
  go_ret
  exact⟨by first|rfl|(simp[errW_none,errW_some]<;>rfl)|(simp[*,errW_none,errW_some]<;>rfl),iz,bi,by repeat (first|(with_reducible first|exact HK.out|apply KeepBut.set_|apply keep_drewN|apply keep_drew|apply keep_alloc)|exact HK.out)⟩
end Go.Proofs.Ytfblcanijhnhmaa.P