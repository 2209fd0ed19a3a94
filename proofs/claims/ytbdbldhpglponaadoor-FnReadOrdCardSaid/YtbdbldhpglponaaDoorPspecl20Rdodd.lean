/- One Go function comes to what its Lean function tells. -/
import Derived.Test.YtbdbldhpglponaaDoorP0
import Derived.Test.YtbdbldhpglponaaDoorPspecl20Rdpick
namespace Go.Proofs.YtbdbldhpglponaaDoor.P
open Go.RowKit YtbdbldhpglponaaDoorW.PrintWords YtbdbldhpglponaaDoorW.PrintLast YtbdbldhpglponaaDoorW.PrintMore
set_option linter.unusedVariables false
set_option linter.unusedSimpArgs false
/-! ### spec_l20Rd_odd: function 38 -/
def spec_l20Rd_odd.f (k:Nat)(s0_0:List Int)(s0_1:Int)(a1:Int):Option (Bool × Int):=if a1>0 then((spec_l20Rd_pick.f k s0_0 s0_1 a1).bind fun bt615=>(some ((bt615.1 == (wrap64 (a1-1))),bt615.2))) else(some (false,s0_1))
set_option maxHeartbeats 8000000 in
set_option maxRecDepth 100000 in
theorem spec_l20Rd_odd.calls (k:Nat)(g:Nat)(j:List Int)(m:Int)(o:Int)(I:Bool)(J:Int)(z w:World)(hI:IsS66 z w g j m)(hB:Below z.heap.size z w)(h:spec_l20Rd_odd.f k j m o=some (I,J)) :
  Calls Tryd.prog 38 #[.pointer (some ⟨g,0,none⟩),.int .i64 o] w fun e w'=>e=.returned (.bool I)∧IsS66 z w' g j J∧Below z.heap.size z w'∧KeepBut w w' g none:=by
 have HI0:=Sd.mk hI;have HK:=Sd.mk (KeepBut.refl w g none);have X:=Sd.mk hB.size;clear hI;have U:=Sd.mk hB.size;have HB:=Sd.mk hB;clear hB;have H:(if o>0 then((spec_l20Rd_pick.f k j m o).bind fun D=>(some ((D.1 == (wrap64 (o-1))),D.2))) else(some (false,m)))=some (I,J):=h;clear h
 by_cases c3:o>0
 ·rw[if_pos c3] at H
  have M:decide (0<o)=true:=decide_eq_true c3;clear c3;replace H:=Option.bind_eq_some_iff.mp H;obtain⟨⟨E,G⟩,L,H⟩:=H;replace H:(some ((E == (wrap64 (o-1))),G))=some (I,J):=H;have O:=Sd.mk L;clear L;simp only[Option.some.injEq,Prod.mk.injEq] at H;obtain⟨rfl,rfl⟩:=H;go_enter Tryd.func38,Tryd.ntmps38;go_wp2_with (first|(go_at_call 30;(with_reducible refine(spec_l20Rd_pick.calls k g j m o E G z _ ?side1 ?side2 O.out).mono ?_);(case side1=>exact iz);(case side2=>exact bi);rintro e Y ⟨rfl,hi,hb,hk⟩;replace HK:=Sd.mk (KeepBut.trans kz hk (.inl rfl));replace HB:=Sd.mk (hb);replace HI0:=Sd.mk (hi)));go_ret;exact⟨by first|rfl|(simp[errW_none,errW_some]<;>rfl)|(simp[*,errW_none,errW_some]<;>rfl),iz,bi,by repeat (first|(with_reducible first|exact HK.out|apply KeepBut.set_|apply keep_drewN|apply keep_drew|apply keep_alloc)|exact HK.out)⟩
 ·rw[if_neg c3] at H
  have M:decide (0<o)=false:=decide_eq_false c3;clear c3;simp only[Option.some.injEq,Prod.mk.injEq] at H;obtain⟨rfl,rfl⟩:=H;go_enter Tryd.func38,Tryd.ntmps38;go_wp2;go_ret;exact⟨by first|rfl|(simp[errW_none,errW_some]<;>rfl)|(simp[*,errW_none,errW_some]<;>rfl),iz,bi,by repeat (first|(with_reducible first|exact HK.out|apply KeepBut.set_|apply keep_drewN|apply keep_drew|apply keep_alloc)|exact HK.out)⟩
end Go.Proofs.YtbdbldhpglponaaDoor.P