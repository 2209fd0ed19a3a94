/- One Go function comes to what its Lean function tells. -/
import Derived.Test.YtbdbldhpglponaaDoorP0
import Derived.Test.YtbdbldhpglponaaDoorPimplordOf
namespace Go.Proofs.YtbdbldhpglponaaDoor.P
open Go.RowKit YtbdbldhpglponaaDoorW.PrintWords YtbdbldhpglponaaDoorW.PrintLast YtbdbldhpglponaaDoorW.PrintMore
set_option linter.unusedVariables false
set_option linter.unusedSimpArgs false
/-! ### impl_OrdValid: function 15 -/
def impl_OrdValid.f (k:Nat)(l0:List Int):Option (Bool):=(impl_ordOf.f k l0).bind fun bt388=>(some bt388.2)
set_option maxHeartbeats 8000000 in
set_option maxRecDepth 100000 in
theorem impl_OrdValid.calls (k:Nat)(E:Option Addr)(G:Nat)(l0:List Int)(r:Bool)(w:World)(o:Kd.C (Kd.int .i64) w E l0.length l0)(z:l0.length≤G)(h:impl_OrdValid.f k l0=some r) :
  Calls Tryd.prog 15 #[.slice E l0.length G] w fun e w'=>e=.returned (.bool r)∧Below w.heap.size w w':=by
 have J:=Sd.mk o;have L:=Sd.mk z;clear o z;have HB:=Sd.mk (Below.refl w.heap.size w);have H:((impl_ordOf.f k l0).bind fun m=>(some m.2))=some r:=h;clear h;replace H:=Option.bind_eq_some_iff.mp H;obtain⟨⟨I,j⟩,D,H⟩:=H;replace H:(some j)=some r:=H;have U:=Sd.mk D;clear D;obtain rfl:=Option.some.inj H;go_enter Tryd.func15,Tryd.ntmps15;go_wp2_with (first|((with_reducible refine gate_callee (f:=26) rfl ?_);refine goesL_ (some 7) rfl rfl Tryd.func26 (by kernel_rfl) rfl #[.slice E l0.length G] rfl az ?_;(with_reducible refine(impl_ordOf.calls k _ _ l0 I j _ ?side1 ?side2 U.out).mono ?_);(case side1=>exact Kd.Cz J.out);(case side2=>exact L.out);rintro e Y ⟨X,rfl,M,hb⟩;refine⟨_,rfl,?_⟩;have O:=Sd.mk (Kd.R_lower M (below_size bz));replace HB:=Sd.mk (below_step bz hb)));go_ret;exact⟨by first|rfl|(simp[errW_none,errW_some]<;>rfl)|(simp[*,errW_none,errW_some]<;>rfl),bz⟩
end Go.Proofs.YtbdbldhpglponaaDoor.P