/- One Go function comes to what its Lean function tells. -/
import Derived.Test.YtbdbldhpglponaaDoorP0
import Derived.Test.YtbdbldhpglponaaDoorPimplOrdOf
namespace Go.Proofs.YtbdbldhpglponaaDoor.P
open Go.RowKit YtbdbldhpglponaaDoorW.PrintWords YtbdbldhpglponaaDoorW.PrintLast YtbdbldhpglponaaDoorW.PrintMore
set_option linter.unusedVariables false
set_option linter.unusedSimpArgs false
/-! ### laws_alive: function 16 -/
def laws_alive.f (k:Nat)  : Option (Bool):=(impl_OrdOf.f k 0).bind fun t671=>(if(t671.length:Int)=1 then((impl_OrdOf.f k 7).bind fun t674=>(some ((t674.length:Int) == 3))) else(some false))
set_option maxHeartbeats 8000000 in
set_option maxRecDepth 100000 in
theorem laws_alive.calls (k:Nat)  (r:Bool)(w:World)(h:laws_alive.f k  = some r) :
  Calls Tryd.prog 16 #[] w fun e w'=>e=.returned (.bool r)∧Below w.heap.size w w':=by
 have HB:=Sd.mk (Below.refl w.heap.size w);have H:((impl_OrdOf.f k 0).bind fun j=>(if(j.length:Int)=1 then((impl_OrdOf.f k 7).bind fun z=>(some ((z.length:Int) == 3))) else(some false)))=some r:=h;clear h;obtain⟨j,J,H⟩:=bs H
 by_cases c2:(j.length:Int)=1
 ·rw[if_pos c2] at H
  have E:((j.length:Int) == 1)=true:=beq_iff_eq.mpr c2;have G:((j.length:Int) != 1)=false:=bne_eq_false_iff_eq.mpr c2;clear c2;obtain⟨z,U,H⟩:=bs H;obtain rfl:=Option.some.inj H;go_enter Tryd.func16,Tryd.ntmps16;go_wp2_with (first|((with_reducible refine gate_callee (f:=29) rfl ?_);refine goesL_ (some 1) rfl rfl Tryd.func29 (by kernel_rfl) rfl #[.int .i64 0] rfl az ?_;(with_reducible refine(impl_OrdOf.calls k 0 j _ J.out).mono ?_);rintro e w4 ⟨I,rfl,o,hb⟩;refine⟨_,rfl,?_⟩;have m:=Sd.mk (Kd.R_lower o (below_size bz));replace HB:=Sd.mk (below_step bz hb);obtain⟨Y,Z,L⟩:=Kd.R_slice m.out;subst L)|(go_at_call 29;(with_reducible refine(impl_OrdOf.calls k 7 z _ U.out).mono ?_);rintro e w6 ⟨X,rfl,o,hb⟩;have D:=Sd.mk (Kd.R_lower (Kd.R_new' o (Kd.R_lt (Kd.Rz m.out))) (below_size bz));replace m:=Sd.mk (Kd.R_elder' (Kd.Rz m.out) (Kd.R_base o) hb);replace HB:=Sd.mk (below_step bz hb);obtain⟨aa,ab,M⟩:=Kd.R_slice D.out;subst M));go_ret;exact⟨by first|rfl|(simp[errW_none,errW_some]<;>rfl)|(simp[*,errW_none,errW_some]<;>rfl),bz⟩
 ·rw[if_neg c2] at H
  have E:((j.length:Int) == 1)=false:=beq_eq_false_iff_ne.mpr c2;have G:((j.length:Int) != 1)=true:=bne_iff_ne.mpr c2;obtain rfl:=Option.some.inj H;go_enter Tryd.func16,Tryd.ntmps16;go_wp2_with (first|((with_reducible refine gate_callee (f:=29) rfl ?_);refine goesL_ (some 1) rfl rfl Tryd.func29 (by kernel_rfl) rfl #[.int .i64 0] rfl az ?_;(with_reducible refine(impl_OrdOf.calls k 0 j _ J.out).mono ?_);rintro e w8 ⟨I,rfl,o,hb⟩;refine⟨_,rfl,?_⟩;have m:=Sd.mk (Kd.R_lower o (below_size bz));replace HB:=Sd.mk (below_step bz hb);obtain⟨ac,ad,O⟩:=Kd.R_slice m.out;subst O));go_ret;exact⟨by first|rfl|(simp[errW_none,errW_some]<;>rfl)|(simp[*,errW_none,errW_some]<;>rfl),bz⟩
end Go.Proofs.YtbdbldhpglponaaDoor.P