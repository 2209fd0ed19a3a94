/- One Go function comes to what its Lean function tells. -/
import Derived.Test.YtfblcanijhnhmaaP0
import Derived.Test.YtfblcanijhnhmaaPimplOrdOf
namespace Go.Proofs.Ytfblcanijhnhmaa.P
open Go.RowKit YtfblcanijhnhmaaW.PrintWords YtfblcanijhnhmaaW.PrintLast YtfblcanijhnhmaaW.PrintMore
set_option linter.unusedVariables false
set_option linter.unusedSimpArgs false
/-! ### laws_alive: function 33 -/
def laws_alive.f (k:Nat)  : Option (Bool):=(impl_OrdOf.f k 0).bind fun t1404=>(if(t1404.length:Int)=1 then((impl_OrdOf.f k 7).bind fun t1407=>(some ((t1407.length:Int) == 3))) else(some false))
theorem laws_alive.mono:∀ k,LeO (laws_alive.f k ) (laws_alive.f (k+1) ):=by
 intro  k
 unfold laws_alive.f
 repeat' first|(with_reducible first|exact impl_OrdOf.mono _ _|exact LeO.refl _|exact LeO.none _|refine LeO.ite ?_ ?_|refine LeO.bind ?_ (fun _=>?_))|exact impl_OrdOf.mono _ _|exact LeO.none _|refine LeO.ite ?_ ?_|refine LeO.bind ?_ (fun _=>?_)
set_option maxHeartbeats 8000000 in
set_option maxRecDepth 100000 in
theorem laws_alive.calls (k:Nat)  (r:Bool)(w:World)(h:laws_alive.f k  = some r) :
  Calls Try.prog 33 #[] w fun e w'=>e=.returned (.bool r)∧Below w.heap.size w w':=by
 have HB:=Sd.mk (Below.refl w.heap.size w)
 have H:((impl_OrdOf.f k 0).bind fun t1404=>(if(t1404.length:Int)=1 then((impl_OrdOf.f k 7).bind fun t1407=>(some ((t1407.length:Int) == 3))) else(some false)))=some r:=h
 clear h
 replace H:=Option.bind_eq_some_iff.mp H
 obtain⟨t1404,A10,H⟩:=H
 replace H:(if(t1404.length:Int)=1 then((impl_OrdOf.f k 7).bind fun t1407=>(some ((t1407.length:Int) == 3))) else(some false))=some r:=H
 have A1:=Sd.mk A10
 clear A10
 by_cases c2:(t1404.length:Int)=1
 ·rw[if_pos c2] at H
  have c2b0:((t1404.length:Int) == 1)=true:=beq_iff_eq.mpr c2
  have c2b1:((t1404.length:Int) != 1)=false:=bne_eq_false_iff_eq.mpr c2
  clear c2
  replace H:=Option.bind_eq_some_iff.mp H
  obtain⟨t1407,A30,H⟩:=H
  replace H:(some ((t1407.length:Int) == 3))=some r:=H
  have A3:=Sd.mk A30
  clear A30
  obtain rfl:=Option.some.inj H
  go_enter Try.func33,Try.ntmps33
  go_wp2_with (first|((with_reducible refine gate_callee (f:=38) rfl ?_);refine goesL_ (some 1) rfl rfl Try.func38 (by kernel_rfl) rfl #[.int .i64 0] rfl az ?_;(with_reducible refine(impl_OrdOf.calls k 0 t1404 _ A1.out).mono ?_);rintro e w4 ⟨v1405,rfl,ho0,hb⟩;refine⟨_,rfl,?_⟩;have HO1406:=Sd.mk (Kd.R_lower ho0 (below_size bz));replace HB:=Sd.mk (below_step bz hb);(try clear hb);(try clear hb2);(try clear hk);(try clear hi);(try clear ho0);obtain⟨Ao5,co5,eo5⟩:=Kd.R_slice HO1406.out;subst eo5)|(go_at_call 38;(with_reducible refine(impl_OrdOf.calls k 7 t1407 _ A3.out).mono ?_);rintro e w6 ⟨v1408,rfl,ho0,hb⟩;have HO1409:=Sd.mk (Kd.R_lower (Kd.R_new' ho0 (Kd.R_lt (Kd.Rz HO1406.out))) (below_size bz));replace HO1406:=Sd.mk (Kd.R_elder' (Kd.Rz HO1406.out) (Kd.R_base ho0) hb);replace HB:=Sd.mk (below_step bz hb);(try clear hb);(try clear hb2);(try clear hk);(try clear hi);(try clear ho0);obtain⟨Ao7,co7,eo7⟩:=Kd.R_slice HO1409.out;subst eo7))
  go_ret
  exact⟨by first|rfl|(simp[errW_none,errW_some]<;>rfl)|(simp[*,errW_none,errW_some]<;>rfl),bz⟩
 ·rw[if_neg c2] at H
  have c2b0:((t1404.length:Int) == 1)=false:=beq_eq_false_iff_ne.mpr c2
  have c2b1:((t1404.length:Int) != 1)=true:=bne_iff_ne.mpr c2
  obtain rfl:=Option.some.inj H
  go_enter Try.func33,Try.ntmps33
  go_wp2_with (first|((with_reducible refine gate_callee (f:=38) rfl ?_);refine goesL_ (some 1) rfl rfl Try.func38 (by kernel_rfl) rfl #[.int .i64 0] rfl az ?_;(with_reducible refine(impl_OrdOf.calls k 0 t1404 _ A1.out).mono ?_);rintro e w8 ⟨v1405,rfl,ho0,hb⟩;refine⟨_,rfl,?_⟩;have HO1406:=Sd.mk (Kd.R_lower ho0 (below_size bz));replace HB:=Sd.mk (below_step bz hb);(try clear hb);(try clear hb2);(try clear hk);(try clear hi);(try clear ho0);obtain⟨Ao9,co9,eo9⟩:=Kd.R_slice HO1406.out;subst eo9))
  go_ret
  exact⟨by first|rfl|(simp[errW_none,errW_some]<;>rfl)|(simp[*,errW_none,errW_some]<;>rfl),bz⟩
end Go.Proofs.Ytfblcanijhnhmaa.P