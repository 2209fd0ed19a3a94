/- One Go function comes to what its Lean function tells. -/
import Derived.Test.YtfblcanijhnhmaaP0
import Derived.Test.YtfblcanijhnhmaaPspecl1In
namespace Go.Proofs.Ytfblcanijhnhmaa.P
open Go.RowKit YtfblcanijhnhmaaW.PrintWords YtfblcanijhnhmaaW.PrintLast YtfblcanijhnhmaaW.PrintMore
set_option linter.unusedVariables false
set_option linter.unusedSimpArgs false
-- NOT PRINTED: function 30 (impl_OrdDivide)
-- NOT PRINTED: function 8 (laws_FnExactOrdDivide)
/-! ### spec_OrdOf: function 78 -/
def spec_OrdOf.f (a0:Int):Option (List Int):=(spec_l1In.f a0 0 9999).bind fun t1229=>(if t1229=true then(if a0=0 then(some (([0]:List Int))) else(some (([1,a0,0]:List Int)))) else(some (([]:List Int))))
set_option maxHeartbeats 8000000 in
set_option maxRecDepth 100000 in
theorem spec_OrdOf.calls (a0:Int)(r:List Int)(w:World)(h:spec_OrdOf.f a0=some r) :
  Calls Try.prog 78 #[.int .i64 a0] w fun e w'=>∃ v0_:Value,e=.returned (v0_)∧Kd.R (Kd.int .i64) 3 w' w.heap.size (fun _=>True) v0_ r∧Below w.heap.size w w':=by
 have HB:=Sd.mk (Below.refl w.heap.size w)
 have H:((spec_l1In.f a0 0 9999).bind fun t1229=>(if t1229=true then(if a0=0 then(some (([0]:List Int))) else(some (([1,a0,0]:List Int)))) else(some (([]:List Int)))))=some r:=h
 clear h
 replace H:=Option.bind_eq_some_iff.mp H
 obtain⟨t1229,A20,H⟩:=H
 replace H:(if t1229=true then(if a0=0 then(some (([0]:List Int))) else(some (([1,a0,0]:List Int)))) else(some (([]:List Int))))=some r:=H
 have A2:=Sd.mk A20
 clear A20
 by_cases c3:t1229=true
 ·subst c3
  have H1:(if a0=0 then(some (([0]:List Int))) else(some (([1,a0,0]:List Int))))=some r:=by rw[if_pos rfl] at H;exact H
  clear H
  have H:=H1
  clear H1
  by_cases c4:a0=0
  ·rw[if_pos c4] at H
   have c4b0:(a0 == 0)=true:=beq_iff_eq.mpr c4
   have c4b1:(a0 != 0)=false:=bne_eq_false_iff_eq.mpr c4
   clear c4
   obtain⟨y1230,hy1230⟩:∃ y_:List Int,y_=(([0]:List Int)):=⟨_,rfl⟩
   replace H:(some y1230)=some r:=hz hy1230 H
   have Ny1230:=Sd.mk hy1230
   clear hy1230
   obtain rfl:=Option.some.inj H
   go_enter Try.func78,Try.ntmps78
   go_wp2_with (first|((with_reducible refine gate_callee (f:=58) rfl ?_);refine goesL_ (some 4) rfl rfl Try.func58 (by kernel_rfl) rfl #[.int .i64 a0,.int .i64 0,.int .i64 9999] rfl az ?_;(with_reducible refine(spec_l1In.calls a0 0 9999 true _ A2.out).mono ?_);rintro e w' ⟨rfl,⟨nd,rfl⟩⟩;refine⟨_,rfl,?_⟩)|((with_reducible refine gate_dst (N:=9) rfl ?_);refine Kd.R_lit (Kd.int .i64) _ 3 ?hg (N:=9) ?hd (xs:=([0]:List Int)) (inner:=[.int .i64 0]) (ok:=fun _=>True) (okp:=fun _=>True) ?hr ?hp (fun _ hk=>hk) trivial (Below.refl _ _) (Nat.le_refl _) (by simp) ?_;(case hd=>rfl);(case hg=>rfl);(case hr=>first|(go_simp;done)|(go_simp;rfl));(case hp=>exact(Reps.one (show Kd.M (Kd.int .i64) _ _ _ 0 [.int .i64 0] from rfl) (Reps.none _ _)));intro v1231 w5 ho6 hb hg_ hnew_;clear hg_ hnew_;(first|rw[← Ny1230.out] at ho6|(simp only[Int.reduceToNat] at ho6;rw[← Ny1230.out] at ho6));have HO1232:=Sd.mk (Kd.R_lower ho6 (below_size bz));replace HB:=Sd.mk (below_step bz hb);clear hb ho6))
   go_ret
   exact⟨_,by first|rfl|(simp[errW_none,errW_some]<;>rfl)|(simp[*,errW_none,errW_some]<;>rfl),by(with_reducible repeat (first|apply Kd.R_alloc|apply Kd.R_drewN|apply Kd.R_drew));exact HO1232.out,bz⟩
  ·rw[if_neg c4] at H
   have c4b0:(a0 == 0)=false:=beq_eq_false_iff_ne.mpr c4
   have c4b1:(a0 != 0)=true:=bne_iff_ne.mpr c4
   obtain⟨y1233,hy1233⟩:∃ y_:List Int,y_=(([1,a0,0]:List Int)):=⟨_,rfl⟩
   replace H:(some y1233)=some r:=hz hy1233 H
   have Ny1233:=Sd.mk hy1233
   clear hy1233
   obtain rfl:=Option.some.inj H
   go_enter Try.func78,Try.ntmps78
   go_wp2_with (first|((with_reducible refine gate_callee (f:=58) rfl ?_);refine goesL_ (some 4) rfl rfl Try.func58 (by kernel_rfl) rfl #[.int .i64 a0,.int .i64 0,.int .i64 9999] rfl az ?_;(with_reducible refine(spec_l1In.calls a0 0 9999 true _ A2.out).mono ?_);rintro e w' ⟨rfl,⟨nd,rfl⟩⟩;refine⟨_,rfl,?_⟩)|((with_reducible refine gate_dst (N:=11) rfl ?_);refine Kd.R_lit (Kd.int .i64) _ 3 ?hg (N:=11) ?hd (xs:=([1,a0,0]:List Int)) (inner:=[.int .i64 1,.int .i64 a0,.int .i64 0]) (ok:=fun _=>True) (okp:=fun _=>True) ?hr ?hp (fun _ hk=>hk) trivial (Below.refl _ _) (Nat.le_refl _) (by simp) ?_;(case hd=>rfl);(case hg=>rfl);(case hr=>first|(go_simp;done)|(go_simp;rfl));(case hp=>exact(Reps.one (show Kd.M (Kd.int .i64) _ _ _ 1 [.int .i64 1] from rfl) (Reps.one (show Kd.M (Kd.int .i64) _ _ _ a0 [.int .i64 a0] from rfl) (Reps.one (show Kd.M (Kd.int .i64) _ _ _ 0 [.int .i64 0] from rfl) (Reps.none _ _)))));intro v1234 w7 ho8 hb hg_ hnew_;clear hg_ hnew_;(first|rw[← Ny1233.out] at ho8|(simp only[Int.reduceToNat] at ho8;rw[← Ny1233.out] at ho8));have HO1235:=Sd.mk (Kd.R_lower ho8 (below_size bz));replace HB:=Sd.mk (below_step bz hb);clear hb ho8))
   go_ret
   exact⟨_,by first|rfl|(simp[errW_none,errW_some]<;>rfl)|(simp[*,errW_none,errW_some]<;>rfl),by(with_reducible repeat (first|apply Kd.R_alloc|apply Kd.R_drewN|apply Kd.R_drew));exact HO1235.out,bz⟩
 ·replace c3:=Bool.eq_false_iff.mpr c3
  subst c3
  have H1:(some (([]:List Int)))=some r:=by rw[if_neg (show ¬ (false=true) by decide)] at H;exact H
  clear H
  have H:=H1
  clear H1
  obtain⟨y1236,hy1236⟩:∃ y_:List Int,y_=(([]:List Int)):=⟨_,rfl⟩
  replace H:(some y1236)=some r:=hz hy1236 H
  have Ny1236:=Sd.mk hy1236
  clear hy1236
  obtain rfl:=Option.some.inj H
  go_enter Try.func78,Try.ntmps78
  go_wp2_with (first|((with_reducible refine gate_callee (f:=58) rfl ?_);refine goesL_ (some 4) rfl rfl Try.func58 (by kernel_rfl) rfl #[.int .i64 a0,.int .i64 0,.int .i64 9999] rfl az ?_;(with_reducible refine(spec_l1In.calls a0 0 9999 false _ A2.out).mono ?_);rintro e w' ⟨rfl,⟨nd,rfl⟩⟩;refine⟨_,rfl,?_⟩)|((with_reducible refine gate_dst (N:=6) rfl ?_);refine Kd.R_lit (Kd.int .i64) _ 3 ?hg (N:=6) ?hd (xs:=([]:List Int)) (inner:=[]) (ok:=fun _=>True) (okp:=fun _=>True) ?hr ?hp (fun _ hk=>hk) trivial (Below.refl _ _) (Nat.le_refl _) (by simp) ?_;(case hd=>rfl);(case hg=>rfl);(case hr=>first|(go_simp;done)|(go_simp;rfl));(case hp=>exact(Reps.none _ _));intro v1237 w9 ho10 hb hg_ hnew_;clear hg_ hnew_;(first|rw[← Ny1236.out] at ho10|(simp only[Int.reduceToNat] at ho10;rw[← Ny1236.out] at ho10));have HO1238:=Sd.mk (Kd.R_lower ho10 (below_size bz));replace HB:=Sd.mk (below_step bz hb);clear hb ho10))
  go_ret
  exact⟨_,by first|rfl|(simp[errW_none,errW_some]<;>rfl)|(simp[*,errW_none,errW_some]<;>rfl),by(with_reducible repeat (first|apply Kd.R_alloc|apply Kd.R_drewN|apply Kd.R_drew));exact HO1238.out,bz⟩
end Go.Proofs.Ytfblcanijhnhmaa.P