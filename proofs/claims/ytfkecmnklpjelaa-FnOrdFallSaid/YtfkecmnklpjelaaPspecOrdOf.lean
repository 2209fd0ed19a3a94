/- One Go function comes to what its Lean function tells. -/
import Derived.Test.YtfkecmnklpjelaaP0
import Derived.Test.YtfkecmnklpjelaaPspecl1In
namespace Go.Proofs.Ytfkecmnklpjelaa.P
open Go.RowKit YtfkecmnklpjelaaW.PrintWords YtfkecmnklpjelaaW.PrintLast YtfkecmnklpjelaaW.PrintMore
set_option linter.unusedVariables false
set_option linter.unusedSimpArgs false
/-! ### spec_OrdOf: function 49 -/
def spec_OrdOf.f (a0:Int):Option (List Int):=(spec_l1In.f a0 0 9999).bind fun t442=>(if t442=true then(if a0=0 then(some (([0]:List Int))) else(some (([1,a0,0]:List Int)))) else(some (([]:List Int))))
set_option maxHeartbeats 8000000 in
set_option maxRecDepth 100000 in
theorem spec_OrdOf.calls (a0:Int)(r:List Int)(w:World)(h:spec_OrdOf.f a0=some r) :
  Calls Try.prog 49 #[.int .i64 a0] w fun e w'=>∃ v0_:Value,e=.returned (v0_)∧Kd.R (Kd.int .i64) 3 w' w.heap.size (fun _=>True) v0_ r∧Below w.heap.size w w':=by
 have HB:=Aside0.mk (Below.refl w.heap.size w)
 have H:((spec_l1In.f a0 0 9999).bind fun t442=>(if t442=true then(if a0=0 then(some (([0]:List Int))) else(some (([1,a0,0]:List Int)))) else(some (([]:List Int)))))=some r:=h
 clear h
 replace H:=Option.bind_eq_some_iff.mp H
 obtain⟨t442,A20,H⟩:=H
 replace H:(if t442=true then(if a0=0 then(some (([0]:List Int))) else(some (([1,a0,0]:List Int)))) else(some (([]:List Int))))=some r:=H
 have A2:=Aside0.mk A20
 clear A20
 by_cases c3:t442=true
 ·subst c3
  have H1:(if a0=0 then(some (([0]:List Int))) else(some (([1,a0,0]:List Int))))=some r:=by rw[if_pos rfl] at H;exact H
  clear H
  have H:=H1
  clear H1
  by_cases c4:a0=0
  ·rw[if_pos c4] at H
   have c4b0:(a0 == 0)=true:=beq_iff_eq.mpr c4
   have c4b1:(a0 != 0)=false:=bne_eq_false_iff_eq.mpr c4
   clear c4
   obtain⟨y443,hy443⟩:∃ y_:List Int,y_=(([0]:List Int)):=⟨_,rfl⟩
   replace H:(some y443)=some r:=hz hy443 H
   have Ny443:=Aside0.mk hy443
   clear hy443
   obtain rfl:=Option.some.inj H
   go_enter Try.func49,Try.ntmps49
   go_wp2_with (first|((with_reducible refine gate_callee (f:=18) rfl ?_);refine goesL_ (some 4) rfl rfl Try.func18 (by kernel_rfl) rfl #[.int .i64 a0,.int .i64 0,.int .i64 9999] rfl az ?_;(with_reducible refine(spec_l1In.calls a0 0 9999 true _ A2.out).mono ?_);rintro e w' ⟨rfl,⟨nd,rfl⟩⟩;refine⟨_,rfl,?_⟩)|((with_reducible refine gate_dst (N:=9) rfl ?_);refine Kd.R_lit (Kd.int .i64) _ 3 ?hg (N:=9) ?hd (xs:=([0]:List Int)) (inner:=[.int .i64 0]) (ok:=fun _=>True) (okp:=fun _=>True) ?hr ?hp (fun _ hk=>hk) trivial (Below.refl _ _) (Nat.le_refl _) (by simp) ?_;(case hd=>rfl);(case hg=>rfl);(case hr=>first|(go_simp;done)|(go_simp;rfl));(case hp=>exact(Reps.one (show Kd.M (Kd.int .i64) _ _ _ 0 [.int .i64 0] from rfl) (Reps.none _ _)));intro v444 w5 ho6 hb hg_ hnew_;clear hg_ hnew_;(first|rw[← Ny443.out] at ho6|(simp only[Int.reduceToNat] at ho6;rw[← Ny443.out] at ho6));have HO445:=Aside0.mk (Kd.R_lower ho6 (below_size bz));replace HB:=Aside0.mk (below_step bz hb);clear hb ho6))
   go_ret
   exact⟨_,by first|rfl|(simp[errW_none,errW_some]<;>rfl)|(simp[*,errW_none,errW_some]<;>rfl),by(with_reducible repeat (first|apply Kd.R_alloc|apply Kd.R_drewN|apply Kd.R_drew));exact HO445.out,bz⟩
  ·rw[if_neg c4] at H
   have c4b0:(a0 == 0)=false:=beq_eq_false_iff_ne.mpr c4
   have c4b1:(a0 != 0)=true:=bne_iff_ne.mpr c4
   obtain⟨y446,hy446⟩:∃ y_:List Int,y_=(([1,a0,0]:List Int)):=⟨_,rfl⟩
   replace H:(some y446)=some r:=hz hy446 H
   have Ny446:=Aside0.mk hy446
   clear hy446
   obtain rfl:=Option.some.inj H
   go_enter Try.func49,Try.ntmps49
   go_wp2_with (first|((with_reducible refine gate_callee (f:=18) rfl ?_);refine goesL_ (some 4) rfl rfl Try.func18 (by kernel_rfl) rfl #[.int .i64 a0,.int .i64 0,.int .i64 9999] rfl az ?_;(with_reducible refine(spec_l1In.calls a0 0 9999 true _ A2.out).mono ?_);rintro e w' ⟨rfl,⟨nd,rfl⟩⟩;refine⟨_,rfl,?_⟩)|((with_reducible refine gate_dst (N:=11) rfl ?_);refine Kd.R_lit (Kd.int .i64) _ 3 ?hg (N:=11) ?hd (xs:=([1,a0,0]:List Int)) (inner:=[.int .i64 1,.int .i64 a0,.int .i64 0]) (ok:=fun _=>True) (okp:=fun _=>True) ?hr ?hp (fun _ hk=>hk) trivial (Below.refl _ _) (Nat.le_refl _) (by simp) ?_;(case hd=>rfl);(case hg=>rfl);(case hr=>first|(go_simp;done)|(go_simp;rfl));(case hp=>exact(Reps.one (show Kd.M (Kd.int .i64) _ _ _ 1 [.int .i64 1] from rfl) (Reps.one (show Kd.M (Kd.int .i64) _ _ _ a0 [.int .i64 a0] from rfl) (Reps.one (show Kd.M (Kd.int .i64) _ _ _ 0 [.int .i64 0] from rfl) (Reps.none _ _)))));intro v447 w7 ho8 hb hg_ hnew_;clear hg_ hnew_;(first|rw[← Ny446.out] at ho8|(simp only[Int.reduceToNat] at ho8;rw[← Ny446.out] at ho8));have HO448:=Aside0.mk (Kd.R_lower ho8 (below_size bz));replace HB:=Aside0.mk (below_step bz hb);clear hb ho8))
   go_ret
   exact⟨_,by first|rfl|(simp[errW_none,errW_some]<;>rfl)|(simp[*,errW_none,errW_some]<;>rfl),by(with_reducible repeat (first|apply Kd.R_alloc|apply Kd.R_drewN|apply Kd.R_drew));exact HO448.out,bz⟩
 ·replace c3:=Bool.eq_false_iff.mpr c3
  subst c3
  have H1:(some (([]:List Int)))=some r:=by rw[if_neg (show ¬ (false=true) by decide)] at H;exact H
  clear H
  have H:=H1
  clear H1
  obtain⟨y449,hy449⟩:∃ y_:List Int,y_=(([]:List Int)):=⟨_,rfl⟩
  replace H:(some y449)=some r:=hz hy449 H
  have Ny449:=Aside0.mk hy449
  clear hy449
  obtain rfl:=Option.some.inj H
  go_enter Try.func49,Try.ntmps49
  go_wp2_with (first|((with_reducible refine gate_callee (f:=18) rfl ?_);refine goesL_ (some 4) rfl rfl Try.func18 (by kernel_rfl) rfl #[.int .i64 a0,.int .i64 0,.int .i64 9999] rfl az ?_;(with_reducible refine(spec_l1In.calls a0 0 9999 false _ A2.out).mono ?_);rintro e w' ⟨rfl,⟨nd,rfl⟩⟩;refine⟨_,rfl,?_⟩)|((with_reducible refine gate_dst (N:=6) rfl ?_);refine Kd.R_lit (Kd.int .i64) _ 3 ?hg (N:=6) ?hd (xs:=([]:List Int)) (inner:=[]) (ok:=fun _=>True) (okp:=fun _=>True) ?hr ?hp (fun _ hk=>hk) trivial (Below.refl _ _) (Nat.le_refl _) (by simp) ?_;(case hd=>rfl);(case hg=>rfl);(case hr=>first|(go_simp;done)|(go_simp;rfl));(case hp=>exact(Reps.none _ _));intro v450 w9 ho10 hb hg_ hnew_;clear hg_ hnew_;(first|rw[← Ny449.out] at ho10|(simp only[Int.reduceToNat] at ho10;rw[← Ny449.out] at ho10));have HO451:=Aside0.mk (Kd.R_lower ho10 (below_size bz));replace HB:=Aside0.mk (below_step bz hb);clear hb ho10))
  go_ret
  exact⟨_,by first|rfl|(simp[errW_none,errW_some]<;>rfl)|(simp[*,errW_none,errW_some]<;>rfl),by(with_reducible repeat (first|apply Kd.R_alloc|apply Kd.R_drewN|apply Kd.R_drew));exact HO451.out,bz⟩
end Go.Proofs.Ytfkecmnklpjelaa.P