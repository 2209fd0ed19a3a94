/- One Go function comes to what its Lean function tells. -/
import Derived.Test.YtfblcanijhnhmaaP0
namespace Go.Proofs.Ytfblcanijhnhmaa.P
open Go.RowKit YtfblcanijhnhmaaW.PrintWords YtfblcanijhnhmaaW.PrintLast YtfblcanijhnhmaaW.PrintMore
set_option linter.unusedVariables false
set_option linter.unusedSimpArgs false
/-! ### impl_number: function 60 -/
def impl_number.f (a0:Int):Option ((List (S61))):=if a0=0 then(some ([]:List (S61))) else(some (([(⟨a0,([]:List (S61))⟩:S61)]:List (S61))))
set_option maxHeartbeats 8000000 in
set_option maxRecDepth 100000 in
theorem impl_number.calls (a0:Int)(r:List (S61))(w:World)(h:impl_number.f a0=some r) :
  Calls Try.prog 60 #[.int .i64 a0] w fun e w'=>∃ v0_:Value,e=.returned (v0_)∧Kd.R k61 61 w' w.heap.size (fun _=>True) v0_ r∧Below w.heap.size w w':=by
 have hu61:=Try.underlying61;have HB:=Sd.mk (Below.refl w.heap.size w);have H:(if a0=0 then(some ([]:List (S61))) else(some (([(⟨a0,([]:List (S61))⟩:S61)]:List (S61)))))=some r:=h;clear h
 by_cases c2:a0=0
 ·rw[if_pos c2] at H
  have c2b0:(a0 == 0)=true:=beq_iff_eq.mpr c2;have c2b1:(a0 != 0)=false:=bne_eq_false_iff_eq.mpr c2;clear c2;obtain rfl:=Option.some.inj H;go_enter Try.func60,Try.ntmps60;go_wp2;go_ret;exact⟨_,by first|rfl|(simp[errW_none,errW_some]<;>rfl)|(simp[*,errW_none,errW_some]<;>rfl),by first|exact Kd.R_nil _ _ _ _ _|exact Kd.N_nil _ _ _ _ _|exact Kd.V_nil _ _ _ _ _|exact Kd.Q_nil _ _ _ _ _|exact Kd.S_nil _ _ _ _ _,bz⟩
 ·rw[if_neg c2] at H
  have c2b0:(a0 == 0)=false:=beq_eq_false_iff_ne.mpr c2;have c2b1:(a0 != 0)=true:=bne_iff_ne.mpr c2;obtain⟨y688,hy688⟩:∃ y_:List (S61),y_=(([(⟨a0,([]:List (S61))⟩:S61)]:List (S61))):=⟨_,rfl⟩;replace H:(some y688)=some r:=hz hy688 H;have Ny688:=Sd.mk hy688;clear hy688;obtain rfl:=Option.some.inj H;go_enter Try.func60,Try.ntmps60;go_wp2_with (first|((with_reducible refine gate_dst (N:=7) rfl ?_);refine Kd.R_lit k61 _ 61 ?hg (N:=7) ?hd (xs:=([(⟨a0,([]:List (S61))⟩:S61)]:List (S61))) (inner:=[.int .i64 a0,.slice none 0 0]) (ok:=fun _=>True) (okp:=fun _=>True) ?hr ?hp (fun _ hk=>hk) trivial (Below.refl _ _) (Nat.le_refl _) (by simp) ?_;(case hd=>rfl);(case hg=>rfl);(case hr=>first|(go_simp;done)|(go_simp;rfl));(case hp=>exact(Reps.c2 (show Kd.M k61 _ _ _ (⟨a0,([]:List (S61))⟩:S61) [.int .i64 a0,.slice none 0 0] from(k61_mkM _ _ _ (⟨a0,([]:List (S61))⟩:S61) (Kd.R_nil _ _ _ _ _))) (Reps.none _ _)));intro v689 w3 ho4 hb hg_ hnew_;clear hg_ hnew_;(first|rw[← Ny688.out] at ho4|(simp only[Int.reduceToNat] at ho4;rw[← Ny688.out] at ho4));have HO690:=Sd.mk (Kd.R_lower ho4 (below_size bz));replace HB:=Sd.mk (below_step bz hb);clear hb ho4));go_ret;exact⟨_,by first|rfl|(simp[errW_none,errW_some]<;>rfl)|(simp[*,errW_none,errW_some]<;>rfl),by(with_reducible repeat (first|apply Kd.R_alloc|apply Kd.R_drewN|apply Kd.R_drew));exact HO690.out,bz⟩
end Go.Proofs.Ytfblcanijhnhmaa.P