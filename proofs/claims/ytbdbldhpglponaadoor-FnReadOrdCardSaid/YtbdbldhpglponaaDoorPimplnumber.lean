/- One Go function comes to what its Lean function tells. -/
import Derived.Test.YtbdbldhpglponaaDoorP0
namespace Go.Proofs.YtbdbldhpglponaaDoor.P
open Go.RowKit YtbdbldhpglponaaDoorW.PrintWords YtbdbldhpglponaaDoorW.PrintLast YtbdbldhpglponaaDoorW.PrintMore
set_option linter.unusedVariables false
set_option linter.unusedSimpArgs false
/-! ### impl_number: function 46 -/
def impl_number.f (a0:Int):Option ((List (S57))):=if a0=0 then(some ([]:List (S57))) else(some (([(⟨a0,([]:List (S57))⟩:S57)]:List (S57))))
set_option maxHeartbeats 8000000 in
set_option maxRecDepth 100000 in
theorem impl_number.calls (j:Int)(r:List (S57))(w:World)(h:impl_number.f j=some r) :
  Calls Tryd.prog 46 #[.int .i64 j] w fun e w'=>∃ E:Value,e=.returned (E)∧Kd.R k57 57 w' w.heap.size (fun _=>True) E r∧Below w.heap.size w w':=by
 have O:=Tryd.underlying57;have HB:=Sd.mk (Below.refl w.heap.size w);have H:(if j=0 then(some ([]:List (S57))) else(some (([(⟨j,([]:List (S57))⟩:S57)]:List (S57)))))=some r:=h;clear h
 by_cases c2:j=0
 ·rw[if_pos c2] at H
  have G:(j == 0)=true:=beq_iff_eq.mpr c2;have I:(j != 0)=false:=bne_eq_false_iff_eq.mpr c2;clear c2;obtain rfl:=Option.some.inj H;go_enter Tryd.func46,Tryd.ntmps46;go_wp2;go_ret;exact⟨_,by first|rfl|(simp[errW_none,errW_some]<;>rfl)|(simp[*,errW_none,errW_some]<;>rfl),by first|exact Kd.R_nil _ _ _ _ _|exact Kd.N_nil _ _ _ _ _|exact Kd.V_nil _ _ _ _ _|exact Kd.Q_nil _ _ _ _ _|exact Kd.S_nil _ _ _ _ _,bz⟩
 ·rw[if_neg c2] at H
  have G:(j == 0)=false:=beq_eq_false_iff_ne.mpr c2;have I:(j != 0)=true:=bne_iff_ne.mpr c2;obtain⟨J,m⟩:∃ y_:List (S57),y_=(([(⟨j,([]:List (S57))⟩:S57)]:List (S57))):=⟨_,rfl⟩;replace H:(some J)=some r:=hz m H;have z:=Sd.mk m;clear m;obtain rfl:=Option.some.inj H;go_enter Tryd.func46,Tryd.ntmps46;go_wp2_with (first|((with_reducible refine gate_dst (N:=7) rfl ?_);refine Kd.R_lit k57 _ 57 ?hg (N:=7) ?hd (xs:=([(⟨j,([]:List (S57))⟩:S57)]:List (S57))) (inner:=[.int .i64 j,.slice none 0 0]) (ok:=fun _=>True) (okp:=fun _=>True) ?hr ?hp (fun _ hk=>hk) trivial (Below.refl _ _) (Nat.le_refl _) (by simp) ?_;(case hd=>rfl);(case hg=>rfl);(case hr=>first|(go_simp;done)|(go_simp;rfl));(case hp=>exact(Reps.c2 (show Kd.M k57 _ _ _ (⟨j,([]:List (S57))⟩:S57) [.int .i64 j,.slice none 0 0] from(k57_mkM _ _ _ (⟨j,([]:List (S57))⟩:S57) (Kd.R_nil _ _ _ _ _))) (Reps.none _ _)));intro U X o hb L hnew_;clear L hnew_;(first|rw[← z.out] at o|(simp only[Int.reduceToNat] at o;rw[← z.out] at o));have D:=Sd.mk (Kd.R_lower o (below_size bz));replace HB:=Sd.mk (below_step bz hb);clear hb o));go_ret;exact⟨_,by first|rfl|(simp[errW_none,errW_some]<;>rfl)|(simp[*,errW_none,errW_some]<;>rfl),by(with_reducible repeat (first|apply Kd.R_alloc|apply Kd.R_drewN|apply Kd.R_drew));exact D.out,bz⟩
end Go.Proofs.YtbdbldhpglponaaDoor.P