/- One Go function comes to what its Lean function tells. -/
import Derived.Test.YtbdbldhpglponaaDoorP0
import Derived.Test.YtbdbldhpglponaaDoorPimplnumber
import Derived.Test.YtbdbldhpglponaaDoorPimplrowOf
namespace Go.Proofs.YtbdbldhpglponaaDoor.P
open Go.RowKit YtbdbldhpglponaaDoorW.PrintWords YtbdbldhpglponaaDoorW.PrintLast YtbdbldhpglponaaDoorW.PrintMore
set_option linter.unusedVariables false
set_option linter.unusedSimpArgs false
/-! ### impl_OrdOf: function 29 -/
def impl_OrdOf.j0:Nat→Int→Bool→Option (List Int)
 | 0,_,_=>none
 | k+1,x0,x8=>if x8=true then(some ([]:List Int)) else((impl_number.f x0).bind fun t665=>((impl_rowOf.f k t665).bind fun t668=>(some t668)))
def impl_OrdOf.f (k:Nat)(a0:Int):Option (List Int):=if a0<0 then(impl_OrdOf.j0 k a0 true) else(impl_OrdOf.j0 k a0 (decide (a0>9999)))
set_option maxHeartbeats 8000000 in
set_option maxRecDepth 100000 in
theorem impl_OrdOf.calls (k:Nat)(m:Int)(r:List Int)(w:World)(h:impl_OrdOf.f k m=some r) :
  Calls Tryd.prog 29 #[.int .i64 m] w fun e w'=>∃ J:Value,e=.returned (J)∧Kd.R (Kd.int .i64) 3 w' w.heap.size (fun _=>True) J r∧Below w.heap.size w w':=by
 have HB:=Sd.mk (Below.refl w.heap.size w);have H:(if m<0 then(impl_OrdOf.j0 k m true) else(impl_OrdOf.j0 k m (decide (m>9999))))=some r:=h;clear h;have E:=Sd.mk H;clear H;go_enter Tryd.func29,Tryd.ntmps29
 go_upto_region 1 with (fail)
 go_cut [8] (fun Z wc=>∃ (kq:Nat) (z:Bool),Z=.bool z∧Sd (impl_OrdOf.j0 kq m z=some r)∧Sd (kq≤k)∧Sd (Below w.heap.size w wc))
 case first =>
  have H:=E.out;clear E
  by_cases c3:m<0
  ·rw[if_pos c3] at H
   have o:decide (m<0)=true:=decide_eq_true c3;clear c3
   (first|rw[o]|(simp only[i64_w,i32_w];rw[o])|skip)
   have H':=Sd.mk H;clear H;go_wp2;go_meet
   case rel=>exact⟨_,(true),(by first|rfl|(simp;done)|(simp[*];done)),H',⟨by first|omega|exact Nat.le_refl _⟩,⟨bz⟩⟩
  ·rw[if_neg c3] at H
   have o:decide (m<0)=false:=decide_eq_false c3;clear c3
   (first|rw[o]|(simp only[i64_w,i32_w];rw[o])|skip)
   have H':=Sd.mk H;clear H;go_wp2;go_meet
   case rel=>exact⟨_,(decide (m>9999)),(by first|rfl|(simp;done)|(simp[*];done)),H',⟨by first|omega|exact Nat.le_refl _⟩,⟨bz⟩⟩
 case rest =>
  clear E;obtain⟨kq,z,rfl,L,ae,HB⟩:=hcut
  cases kq with
  | zero=>exact absurd L.out (by simp[impl_OrdOf.j0])
  | succ O =>
   have H:=L.out;clear L;simp only[impl_OrdOf.j0] at H
   by_cases c4:z=true
   ·subst c4
    replace H:=ip rfl H;obtain rfl:=Option.some.inj H;go_wp2;go_ret;exact⟨_,by first|rfl|(simp[errW_none,errW_some]<;>rfl)|(simp[*,errW_none,errW_some]<;>rfl),by first|exact Kd.R_nil _ _ _ _ _|exact Kd.N_nil _ _ _ _ _|exact Kd.V_nil _ _ _ _ _|exact Kd.Q_nil _ _ _ _ _|exact Kd.S_nil _ _ _ _ _,bz⟩
   ·replace c4:=Bool.eq_false_iff.mpr c4
    subst c4;replace H:=ng ft H;obtain⟨D,A5,H⟩:=bs H;obtain⟨M,A6,H⟩:=bs H;obtain rfl:=Option.some.inj H;go_wp2_with (first|((with_reducible refine gate_callee (f:=46) rfl ?_);refine goesL_ (some 10) rfl rfl Tryd.func46 (by kernel_rfl) rfl #[.int .i64 m] rfl az ?_;(with_reducible refine(impl_number.calls m D _ A5.out).mono ?_);rintro e w7 ⟨ac,rfl,G,hb⟩;refine⟨_,rfl,?_⟩;have j:=Sd.mk (Kd.R_lower G (below_size bz));replace HB:=Sd.mk (below_step bz hb);obtain⟨U,X,Y⟩:=Kd.R_slice j.out;subst Y)|((with_reducible refine gate_callee (f:=23) rfl ?_);refine goesL_ (some 11) rfl rfl Tryd.func23 (by kernel_rfl) rfl #[.slice U D.length X] rfl az ?_;(with_reducible refine(impl_rowOf.calls O _ _ D M _ ?side1 ?side2 A6.out).mono ?_);(case side1=>exact Kd.Cz (Kd.R_reads' j.out).2.2);(case side2=>exact(Kd.R_reads' j.out).2.1);rintro e w9 ⟨ad,rfl,G,hb⟩;refine⟨_,rfl,?_⟩;replace j:=Sd.mk (Kd.R_below (Kd.Rz j.out) hb);have I:=Sd.mk (Kd.R_lower G (below_size bz));replace HB:=Sd.mk (below_step bz hb)));go_ret;exact⟨_,by first|rfl|(simp[errW_none,errW_some]<;>rfl)|(simp[*,errW_none,errW_some]<;>rfl),by(with_reducible repeat (first|apply Kd.R_alloc|apply Kd.R_drewN|apply Kd.R_drew));exact I.out,bz⟩
end Go.Proofs.YtbdbldhpglponaaDoor.P