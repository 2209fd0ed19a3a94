/- One Go function comes to what its Lean function tells. -/
import Derived.Test.YtfblcanijhnhmaaP0
import Derived.Test.YtfblcanijhnhmaaPimplmost
import Derived.Test.YtfblcanijhnhmaaPimplrowOf
import Derived.Test.YtfblcanijhnhmaaPimplsizeOf
import Derived.Test.YtfblcanijhnhmaaPslicesClipintint
namespace Go.Proofs.Ytfblcanijhnhmaa.P
open Go.RowKit YtfblcanijhnhmaaW.PrintWords YtfblcanijhnhmaaW.PrintLast YtfblcanijhnhmaaW.PrintMore
set_option linter.unusedVariables false
set_option linter.unusedSimpArgs false
/-! ### impl_told: function 46 -/
def impl_told.j0:Nat→List (S61)→Bool→Option (List Int × Bool)
 | 0,_,_=>none
 | k+1,x0,x11=>if x11=true then(some (([]:List Int),false)) else((impl_rowOf.f k x0).bind fun t180=>((slices_Clip_int_int.f t180).bind fun t183=>(some (t183,true))))
def impl_told.f (k:Nat)(l0:List (S61)):Option (List Int × Bool):=(impl_sizeOf.f k l0).bind fun t178=>(if t178>60 then(impl_told.j0 k l0 true) else((impl_most.f k l0).bind fun t179=>(impl_told.j0 k l0 (decide (t179>9999)))))
set_option maxHeartbeats 8000000 in
set_option maxRecDepth 100000 in
theorem impl_told.calls (k:Nat)(M:Option Addr)(O:Nat)(l0:List (S61))(Y:List Int)(Z:Bool)(w:World)(ab:Kd.C k61 w M l0.length l0)(ac:l0.length≤O)(h:impl_told.f k l0=some (Y,Z)) :
  Calls Try.prog 46 #[.slice M l0.length O] w fun e w'=>∃ ad:Value,e=.returned (.tuple #[ad,.bool Z])∧Kd.R (Kd.int .i64) 3 w' w.heap.size (fun _=>True) ad Y∧Below w.heap.size w w':=by
 have J:=Sd.mk ab;have L:=Sd.mk ac;clear ab ac;have HB:=Sd.mk (Below.refl w.heap.size w);have H:((impl_sizeOf.f k l0).bind fun j=>(if j>60 then(impl_told.j0 k l0 true) else((impl_most.f k l0).bind fun D=>(impl_told.j0 k l0 (decide (D>9999))))))=some (Y,Z):=h;clear h;have U:=Sd.mk H;clear H;go_enter Try.func46,Try.ntmps46
 go_upto_region 1 with (fail)
 go_cut [11] (fun ah wc=>∃ (kq:Nat) (m:Bool),ah=.bool m∧Sd (impl_told.j0 kq l0 m=some (Y,Z))∧Sd (kq≤k)∧Sd (Below w.heap.size w wc))
 case first =>
  have H:=U.out;clear U;obtain⟨j,A3,H⟩:=bs H
  by_cases c4:j>60
  ·rw[if_pos c4] at H
   have o:decide (60<j)=true:=decide_eq_true c4;clear c4
   (first|rw[o]|(simp only[i64_w,i32_w];rw[o])|skip)
   have H':=Sd.mk H;clear H;go_wp2_with (first|((with_reducible refine gate_callee (f:=69) rfl ?_);refine goesL_ (some 5) rfl rfl Try.func69 (by kernel_rfl) rfl #[.slice M l0.length O] rfl az ?_;(with_reducible refine(impl_sizeOf.calls k _ _ l0 j _ ?side1 ?side2 A3.out).mono ?_);(case side1=>exact Kd.Cz (Kd.C_below J.out HB.out));(case side2=>exact L.out);rintro e w5 ⟨rfl,hb⟩;refine⟨_,rfl,?_⟩;replace HB:=Sd.mk (below_step bz hb)));go_meet
   case rel=>exact⟨_,(true),(by first|rfl|(simp;done)|(simp[*];done)),H',⟨by first|omega|exact Nat.le_refl _⟩,⟨bz⟩⟩
  ·rw[if_neg c4] at H
   have o:decide (60<j)=false:=decide_eq_false c4;clear c4
   (first|rw[o]|(simp only[i64_w,i32_w];rw[o])|skip)
   obtain⟨D,A6,H⟩:=bs H;have H':=Sd.mk H;clear H;go_wp2_with (first|((with_reducible refine gate_callee (f:=69) rfl ?_);refine goesL_ (some 5) rfl rfl Try.func69 (by kernel_rfl) rfl #[.slice M l0.length O] rfl az ?_;(with_reducible refine(impl_sizeOf.calls k _ _ l0 j _ ?side1 ?side2 A3.out).mono ?_);(case side1=>exact Kd.Cz (Kd.C_below J.out HB.out));(case side2=>exact L.out);rintro e w7 ⟨rfl,hb⟩;refine⟨_,rfl,?_⟩;replace HB:=Sd.mk (below_step bz hb))|(go_at_call 70;(with_reducible refine(impl_most.calls k _ _ l0 D _ ?side1 ?side2 A6.out).mono ?_);(case side1=>exact Kd.Cz (Kd.C_below J.out HB.out));(case side2=>exact L.out);rintro e w8 ⟨rfl,hb⟩;replace HB:=Sd.mk (below_step bz hb)));go_meet
   case rel=>exact⟨_,(decide (D>9999)),(by first|rfl|(simp;done)|(simp[*];done)),H',⟨by first|omega|exact Nat.le_refl _⟩,⟨bz⟩⟩
 case rest =>
  clear U;obtain⟨kq,m,rfl,HA,ap,HB⟩:=hcut
  cases kq with
  | zero=>exact absurd HA.out (by simp[impl_told.j0])
  | succ aj =>
   have H:=HA.out;clear HA;simp only[impl_told.j0] at H
   by_cases c9:m=true
   ·subst c9
    replace H:=ip rfl H;simp only[Option.some.injEq,Prod.mk.injEq] at H;obtain⟨rfl,rfl⟩:=H;go_wp2;go_ret2;exact⟨_,by first|rfl|(simp[errW_none,errW_some]<;>rfl)|(simp[*,errW_none,errW_some]<;>rfl),by first|exact Kd.R_nil _ _ _ _ _|exact Kd.N_nil _ _ _ _ _|exact Kd.V_nil _ _ _ _ _|exact Kd.Q_nil _ _ _ _ _|exact Kd.S_nil _ _ _ _ _,bz⟩
   ·replace c9:=Bool.eq_false_iff.mpr c9
    subst c9;replace H:=ng ft H;obtain⟨z,ak,H⟩:=bs H;obtain⟨af,al,H⟩:=bs H;simp only[Option.some.injEq,Prod.mk.injEq] at H;obtain⟨rfl,rfl⟩:=H;go_wp2_with (first|((with_reducible refine gate_callee (f:=65) rfl ?_);refine goesL_ (some 13) rfl rfl Try.func65 (by kernel_rfl) rfl #[.slice M l0.length O] rfl az ?_;(with_reducible refine(impl_rowOf.calls aj _ _ l0 z _ ?side1 ?side2 ak.out).mono ?_);(case side1=>exact Kd.Cz (Kd.C_below J.out HB.out));(case side2=>exact L.out);rintro e aq ⟨an,rfl,X,hb⟩;refine⟨_,rfl,?_⟩;have E:=Sd.mk (Kd.R_lower X (below_size bz));replace HB:=Sd.mk (below_step bz hb);obtain⟨G,I,ag⟩:=Kd.R_slice E.out;subst ag)|((with_reducible refine gate_callee (f:=71) rfl ?_);refine goesL_ (some 14) rfl rfl Try.func71 (by kernel_rfl) rfl #[.slice G z.length I] rfl az ?_;(with_reducible refine(slices_Clip_int_int.calls (fun k_=>some k_=(.slice G z.length I:Value).ownBlock) (.slice G z.length I) z af w _ ?side1 ?side2 al.out).mono ?_);(case side1=>repeat (first|(with_reducible first|exact HB.out|apply below_alloc|apply pw_below_drewN|apply below_drew1)|exact HB.out));(case side2=>exact Kd.R_tight rfl E.out);rintro e ar ⟨ao,rfl,X,hb,hkp⟩;refine⟨_,rfl,?_⟩;have aa:=Sd.mk (Kd.R_mono (ok':=fun k_=>True) X (fun k_ au=>trivial));replace HB:=Sd.mk (hb);clear E));go_ret2;exact⟨_,by first|rfl|(simp[errW_none,errW_some]<;>rfl)|(simp[*,errW_none,errW_some]<;>rfl),by(with_reducible repeat (first|apply Kd.R_alloc|apply Kd.R_drewN|apply Kd.R_drew));exact aa.out,bz⟩
end Go.Proofs.Ytfblcanijhnhmaa.P