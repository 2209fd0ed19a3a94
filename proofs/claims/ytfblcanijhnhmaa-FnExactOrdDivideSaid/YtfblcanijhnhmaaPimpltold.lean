/- One Go function comes to what its Lean function tells. -/
import Derived.Test.YtfblcanijhnhmaaP0
import Derived.Test.YtfblcanijhnhmaaPimplmost
import Derived.Test.YtfblcanijhnhmaaPimplrowOf
import Derived.Test.YtfblcanijhnhmaaPimplsizeOf
import Derived.Test.YtfblcanijhnhmaaPslicesClipintint
namespace Go.Proofs.Ytfblcanijhnhmaa.P
open Go.RowKit YtfblcanijhnhmaaW.PrintWords YtfblcanijhnhmaaW.PrintLast YtfblcanijhnhmaaW.PrintMore
set_option linter.unusedVariables false
set_option linter.unusedSimpArgs false
/-! ### impl_told: function 46 -/
def impl_told.j0:Nat→List (S61)→Bool→Option (List Int × Bool)
 | 0,_,_=>none
 | k+1,x0,x11=>if x11=true then(some (([]:List Int),false)) else((impl_rowOf.f k x0).bind fun t606=>((slices_Clip_int_int.f t606).bind fun t609=>(some (t609,true))))
def impl_told.f (k:Nat)(l0:List (S61)):Option (List Int × Bool):=(impl_sizeOf.f k l0).bind fun t604=>(if t604>60 then(impl_told.j0 k l0 true) else((impl_most.f k l0).bind fun t605=>(impl_told.j0 k l0 (decide (t605>9999)))))
theorem impl_told.mono_l:∀ k,(∀ y0 y1,LeO (impl_told.j0 k y0 y1) (impl_told.j0 (k+1) y0 y1))
 | 0=>fun _ _ r h=>by simp[impl_told.j0] at h
 | k+1=>by
  have ih0:=impl_told.mono_l k
  ·intro y0 y1
   unfold impl_told.j0
   repeat' first|(with_reducible first|exact ih0 _ _|exact impl_rowOf.mono _ _|exact LeO.refl _|exact LeO.none _|refine LeO.ite ?_ ?_|refine LeO.bind ?_ (fun _=>?_))|exact ih0 _ _|exact impl_rowOf.mono _ _|exact LeO.none _|refine LeO.ite ?_ ?_|refine LeO.bind ?_ (fun _=>?_)
theorem impl_told.mono:∀ a0 k,LeO (impl_told.f k a0) (impl_told.f (k+1) a0):=by
 intro a0 k;have ih0:=impl_told.mono_l k;unfold impl_told.f
 repeat' first|(with_reducible first|exact ih0 _ _|exact impl_most.mono _ _|exact impl_sizeOf.mono _ _|exact LeO.refl _|exact LeO.none _|refine LeO.ite ?_ ?_|refine LeO.bind ?_ (fun _=>?_))|exact ih0 _ _|exact impl_most.mono _ _|exact impl_sizeOf.mono _ _|exact LeO.none _|refine LeO.ite ?_ ?_|refine LeO.bind ?_ (fun _=>?_)
set_option maxHeartbeats 8000000 in
set_option maxRecDepth 100000 in
theorem impl_told.calls (k:Nat)(A0:Option Addr)(c0:Nat)(l0:List (S61))(r1:List Int)(r2:Bool)(w:World)(hr0:Kd.C k61 w A0 l0.length l0)(hc0:l0.length≤c0)(h:impl_told.f k l0=some (r1,r2)) :
  Calls Try.prog 46 #[.slice A0 l0.length c0] w fun e w'=>∃ v0_:Value,e=.returned (.tuple #[v0_,.bool r2])∧Kd.R (Kd.int .i64) 3 w' w.heap.size (fun _=>True) v0_ r1∧Below w.heap.size w w':=by
 have HR0:=Sd.mk hr0;have HC0:=Sd.mk hc0;clear hr0 hc0;have HB:=Sd.mk (Below.refl w.heap.size w);have H:((impl_sizeOf.f k l0).bind fun t604=>(if t604>60 then(impl_told.j0 k l0 true) else((impl_most.f k l0).bind fun t605=>(impl_told.j0 k l0 (decide (t605>9999))))))=some (r1,r2):=h;clear h;have HC2:=Sd.mk H;clear H;go_enter Try.func46,Try.ntmps46
 go_upto_region 1 with (fail)
 go_cut [11] (fun v11 wc=>∃ (kq:Nat) (x11_1:Bool),v11=.bool x11_1∧Sd (impl_told.j0 kq l0 x11_1=some (r1,r2))∧Sd (kq≤k)∧Sd (Below w.heap.size w wc))
 case first =>
  have H:=HC2.out;clear HC2;replace H:=Option.bind_eq_some_iff.mp H;obtain⟨t604,A30,H⟩:=H;replace H:(if t604>60 then(impl_told.j0 k l0 true) else((impl_most.f k l0).bind fun t605=>(impl_told.j0 k l0 (decide (t605>9999)))))=some (r1,r2):=H;have A3:=Sd.mk A30;clear A30
  by_cases c4:t604>60
  ·rw[if_pos c4] at H
   have c4b0:decide (60<t604)=true:=decide_eq_true c4;clear c4
   (first|rw[c4b0]|(simp only[i64_w,i32_w];rw[c4b0])|skip)
   have H':=Sd.mk H;clear H;go_wp2_with (first|((with_reducible refine gate_callee (f:=69) rfl ?_);refine goesL_ (some 5) rfl rfl Try.func69 (by kernel_rfl) rfl #[.slice A0 l0.length c0] rfl az ?_;(with_reducible refine(impl_sizeOf.calls k _ _ l0 t604 _ ?side1 ?side2 A3.out).mono ?_);(case side1=>exact Kd.Cz (Kd.C_below HR0.out HB.out));(case side2=>exact HC0.out);rintro e w5 ⟨rfl,hb⟩;refine⟨_,rfl,?_⟩;replace HB:=Sd.mk (below_step bz hb);(try clear hb);(try clear hb2);(try clear hk);(try clear hi)));go_meet
   case rel=>exact⟨_,(true),(by first|rfl|(simp;done)|(simp[*];done)),H',⟨by first|omega|exact Nat.le_refl _⟩,⟨bz⟩⟩
  ·rw[if_neg c4] at H
   have c4b0:decide (60<t604)=false:=decide_eq_false c4;clear c4
   (first|rw[c4b0]|(simp only[i64_w,i32_w];rw[c4b0])|skip)
   replace H:=Option.bind_eq_some_iff.mp H;obtain⟨t605,A60,H⟩:=H;replace H:(impl_told.j0 k l0 (decide (t605>9999)))=some (r1,r2):=H;have A6:=Sd.mk A60;clear A60;have H':=Sd.mk H;clear H;go_wp2_with (first|((with_reducible refine gate_callee (f:=69) rfl ?_);refine goesL_ (some 5) rfl rfl Try.func69 (by kernel_rfl) rfl #[.slice A0 l0.length c0] rfl az ?_;(with_reducible refine(impl_sizeOf.calls k _ _ l0 t604 _ ?side1 ?side2 A3.out).mono ?_);(case side1=>exact Kd.Cz (Kd.C_below HR0.out HB.out));(case side2=>exact HC0.out);rintro e w7 ⟨rfl,hb⟩;refine⟨_,rfl,?_⟩;replace HB:=Sd.mk (below_step bz hb);(try clear hb);(try clear hb2);(try clear hk);(try clear hi))|(go_at_call 70;(with_reducible refine(impl_most.calls k _ _ l0 t605 _ ?side1 ?side2 A6.out).mono ?_);(case side1=>exact Kd.Cz (Kd.C_below HR0.out HB.out));(case side2=>exact HC0.out);rintro e w8 ⟨rfl,hb⟩;replace HB:=Sd.mk (below_step bz hb);(try clear hb);(try clear hb2);(try clear hk);(try clear hi)));go_meet
   case rel=>exact⟨_,(decide (t605>9999)),(by first|rfl|(simp;done)|(simp[*];done)),H',⟨by first|omega|exact Nat.le_refl _⟩,⟨bz⟩⟩
 case rest =>
  clear HC2
  try clear p2
  try clear c4
  try clear c4b0
  try clear c6
  obtain⟨kq,x11_1,rfl,HA,HJ1,HB⟩:=hcut
  cases kq with
  | zero=>exact absurd HA.out (by simp[impl_told.j0])
  | succ kj1 =>
   have H:=HA.out;clear HA;simp only[impl_told.j0] at H
   by_cases c9:x11_1=true
   ·subst c9
    have H1:(some (([]:List Int),false))=some (r1,r2):=by rw[if_pos rfl] at H;exact H
    clear H;have H:=H1;clear H1;simp only[Option.some.injEq,Prod.mk.injEq] at H;obtain⟨rfl,rfl⟩:=H;go_wp2;go_ret2;exact⟨_,by first|rfl|(simp[errW_none,errW_some]<;>rfl)|(simp[*,errW_none,errW_some]<;>rfl),by first|exact Kd.R_nil _ _ _ _ _|exact Kd.N_nil _ _ _ _ _|exact Kd.V_nil _ _ _ _ _|exact Kd.Q_nil _ _ _ _ _|exact Kd.S_nil _ _ _ _ _,bz⟩
   ·replace c9:=Bool.eq_false_iff.mpr c9
    subst c9
    have H1:((impl_rowOf.f kj1 l0).bind fun t606=>((slices_Clip_int_int.f t606).bind fun t609=>(some (t609,true))))=some (r1,r2):=by rw[if_neg (show ¬ (false=true) by decide)] at H;exact H
    clear H;have H:=H1;clear H1;replace H:=Option.bind_eq_some_iff.mp H;obtain⟨t606,A100,H⟩:=H;replace H:((slices_Clip_int_int.f t606).bind fun t609=>(some (t609,true)))=some (r1,r2):=H;have A10:=Sd.mk A100;clear A100;replace H:=Option.bind_eq_some_iff.mp H;obtain⟨t609,A110,H⟩:=H;replace H:(some (t609,true))=some (r1,r2):=H;have A11:=Sd.mk A110;clear A110;simp only[Option.some.injEq,Prod.mk.injEq] at H;obtain⟨rfl,rfl⟩:=H;go_wp2_with (first|((with_reducible refine gate_callee (f:=65) rfl ?_);refine goesL_ (some 13) rfl rfl Try.func65 (by kernel_rfl) rfl #[.slice A0 l0.length c0] rfl az ?_;(with_reducible refine(impl_rowOf.calls kj1 _ _ l0 t606 _ ?side1 ?side2 A10.out).mono ?_);(case side1=>exact Kd.Cz (Kd.C_below HR0.out HB.out));(case side2=>exact HC0.out);rintro e w12 ⟨v607,rfl,ho0,hb⟩;refine⟨_,rfl,?_⟩;have HO608:=Sd.mk (Kd.R_lower ho0 (below_size bz));replace HB:=Sd.mk (below_step bz hb);(try clear hb);(try clear hb2);(try clear hk);(try clear hi);(try clear ho0);obtain⟨Ao13,co13,eo13⟩:=Kd.R_slice HO608.out;subst eo13)|((with_reducible refine gate_callee (f:=71) rfl ?_);refine goesL_ (some 14) rfl rfl Try.func71 (by kernel_rfl) rfl #[.slice Ao13 t606.length co13] rfl az ?_;(with_reducible refine(slices_Clip_int_int.calls (fun k_=>some k_=(.slice Ao13 t606.length co13:Value).ownBlock) (.slice Ao13 t606.length co13) t606 t609 w _ ?side1 ?side2 A11.out).mono ?_);(case side1=>repeat (first|(with_reducible first|exact HB.out|apply below_alloc|apply pw_below_drewN|apply below_drew1)|exact HB.out));(case side2=>exact Kd.R_tight rfl HO608.out);rintro e w14 ⟨v610,rfl,ho0,hb,hkp⟩;refine⟨_,rfl,?_⟩;have HO611:=Sd.mk (Kd.R_mono (ok':=fun k_=>True) ho0 (fun k_ hk_=>trivial));replace HB:=Sd.mk (hb);clear HO608;(try clear hb);(try clear hkp);(try clear ho0)));go_ret2;exact⟨_,by first|rfl|(simp[errW_none,errW_some]<;>rfl)|(simp[*,errW_none,errW_some]<;>rfl),by(with_reducible repeat (first|apply Kd.R_alloc|apply Kd.R_drewN|apply Kd.R_drew));exact HO611.out,bz⟩
end Go.Proofs.Ytfblcanijhnhmaa.P