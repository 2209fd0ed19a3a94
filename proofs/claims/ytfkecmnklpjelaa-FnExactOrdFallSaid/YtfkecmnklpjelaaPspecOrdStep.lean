/- One Go function comes to what its Lean function tells. -/
import Derived.Test.YtfkecmnklpjelaaP0
import Derived.Test.YtfkecmnklpjelaaPspecOrdValid
import Derived.Test.YtfkecmnklpjelaaPspecl1In
import Derived.Test.YtfkecmnklpjelaaPspecl2Fit
import Derived.Test.YtfkecmnklpjelaaPspecl3Step
namespace Go.Proofs.Ytfkecmnklpjelaa.P
open Go.RowKit YtfkecmnklpjelaaW.PrintWords YtfkecmnklpjelaaW.PrintLast YtfkecmnklpjelaaW.PrintMore
set_option linter.unusedVariables false
set_option linter.unusedSimpArgs false
/-! ### spec_OrdStep: function 19 -/
def spec_OrdStep.j0:Nat→List Int→Int→Bool→Option (List Int × Bool)
 | 0,_,_,_=>none
 | k+1,x0,x1,x13=>if x13=true then(some ((([]:List Int)),false)) else((spec_l3Step.f k x0 x1).bind fun t266=>((spec_l2Fit.f k t266).bind fun bt269=>(some (bt269.1,bt269.2))))
def spec_OrdStep.f (k:Nat)(l0:List Int)(a1:Int):Option (List Int × Bool):=(spec_OrdValid.f k l0).bind fun t261=>(if t261=true then((spec_l1In.f a1 0 99).bind fun t262=>(spec_OrdStep.j0 k l0 a1 (!t262))) else(spec_OrdStep.j0 k l0 a1 true))
theorem spec_OrdStep.mono_l:∀ k,(∀ y0 y1 y2,LeO (spec_OrdStep.j0 k y0 y1 y2) (spec_OrdStep.j0 (k+1) y0 y1 y2))
 | 0=>fun _ _ _ r h=>by simp[spec_OrdStep.j0] at h
 | k+1=>by
  have ih0:=spec_OrdStep.mono_l k
  ·intro y0 y1 y2
   unfold spec_OrdStep.j0
   repeat' first|(with_reducible first|exact ih0 _ _ _|exact spec_l2Fit.mono _ _|exact spec_l3Step.mono _ _ _|exact LeO.refl _|exact LeO.none _|refine LeO.ite ?_ ?_|refine LeO.bind ?_ (fun _=>?_))|exact ih0 _ _ _|exact spec_l2Fit.mono _ _|exact spec_l3Step.mono _ _ _|exact LeO.none _|refine LeO.ite ?_ ?_|refine LeO.bind ?_ (fun _=>?_)
theorem spec_OrdStep.mono:∀ a0 a1 k,LeO (spec_OrdStep.f k a0 a1) (spec_OrdStep.f (k+1) a0 a1):=by
 intro a0 a1 k
 have ih0:=spec_OrdStep.mono_l k
 unfold spec_OrdStep.f
 repeat' first|(with_reducible first|exact ih0 _ _ _|exact spec_OrdValid.mono _ _|exact LeO.refl _|exact LeO.none _|refine LeO.ite ?_ ?_|refine LeO.bind ?_ (fun _=>?_))|exact ih0 _ _ _|exact spec_OrdValid.mono _ _|exact LeO.none _|refine LeO.ite ?_ ?_|refine LeO.bind ?_ (fun _=>?_)
set_option maxHeartbeats 8000000 in
set_option maxRecDepth 100000 in
theorem spec_OrdStep.calls (k:Nat)(A0:Option Addr)(c0:Nat)(l0:List Int)(a1:Int)(r1:List Int)(r2:Bool)(w:World)(hr0:Kd.C (Kd.int .i64) w A0 l0.length l0)(hc0:l0.length≤c0)(h:spec_OrdStep.f k l0 a1=some (r1,r2)) :
  Calls Try.prog 19 #[.slice A0 l0.length c0,.int .i64 a1] w fun e w'=>∃ v0_:Value,e=.returned (.tuple #[v0_,.bool r2])∧Kd.R (Kd.int .i64) 3 w' w.heap.size (fun _=>True) v0_ r1∧Below w.heap.size w w':=by
 have HR0:=Sd.mk hr0
 have HC0:=Sd.mk hc0
 clear hr0 hc0
 have HB:=Sd.mk (Below.refl w.heap.size w)
 have H:((spec_OrdValid.f k l0).bind fun t261=>(if t261=true then((spec_l1In.f a1 0 99).bind fun t262=>(spec_OrdStep.j0 k l0 a1 (!t262))) else(spec_OrdStep.j0 k l0 a1 true)))=some (r1,r2):=h
 clear h
 have HC3:=Sd.mk H
 clear H
 go_enter Try.func19,Try.ntmps19
 go_upto_region 1 with (fail)
 go_cut [13] (fun v13 wc=>∃ (kq:Nat) (x13_2:Bool),v13=.bool x13_2∧Sd (spec_OrdStep.j0 kq l0 a1 x13_2=some (r1,r2))∧Sd (kq≤k)∧Sd (Below w.heap.size w wc))
 case first =>
  have H:=HC3.out
  clear HC3
  replace H:=Option.bind_eq_some_iff.mp H
  obtain⟨t261,A40,H⟩:=H
  replace H:(if t261=true then((spec_l1In.f a1 0 99).bind fun t262=>(spec_OrdStep.j0 k l0 a1 (!t262))) else(spec_OrdStep.j0 k l0 a1 true))=some (r1,r2):=H
  have A4:=Sd.mk A40
  clear A40
  by_cases c5:t261=true
  ·subst c5
   have H1:((spec_l1In.f a1 0 99).bind fun t262=>(spec_OrdStep.j0 k l0 a1 (!t262)))=some (r1,r2):=by rw[if_pos rfl] at H;exact H
   clear H
   have H:=H1
   clear H1
   replace H:=Option.bind_eq_some_iff.mp H
   obtain⟨t262,A60,H⟩:=H
   replace H:(spec_OrdStep.j0 k l0 a1 (!t262))=some (r1,r2):=H
   have A6:=Sd.mk A60
   clear A60
   have H':=Sd.mk H
   clear H
   go_wp2_with (first|((with_reducible refine gate_callee (f:=17) rfl ?_);refine goesL_ (some 7) rfl rfl Try.func17 (by kernel_rfl) rfl #[.slice A0 l0.length c0] rfl az ?_;(with_reducible refine(spec_OrdValid.calls k _ _ l0 true _ ?side1 ?side2 A4.out).mono ?_);(case side1=>exact Kd.Cz (Kd.C_below HR0.out HB.out));(case side2=>exact HC0.out);rintro e w7 ⟨rfl,hb⟩;refine⟨_,rfl,?_⟩;replace HB:=Sd.mk (below_step bz hb);(try clear hb);(try clear hb2);(try clear hk);(try clear hi))|(go_at_call 18;(with_reducible refine(spec_l1In.calls a1 0 99 t262 _ A6.out).mono ?_);rintro e w' ⟨rfl,⟨nd,rfl⟩⟩))
   go_meet
   case rel=>exact⟨_,(!t262),(by first|rfl|(simp;done)|(simp[*];done)),H',⟨by first|omega|exact Nat.le_refl _⟩,⟨bz⟩⟩
  ·replace c5:=Bool.eq_false_iff.mpr c5
   subst c5
   have H1:(spec_OrdStep.j0 k l0 a1 true)=some (r1,r2):=by rw[if_neg (show ¬ (false=true) by decide)] at H;exact H
   clear H
   have H:=H1
   clear H1
   have H':=Sd.mk H
   clear H
   go_wp2_with (first|((with_reducible refine gate_callee (f:=17) rfl ?_);refine goesL_ (some 7) rfl rfl Try.func17 (by kernel_rfl) rfl #[.slice A0 l0.length c0] rfl az ?_;(with_reducible refine(spec_OrdValid.calls k _ _ l0 false _ ?side1 ?side2 A4.out).mono ?_);(case side1=>exact Kd.Cz (Kd.C_below HR0.out HB.out));(case side2=>exact HC0.out);rintro e w8 ⟨rfl,hb⟩;refine⟨_,rfl,?_⟩;replace HB:=Sd.mk (below_step bz hb);(try clear hb);(try clear hb2);(try clear hk);(try clear hi)))
   go_meet
   case rel=>exact⟨_,(true),(by first|rfl|(simp;done)|(simp[*];done)),H',⟨by first|omega|exact Nat.le_refl _⟩,⟨bz⟩⟩
 case rest =>
  clear HC3
  try clear c1
  try clear p2
  try clear c5
  obtain⟨kq,x13_2,rfl,HA,HJ2,HB⟩:=hcut
  cases kq with
  | zero=>exact absurd HA.out (by simp[spec_OrdStep.j0])
  | succ kj2 =>
   have H:=HA.out
   clear HA
   simp only[spec_OrdStep.j0] at H
   by_cases c9:x13_2=true
   ·subst c9
    have H1:(some ((([]:List Int)),false))=some (r1,r2):=by rw[if_pos rfl] at H;exact H
    clear H
    have H:=H1
    clear H1
    obtain⟨y263,hy263⟩:∃ y_:List Int,y_=(([]:List Int)):=⟨_,rfl⟩
    replace H:(some (y263,false))=some (r1,r2):=hz hy263 H
    have Ny263:=Sd.mk hy263
    clear hy263
    simp only[Option.some.injEq,Prod.mk.injEq] at H
    obtain⟨rfl,rfl⟩:=H
    go_wp2_with (first|((with_reducible refine gate_dst (N:=14) rfl ?_);refine Kd.R_lit (Kd.int .i64) _ 3 ?hg (N:=14) ?hd (xs:=([]:List Int)) (inner:=[]) (ok:=fun _=>True) (okp:=fun _=>True) ?hr ?hp (fun _ hk=>hk) trivial (Below.refl _ _) (Nat.le_refl _) (by simp) ?_;(case hd=>rfl);(case hg=>rfl);(case hr=>first|(go_simp;done)|(go_simp;rfl));(case hp=>exact(Reps.none _ _));intro v264 w10 ho11 hb hg_ hnew_;clear hg_ hnew_;(first|rw[← Ny263.out] at ho11|(simp only[Int.reduceToNat] at ho11;rw[← Ny263.out] at ho11));have HO265:=Sd.mk (Kd.R_lower ho11 (below_size bz));replace HB:=Sd.mk (below_step bz hb);clear hb ho11))
    go_ret2
    exact⟨_,by first|rfl|(simp[errW_none,errW_some]<;>rfl)|(simp[*,errW_none,errW_some]<;>rfl),by(with_reducible repeat (first|apply Kd.R_alloc|apply Kd.R_drewN|apply Kd.R_drew));exact HO265.out,bz⟩
   ·replace c9:=Bool.eq_false_iff.mpr c9
    subst c9
    have H1:((spec_l3Step.f kj2 l0 a1).bind fun t266=>((spec_l2Fit.f kj2 t266).bind fun bt269=>(some (bt269.1,bt269.2))))=some (r1,r2):=by rw[if_neg (show ¬ (false=true) by decide)] at H;exact H
    clear H
    have H:=H1
    clear H1
    replace H:=Option.bind_eq_some_iff.mp H
    obtain⟨t266,A120,H⟩:=H
    replace H:((spec_l2Fit.f kj2 t266).bind fun bt269=>(some (bt269.1,bt269.2)))=some (r1,r2):=H
    have A12:=Sd.mk A120
    clear A120
    replace H:=Option.bind_eq_some_iff.mp H
    obtain⟨⟨t269,t272⟩,A130,H⟩:=H
    replace H:(some (t269,t272))=some (r1,r2):=H
    have A13:=Sd.mk A130
    clear A130
    simp only[Option.some.injEq,Prod.mk.injEq] at H
    obtain⟨rfl,rfl⟩:=H
    go_wp2_with (first|((with_reducible refine gate_callee (f:=32) rfl ?_);refine goesL_ (some 17) rfl rfl Try.func32 (by kernel_rfl) rfl #[.slice A0 l0.length c0,.int .i64 a1] rfl az ?_;(with_reducible refine(spec_l3Step.calls kj2 _ _ l0 a1 t266 _ ?side1 ?side2 A12.out).mono ?_);(case side1=>exact Kd.Cz (Kd.C_below HR0.out HB.out));(case side2=>exact HC0.out);rintro e w14 ⟨v267,rfl,ho0,hb⟩;refine⟨_,rfl,?_⟩;have HO268:=Sd.mk (Kd.R_lower ho0 (below_size bz));replace HB:=Sd.mk (below_step bz hb);(try clear hb);(try clear hb2);(try clear hk);(try clear hi);(try clear ho0);obtain⟨Ao15,co15,eo15⟩:=Kd.R_slice HO268.out;subst eo15)|((with_reducible refine gate_callee (f:=31) rfl ?_);refine goesL_ (some 18) rfl rfl Try.func31 (by kernel_rfl) rfl #[.slice Ao15 t266.length co15] rfl az ?_;(with_reducible refine(spec_l2Fit.calls kj2 (fun k_=>some k_=(.slice Ao15 t266.length co15:Value).ownBlock) (.slice Ao15 t266.length co15) t266 t269 t272 w _ ?side1 ?side2 A13.out).mono ?_);(case side1=>repeat (first|(with_reducible first|exact HB.out|apply below_alloc|apply pw_below_drewN|apply below_drew1)|exact HB.out));(case side2=>exact Kd.R_tight rfl HO268.out);rintro e w16 ⟨v270,rfl,ho0,hb,hkp⟩;refine⟨_,rfl,?_⟩;have HO271:=Sd.mk (Kd.R_mono (ok':=fun k_=>True) ho0 (fun k_ hk_=>trivial));replace HB:=Sd.mk (hb);clear HO268;(try clear hb);(try clear hkp);(try clear ho0)))
    go_ret2
    exact⟨_,by first|rfl|(simp[errW_none,errW_some]<;>rfl)|(simp[*,errW_none,errW_some]<;>rfl),by(with_reducible repeat (first|apply Kd.R_alloc|apply Kd.R_drewN|apply Kd.R_drew));exact HO271.out,bz⟩
end Go.Proofs.Ytfkecmnklpjelaa.P