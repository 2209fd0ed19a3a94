/- One Go function comes to what its Lean function tells. -/
import Derived.Test.YtfblcanijhnhmaaP0
import Derived.Test.YtfblcanijhnhmaaPspecOrdValid
import Derived.Test.YtfblcanijhnhmaaPspecl2Add
import Derived.Test.YtfblcanijhnhmaaPspecl2Fit
namespace Go.Proofs.Ytfblcanijhnhmaa.P
open Go.RowKit YtfblcanijhnhmaaW.PrintWords YtfblcanijhnhmaaW.PrintLast YtfblcanijhnhmaaW.PrintMore
set_option linter.unusedVariables false
set_option linter.unusedSimpArgs false
/-! ### spec_OrdAdd: function 15 -/
def spec_OrdAdd.j0:Nat→List Int→List Int→Bool→Option (List Int × Bool)
 | 0,_,_,_=>none
 | k+1,x0,x1,x13=>if x13=true then(some ((([]:List Int)),false)) else((spec_l2Add.f k x0 x1).bind fun t286=>((spec_l2Fit.f k t286).bind fun bt289=>(some (bt289.1,bt289.2))))
def spec_OrdAdd.f (k:Nat)(l0:List Int)(l1:List Int):Option (List Int × Bool):=(spec_OrdValid.f k l0).bind fun t281=>(if t281=true then((spec_OrdValid.f k l1).bind fun t282=>(spec_OrdAdd.j0 k l0 l1 (!t282))) else(spec_OrdAdd.j0 k l0 l1 true))
theorem spec_OrdAdd.mono_l:∀ k,(∀ y0 y1 y2,LeO (spec_OrdAdd.j0 k y0 y1 y2) (spec_OrdAdd.j0 (k+1) y0 y1 y2))
 | 0=>fun _ _ _ r h=>by simp[spec_OrdAdd.j0] at h
 | k+1=>by
  have ih0:=spec_OrdAdd.mono_l k
  ·intro y0 y1 y2
   unfold spec_OrdAdd.j0
   repeat' first|(with_reducible first|exact ih0 _ _ _|exact spec_l2Add.mono _ _ _|exact spec_l2Fit.mono _ _|exact LeO.refl _|exact LeO.none _|refine LeO.ite ?_ ?_|refine LeO.bind ?_ (fun _=>?_))|exact ih0 _ _ _|exact spec_l2Add.mono _ _ _|exact spec_l2Fit.mono _ _|exact LeO.none _|refine LeO.ite ?_ ?_|refine LeO.bind ?_ (fun _=>?_)
theorem spec_OrdAdd.mono:∀ a0 a1 k,LeO (spec_OrdAdd.f k a0 a1) (spec_OrdAdd.f (k+1) a0 a1):=by
 intro a0 a1 k
 have ih0:=spec_OrdAdd.mono_l k
 unfold spec_OrdAdd.f
 repeat' first|(with_reducible first|exact ih0 _ _ _|exact spec_OrdValid.mono _ _|exact LeO.refl _|exact LeO.none _|refine LeO.ite ?_ ?_|refine LeO.bind ?_ (fun _=>?_))|exact ih0 _ _ _|exact spec_OrdValid.mono _ _|exact LeO.none _|refine LeO.ite ?_ ?_|refine LeO.bind ?_ (fun _=>?_)
set_option maxHeartbeats 8000000 in
set_option maxRecDepth 100000 in
theorem spec_OrdAdd.calls (k:Nat)(A0:Option Addr)(c0:Nat)(l0:List Int)(A1:Option Addr)(c1:Nat)(l1:List Int)(r1:List Int)(r2:Bool)(w:World)(hr0:Kd.C (Kd.int .i64) w A0 l0.length l0)(hc0:l0.length≤c0)(hr1:Kd.C (Kd.int .i64) w A1 l1.length l1)(hc1:l1.length≤c1)(h:spec_OrdAdd.f k l0 l1=some (r1,r2)) :
  Calls Try.prog 15 #[.slice A0 l0.length c0,.slice A1 l1.length c1] w fun e w'=>∃ v0_:Value,e=.returned (.tuple #[v0_,.bool r2])∧Kd.R (Kd.int .i64) 3 w' w.heap.size (fun _=>True) v0_ r1∧Below w.heap.size w w':=by
 have HR0:=Sd.mk hr0
 have HC0:=Sd.mk hc0
 clear hr0 hc0
 have HR1:=Sd.mk hr1
 have HC1:=Sd.mk hc1
 clear hr1 hc1
 have HB:=Sd.mk (Below.refl w.heap.size w)
 have H:((spec_OrdValid.f k l0).bind fun t281=>(if t281=true then((spec_OrdValid.f k l1).bind fun t282=>(spec_OrdAdd.j0 k l0 l1 (!t282))) else(spec_OrdAdd.j0 k l0 l1 true)))=some (r1,r2):=h
 clear h
 have HC3:=Sd.mk H
 clear H
 go_enter Try.func15,Try.ntmps15
 go_upto_region 1 with (fail)
 go_cut [13] (fun v13 wc=>∃ (kq:Nat) (x13_2:Bool),v13=.bool x13_2∧Sd (spec_OrdAdd.j0 kq l0 l1 x13_2=some (r1,r2))∧Sd (kq≤k)∧Sd (Below w.heap.size w wc))
 case first =>
  have H:=HC3.out
  clear HC3
  replace H:=Option.bind_eq_some_iff.mp H
  obtain⟨t281,A40,H⟩:=H
  replace H:(if t281=true then((spec_OrdValid.f k l1).bind fun t282=>(spec_OrdAdd.j0 k l0 l1 (!t282))) else(spec_OrdAdd.j0 k l0 l1 true))=some (r1,r2):=H
  have A4:=Sd.mk A40
  clear A40
  by_cases c5:t281=true
  ·subst c5
   have H1:((spec_OrdValid.f k l1).bind fun t282=>(spec_OrdAdd.j0 k l0 l1 (!t282)))=some (r1,r2):=by rw[if_pos rfl] at H;exact H
   clear H
   have H:=H1
   clear H1
   replace H:=Option.bind_eq_some_iff.mp H
   obtain⟨t282,A60,H⟩:=H
   replace H:(spec_OrdAdd.j0 k l0 l1 (!t282))=some (r1,r2):=H
   have A6:=Sd.mk A60
   clear A60
   have H':=Sd.mk H
   clear H
   go_wp2_with (first|((with_reducible refine gate_callee (f:=34) rfl ?_);refine goesL_ (some 7) rfl rfl Try.func34 (by kernel_rfl) rfl #[.slice A0 l0.length c0] rfl az ?_;(with_reducible refine(spec_OrdValid.calls k _ _ l0 true _ ?side1 ?side2 A4.out).mono ?_);(case side1=>exact Kd.Cz (Kd.C_below HR0.out HB.out));(case side2=>exact HC0.out);rintro e w7 ⟨rfl,hb⟩;refine⟨_,rfl,?_⟩;replace HB:=Sd.mk (below_step bz hb);(try clear hb);(try clear hb2);(try clear hk);(try clear hi))|(go_at_call 34;(with_reducible refine(spec_OrdValid.calls k _ _ l1 t282 _ ?side1 ?side2 A6.out).mono ?_);(case side1=>exact Kd.Cz (Kd.C_below HR1.out HB.out));(case side2=>exact HC1.out);rintro e w8 ⟨rfl,hb⟩;replace HB:=Sd.mk (below_step bz hb);(try clear hb);(try clear hb2);(try clear hk);(try clear hi)))
   go_meet
   case rel=>exact⟨_,(!t282),(by first|rfl|(simp;done)|(simp[*];done)),H',⟨by first|omega|exact Nat.le_refl _⟩,⟨bz⟩⟩
  ·replace c5:=Bool.eq_false_iff.mpr c5
   subst c5
   have H1:(spec_OrdAdd.j0 k l0 l1 true)=some (r1,r2):=by rw[if_neg (show ¬ (false=true) by decide)] at H;exact H
   clear H
   have H:=H1
   clear H1
   have H':=Sd.mk H
   clear H
   go_wp2_with (first|((with_reducible refine gate_callee (f:=34) rfl ?_);refine goesL_ (some 7) rfl rfl Try.func34 (by kernel_rfl) rfl #[.slice A0 l0.length c0] rfl az ?_;(with_reducible refine(spec_OrdValid.calls k _ _ l0 false _ ?side1 ?side2 A4.out).mono ?_);(case side1=>exact Kd.Cz (Kd.C_below HR0.out HB.out));(case side2=>exact HC0.out);rintro e w9 ⟨rfl,hb⟩;refine⟨_,rfl,?_⟩;replace HB:=Sd.mk (below_step bz hb);(try clear hb);(try clear hb2);(try clear hk);(try clear hi)))
   go_meet
   case rel=>exact⟨_,(true),(by first|rfl|(simp;done)|(simp[*];done)),H',⟨by first|omega|exact Nat.le_refl _⟩,⟨bz⟩⟩
 case rest =>
  clear HC3
  try clear c1
  try clear p2
  try clear c3
  try clear c5
  obtain⟨kq,x13_2,rfl,HA,HJ2,HB⟩:=hcut
  cases kq with
  | zero=>exact absurd HA.out (by simp[spec_OrdAdd.j0])
  | succ kj2 =>
   have H:=HA.out
   clear HA
   simp only[spec_OrdAdd.j0] at H
   by_cases c10:x13_2=true
   ·subst c10
    have H1:(some ((([]:List Int)),false))=some (r1,r2):=by rw[if_pos rfl] at H;exact H
    clear H
    have H:=H1
    clear H1
    obtain⟨y283,hy283⟩:∃ y_:List Int,y_=(([]:List Int)):=⟨_,rfl⟩
    replace H:(some (y283,false))=some (r1,r2):=hz hy283 H
    have Ny283:=Sd.mk hy283
    clear hy283
    simp only[Option.some.injEq,Prod.mk.injEq] at H
    obtain⟨rfl,rfl⟩:=H
    go_wp2_with (first|((with_reducible refine gate_dst (N:=14) rfl ?_);refine Kd.R_lit (Kd.int .i64) _ 3 ?hg (N:=14) ?hd (xs:=([]:List Int)) (inner:=[]) (ok:=fun _=>True) (okp:=fun _=>True) ?hr ?hp (fun _ hk=>hk) trivial (Below.refl _ _) (Nat.le_refl _) (by simp) ?_;(case hd=>rfl);(case hg=>rfl);(case hr=>first|(go_simp;done)|(go_simp;rfl));(case hp=>exact(Reps.none _ _));intro v284 w11 ho12 hb hg_ hnew_;clear hg_ hnew_;(first|rw[← Ny283.out] at ho12|(simp only[Int.reduceToNat] at ho12;rw[← Ny283.out] at ho12));have HO285:=Sd.mk (Kd.R_lower ho12 (below_size bz));replace HB:=Sd.mk (below_step bz hb);clear hb ho12))
    go_ret2
    exact⟨_,by first|rfl|(simp[errW_none,errW_some]<;>rfl)|(simp[*,errW_none,errW_some]<;>rfl),by(with_reducible repeat (first|apply Kd.R_alloc|apply Kd.R_drewN|apply Kd.R_drew));exact HO285.out,bz⟩
   ·replace c10:=Bool.eq_false_iff.mpr c10
    subst c10
    have H1:((spec_l2Add.f kj2 l0 l1).bind fun t286=>((spec_l2Fit.f kj2 t286).bind fun bt289=>(some (bt289.1,bt289.2))))=some (r1,r2):=by rw[if_neg (show ¬ (false=true) by decide)] at H;exact H
    clear H
    have H:=H1
    clear H1
    replace H:=Option.bind_eq_some_iff.mp H
    obtain⟨t286,A130,H⟩:=H
    replace H:((spec_l2Fit.f kj2 t286).bind fun bt289=>(some (bt289.1,bt289.2)))=some (r1,r2):=H
    have A13:=Sd.mk A130
    clear A130
    replace H:=Option.bind_eq_some_iff.mp H
    obtain⟨⟨t289,t292⟩,A140,H⟩:=H
    replace H:(some (t289,t292))=some (r1,r2):=H
    have A14:=Sd.mk A140
    clear A140
    simp only[Option.some.injEq,Prod.mk.injEq] at H
    obtain⟨rfl,rfl⟩:=H
    go_wp2_with (first|((with_reducible refine gate_callee (f:=44) rfl ?_);refine goesL_ (some 17) rfl rfl Try.func44 (by kernel_rfl) rfl #[.slice A0 l0.length c0,.slice A1 l1.length c1] rfl az ?_;(with_reducible refine(spec_l2Add.calls kj2 _ _ l0 _ _ l1 t286 _ ?side1 ?side2 ?side3 ?side4 A13.out).mono ?_);(case side1=>exact Kd.Cz (Kd.C_below HR0.out HB.out));(case side2=>exact HC0.out);(case side3=>exact Kd.Cz (Kd.C_below HR1.out HB.out));(case side4=>exact HC1.out);rintro e w15 ⟨v287,rfl,ho0,hb⟩;refine⟨_,rfl,?_⟩;have HO288:=Sd.mk (Kd.R_lower ho0 (below_size bz));replace HB:=Sd.mk (below_step bz hb);(try clear hb);(try clear hb2);(try clear hk);(try clear hi);(try clear ho0);obtain⟨Ao16,co16,eo16⟩:=Kd.R_slice HO288.out;subst eo16)|((with_reducible refine gate_callee (f:=43) rfl ?_);refine goesL_ (some 18) rfl rfl Try.func43 (by kernel_rfl) rfl #[.slice Ao16 t286.length co16] rfl az ?_;(with_reducible refine(spec_l2Fit.calls kj2 (fun k_=>some k_=(.slice Ao16 t286.length co16:Value).ownBlock) (.slice Ao16 t286.length co16) t286 t289 t292 w _ ?side1 ?side2 A14.out).mono ?_);(case side1=>repeat (first|(with_reducible first|exact HB.out|apply below_alloc|apply pw_below_drewN|apply below_drew1)|exact HB.out));(case side2=>exact Kd.R_tight rfl HO288.out);rintro e w17 ⟨v290,rfl,ho0,hb,hkp⟩;refine⟨_,rfl,?_⟩;have HO291:=Sd.mk (Kd.R_mono (ok':=fun k_=>True) ho0 (fun k_ hk_=>trivial));replace HB:=Sd.mk (hb);clear HO288;(try clear hb);(try clear hkp);(try clear ho0)))
    go_ret2
    exact⟨_,by first|rfl|(simp[errW_none,errW_some]<;>rfl)|(simp[*,errW_none,errW_some]<;>rfl),by(with_reducible repeat (first|apply Kd.R_alloc|apply Kd.R_drewN|apply Kd.R_drew));exact HO291.out,bz⟩
end Go.Proofs.Ytfblcanijhnhmaa.P