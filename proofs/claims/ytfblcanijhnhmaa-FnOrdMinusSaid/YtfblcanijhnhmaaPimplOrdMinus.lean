/- One Go function comes to what its Lean function tells. -/
import Derived.Test.YtfblcanijhnhmaaP0
import Derived.Test.YtfblcanijhnhmaaPimplboth
import Derived.Test.YtfblcanijhnhmaaPimplcompare
import Derived.Test.YtfblcanijhnhmaaPimplminus
import Derived.Test.YtfblcanijhnhmaaPimpltold
namespace Go.Proofs.Ytfblcanijhnhmaa.P
open Go.RowKit YtfblcanijhnhmaaW.PrintWords YtfblcanijhnhmaaW.PrintLast YtfblcanijhnhmaaW.PrintMore
set_option linter.unusedVariables false
set_option linter.unusedSimpArgs false
/-! ### impl_OrdMinus: function 22 -/
def impl_OrdMinus.j0:Nat→List (S61)→List (S61)→Bool→Option (List Int × Bool)
 | 0,_,_,_=>none
 | k+1,x6,x7,x23=>if x23=true then(some (([]:List Int),false)) else((impl_minus.f k x6 x7).bind fun t587=>((impl_told.f k t587).bind fun bt590=>(some (bt590.1,bt590.2))))
def impl_OrdMinus.f (k:Nat)(l0:List Int)(l1:List Int):Option (List Int × Bool):=(impl_both.f k l0 l1).bind fun bt579=>(if bt579.2.2=true then((impl_compare.f k bt579.1 bt579.2.1).bind fun t586=>(impl_OrdMinus.j0 k bt579.1 bt579.2.1 (decide (t586<0)))) else(impl_OrdMinus.j0 k bt579.1 bt579.2.1 true))
theorem impl_OrdMinus.mono_l:∀ k,(∀ y0 y1 y2,LeO (impl_OrdMinus.j0 k y0 y1 y2) (impl_OrdMinus.j0 (k+1) y0 y1 y2))
 | 0=>fun _ _ _ r h=>by simp[impl_OrdMinus.j0] at h
 | k+1=>by
  have ih0:=impl_OrdMinus.mono_l k
  ·intro y0 y1 y2
   unfold impl_OrdMinus.j0
   repeat' first|(with_reducible first|exact ih0 _ _ _|exact impl_minus.mono _ _ _|exact impl_told.mono _ _|exact LeO.refl _|exact LeO.none _|refine LeO.ite ?_ ?_|refine LeO.bind ?_ (fun _=>?_))|exact ih0 _ _ _|exact impl_minus.mono _ _ _|exact impl_told.mono _ _|exact LeO.none _|refine LeO.ite ?_ ?_|refine LeO.bind ?_ (fun _=>?_)
theorem impl_OrdMinus.mono:∀ a0 a1 k,LeO (impl_OrdMinus.f k a0 a1) (impl_OrdMinus.f (k+1) a0 a1):=by
 intro a0 a1 k
 have ih0:=impl_OrdMinus.mono_l k
 unfold impl_OrdMinus.f
 repeat' first|(with_reducible first|exact ih0 _ _ _|exact impl_both.mono _ _ _|exact impl_compare.mono _ _ _|exact LeO.refl _|exact LeO.none _|refine LeO.ite ?_ ?_|refine LeO.bind ?_ (fun _=>?_))|exact ih0 _ _ _|exact impl_both.mono _ _ _|exact impl_compare.mono _ _ _|exact LeO.none _|refine LeO.ite ?_ ?_|refine LeO.bind ?_ (fun _=>?_)
set_option maxHeartbeats 8000000 in
set_option maxRecDepth 100000 in
theorem impl_OrdMinus.calls (k:Nat)(A0:Option Addr)(c0:Nat)(l0:List Int)(A1:Option Addr)(c1:Nat)(l1:List Int)(r1:List Int)(r2:Bool)(w:World)(hr0:Kd.C (Kd.int .i64) w A0 l0.length l0)(hc0:l0.length≤c0)(hr1:Kd.C (Kd.int .i64) w A1 l1.length l1)(hc1:l1.length≤c1)(h:impl_OrdMinus.f k l0 l1=some (r1,r2)) :
  Calls Try.prog 22 #[.slice A0 l0.length c0,.slice A1 l1.length c1] w fun e w'=>∃ v0_:Value,e=.returned (.tuple #[v0_,.bool r2])∧Kd.R (Kd.int .i64) 3 w' w.heap.size (fun _=>True) v0_ r1∧Below w.heap.size w w':=by
 have HR0:=Sd.mk hr0
 have HC0:=Sd.mk hc0
 clear hr0 hc0
 have HR1:=Sd.mk hr1
 have HC1:=Sd.mk hc1
 clear hr1 hc1
 have HB:=Sd.mk (Below.refl w.heap.size w)
 have H:((impl_both.f k l0 l1).bind fun bt579=>(if bt579.2.2=true then((impl_compare.f k bt579.1 bt579.2.1).bind fun t586=>(impl_OrdMinus.j0 k bt579.1 bt579.2.1 (decide (t586<0)))) else(impl_OrdMinus.j0 k bt579.1 bt579.2.1 true)))=some (r1,r2):=h
 clear h
 replace H:=Option.bind_eq_some_iff.mp H
 obtain⟨⟨t579,t580,t581⟩,A30,H⟩:=H
 replace H:(if t581=true then((impl_compare.f k t579 t580).bind fun t586=>(impl_OrdMinus.j0 k t579 t580 (decide (t586<0)))) else(impl_OrdMinus.j0 k t579 t580 true))=some (r1,r2):=H
 have A3:=Sd.mk A30
 clear A30
 have HC4:=Sd.mk H
 clear H
 go_enter Try.func22,Try.ntmps22
 go_upto_region 2 with (first|((with_reducible refine gate_callee (f:=45) rfl ?_);refine goesL_ (some 12) rfl rfl Try.func45 (by kernel_rfl) rfl #[.slice A0 l0.length c0,.slice A1 l1.length c1] rfl az ?_;(with_reducible refine(impl_both.calls k _ _ l0 _ _ l1 t579 t580 t581 _ ?side1 ?side2 ?side3 ?side4 A3.out).mono ?_);(case side1=>exact Kd.Cz HR0.out);(case side2=>exact HC0.out);(case side3=>exact Kd.Cz HR1.out);(case side4=>exact HC1.out);rintro e w5 ⟨v582,v584,rfl,ho0,ho1,hb⟩;refine⟨_,rfl,?_⟩;have HO583:=Sd.mk (Kd.R_lower ho0 (below_size bz));have HO585:=Sd.mk (Kd.R_lower ho1 (below_size bz));replace HB:=Sd.mk (below_step bz hb);(try clear hb);(try clear hb2);(try clear hk);(try clear hi);(try clear ho0);(try clear ho1)))
 (try simp only[Act.put,List.setIfInBounds_toArray,List.set_cons_zero,List.set_cons_succ])
 go_cut [23] (fun v23 wc=>∃ (kq:Nat) (x23_3:Bool),v23=.bool x23_3∧Sd (impl_OrdMinus.j0 kq t579 t580 x23_3=some (r1,r2))∧Sd (kq≤k)∧Sd (Kd.R k61 61 wc w.heap.size (fun k_=>some k_≠(v584:Value).ownBlock) v582 t579)∧Sd (Kd.R k61 61 wc w.heap.size (fun k_=>some k_≠(v582:Value).ownBlock) v584 t580)∧Sd (Below w.heap.size w wc))
 case first =>
  have H:=HC4.out
  clear HC4
  by_cases c6:t581=true
  ·subst c6
   have H1:((impl_compare.f k t579 t580).bind fun t586=>(impl_OrdMinus.j0 k t579 t580 (decide (t586<0))))=some (r1,r2):=by rw[if_pos rfl] at H;exact H
   clear H
   have H:=H1
   clear H1
   replace H:=Option.bind_eq_some_iff.mp H
   obtain⟨t586,A70,H⟩:=H
   replace H:(impl_OrdMinus.j0 k t579 t580 (decide (t586<0)))=some (r1,r2):=H
   have A7:=Sd.mk A70
   clear A70
   have H':=Sd.mk H
   clear H
   obtain⟨Ao8,co8,eo8⟩:=Kd.R_slice HO583.out
   subst eo8
   obtain⟨Ao9,co9,eo9⟩:=Kd.R_slice HO585.out
   subst eo9
   go_wp2_with (first|(go_at_call 50;(with_reducible refine(impl_compare.calls k _ _ t579 _ _ t580 t586 _ ?side1 ?side2 ?side3 ?side4 A7.out).mono ?_);(case side1=>exact Kd.Cz (Kd.R_reads' HO583.out).2.2);(case side2=>exact(Kd.R_reads' HO583.out).2.1);(case side3=>exact Kd.Cz (Kd.R_reads' HO585.out).2.2);(case side4=>exact(Kd.R_reads' HO585.out).2.1);rintro e w10 ⟨rfl,hb⟩;replace HO583:=Sd.mk (Kd.R_below (Kd.Rz HO583.out) hb);replace HO585:=Sd.mk (Kd.R_below (Kd.Rz HO585.out) hb);replace HB:=Sd.mk (below_step bz hb);(try clear hb);(try clear hb2);(try clear hk);(try clear hi)))
   go_meet
   case rel=>exact⟨_,(decide (t586<0)),(by first|rfl|(simp;done)|(simp[*];done)),H',⟨by first|omega|exact Nat.le_refl _⟩,⟨by(with_reducible repeat (first|apply Kd.R_alloc|apply Kd.R_drewN|apply Kd.R_drew));exact HO583.out⟩,⟨by(with_reducible repeat (first|apply Kd.R_alloc|apply Kd.R_drewN|apply Kd.R_drew));exact HO585.out⟩,⟨bz⟩⟩
  ·replace c6:=Bool.eq_false_iff.mpr c6
   subst c6
   have H1:(impl_OrdMinus.j0 k t579 t580 true)=some (r1,r2):=by rw[if_neg (show ¬ (false=true) by decide)] at H;exact H
   clear H
   have H:=H1
   clear H1
   have H':=Sd.mk H
   clear H
   go_wp2
   go_meet
   case rel=>exact⟨_,(true),(by first|rfl|(simp;done)|(simp[*];done)),H',⟨by first|omega|exact Nat.le_refl _⟩,⟨by(with_reducible repeat (first|apply Kd.R_alloc|apply Kd.R_drewN|apply Kd.R_drew));exact HO583.out⟩,⟨by(with_reducible repeat (first|apply Kd.R_alloc|apply Kd.R_drewN|apply Kd.R_drew));exact HO585.out⟩,⟨bz⟩⟩
 case rest =>
  clear HC4
  try clear c1
  try clear c2
  try clear p2
  try clear c4
  try clear c6
  obtain⟨kq,x23_3,rfl,HA,HJ3,HO_6,HO_7,HB⟩:=hcut
  cases kq with
  | zero=>exact absurd HA.out (by simp[impl_OrdMinus.j0])
  | succ kj3 =>
   have H:=HA.out
   clear HA
   simp only[impl_OrdMinus.j0] at H
   by_cases c11:x23_3=true
   ·subst c11
    have H1:(some (([]:List Int),false))=some (r1,r2):=by rw[if_pos rfl] at H;exact H
    clear H
    have H:=H1
    clear H1
    simp only[Option.some.injEq,Prod.mk.injEq] at H
    obtain⟨rfl,rfl⟩:=H
    go_wp2
    go_ret2
    exact⟨_,by first|rfl|(simp[errW_none,errW_some]<;>rfl)|(simp[*,errW_none,errW_some]<;>rfl),by first|exact Kd.R_nil _ _ _ _ _|exact Kd.N_nil _ _ _ _ _|exact Kd.V_nil _ _ _ _ _|exact Kd.Q_nil _ _ _ _ _|exact Kd.S_nil _ _ _ _ _,bz⟩
   ·replace c11:=Bool.eq_false_iff.mpr c11
    subst c11
    have H1:((impl_minus.f kj3 t579 t580).bind fun t587=>((impl_told.f kj3 t587).bind fun bt590=>(some (bt590.1,bt590.2))))=some (r1,r2):=by rw[if_neg (show ¬ (false=true) by decide)] at H;exact H
    clear H
    have H:=H1
    clear H1
    replace H:=Option.bind_eq_some_iff.mp H
    obtain⟨t587,A120,H⟩:=H
    replace H:((impl_told.f kj3 t587).bind fun bt590=>(some (bt590.1,bt590.2)))=some (r1,r2):=H
    have A12:=Sd.mk A120
    clear A120
    replace H:=Option.bind_eq_some_iff.mp H
    obtain⟨⟨t590,t591⟩,A130,H⟩:=H
    replace H:(some (t590,t591))=some (r1,r2):=H
    have A13:=Sd.mk A130
    clear A130
    simp only[Option.some.injEq,Prod.mk.injEq] at H
    obtain⟨rfl,rfl⟩:=H
    obtain⟨Ao14,co14,eo14⟩:=Kd.R_slice HO_6.out
    subst eo14
    obtain⟨Ao15,co15,eo15⟩:=Kd.R_slice HO_7.out
    subst eo15
    go_wp2_with (first|((with_reducible refine gate_callee (f:=51) rfl ?_);refine goesL_ (some 26) rfl rfl Try.func51 (by kernel_rfl) rfl #[.slice Ao14 t579.length co14,.slice Ao15 t580.length co15] rfl az ?_;(with_reducible refine(impl_minus.calls kj3 (fun k_=>some k_≠(.slice Ao15 t580.length co15:Value).ownBlock) _ _ t579 _ _ t580 t587 _ ?side1 ?side2 ?side3 A12.out).mono ?_);(case side1=>exact Kd.R_V (HO_6.out));(case side2=>exact Kd.Cz (Kd.R_reads' HO_7.out).2.2);(case side3=>exact(Kd.R_reads' HO_7.out).2.1);rintro e w16 ⟨v588,rfl,ho0,hb⟩;refine⟨_,rfl,?_⟩;replace HO_6:=Sd.mk (Kd.R_below (Kd.Rz HO_6.out) hb);have HO589:=Sd.mk (Kd.V_lower (Kd.V_mono (ok':=fun k_=>some k_≠(.slice Ao15 t580.length co15:Value).ownBlock) ho0 (fun k_ hk_=>Or.elim hk_ (fun hs_=>hs_) (fun hn_=>(Kd.fresh' (Kd.R_lt (Kd.Rz HO_7.out)) k_ hn_)))) (below_size bz));replace HO_7:=Sd.mk (Kd.R_below (Kd.Rz HO_7.out) hb);replace HB:=Sd.mk (below_step bz hb);(try clear hb);(try clear hb2);(try clear hk);(try clear hi);(try clear ho0);obtain⟨Ao17,co17,eo17⟩:=Kd.V_slice HO589.out;subst eo17)|((with_reducible refine gate_callee (f:=46) rfl ?_);refine goesL_ (some 27) rfl rfl Try.func46 (by kernel_rfl) rfl #[.slice Ao17 t587.length co17] rfl az ?_;(with_reducible refine(impl_told.calls kj3 _ _ t587 t590 t591 _ ?side1 ?side2 A13.out).mono ?_);(case side1=>exact Kd.Cz (Kd.V_reads' HO589.out).2.2);(case side2=>exact(Kd.V_reads' HO589.out).2.1);rintro e w18 ⟨v592,rfl,ho0,hb⟩;refine⟨_,rfl,?_⟩;replace HO_6:=Sd.mk (Kd.R_below (Kd.Rz HO_6.out) hb);replace HO_7:=Sd.mk (Kd.R_below (Kd.Rz HO_7.out) hb);replace HO589:=Sd.mk (Kd.V_elder' (Kd.Vz HO589.out) (Kd.R_base ho0) hb);have HO593:=Sd.mk (Kd.R_lower ho0 (below_size bz));replace HB:=Sd.mk (below_step bz hb);(try clear hb);(try clear hb2);(try clear hk);(try clear hi);(try clear ho0)))
    go_ret2
    exact⟨_,by first|rfl|(simp[errW_none,errW_some]<;>rfl)|(simp[*,errW_none,errW_some]<;>rfl),by(with_reducible repeat (first|apply Kd.R_alloc|apply Kd.R_drewN|apply Kd.R_drew));exact HO593.out,bz⟩
end Go.Proofs.Ytfblcanijhnhmaa.P