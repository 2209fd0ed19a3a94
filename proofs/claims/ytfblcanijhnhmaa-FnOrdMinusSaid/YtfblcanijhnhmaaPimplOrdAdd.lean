/- One Go function comes to what its Lean function tells. -/
import Derived.Test.YtfblcanijhnhmaaP0
import Derived.Test.YtfblcanijhnhmaaPimpladd
import Derived.Test.YtfblcanijhnhmaaPimplboth
import Derived.Test.YtfblcanijhnhmaaPimpltold
namespace Go.Proofs.Ytfblcanijhnhmaa.P
open Go.RowKit YtfblcanijhnhmaaW.PrintWords YtfblcanijhnhmaaW.PrintLast YtfblcanijhnhmaaW.PrintMore
set_option linter.unusedVariables false
set_option linter.unusedSimpArgs false
/-! ### impl_OrdAdd: function 17 -/
def impl_OrdAdd.f (k:Nat)(l0:List Int)(l1:List Int):Option (List Int × Bool):=(impl_both.f k l0 l1).bind fun bt405=>(if bt405.2.2=true then((impl_add.f k bt405.1 bt405.2.1).bind fun t412=>((impl_told.f k t412).bind fun bt415=>(some (bt415.1,bt415.2)))) else(some (([]:List Int),false)))
theorem impl_OrdAdd.mono:∀ a0 a1 k,LeO (impl_OrdAdd.f k a0 a1) (impl_OrdAdd.f (k+1) a0 a1):=by
 intro a0 a1 k
 unfold impl_OrdAdd.f
 repeat' first|(with_reducible first|exact impl_add.mono _ _ _|exact impl_both.mono _ _ _|exact impl_told.mono _ _|exact LeO.refl _|exact LeO.none _|refine LeO.ite ?_ ?_|refine LeO.bind ?_ (fun _=>?_))|exact impl_add.mono _ _ _|exact impl_both.mono _ _ _|exact impl_told.mono _ _|exact LeO.none _|refine LeO.ite ?_ ?_|refine LeO.bind ?_ (fun _=>?_)
set_option maxHeartbeats 8000000 in
set_option maxRecDepth 100000 in
theorem impl_OrdAdd.calls (k:Nat)(A0:Option Addr)(c0:Nat)(l0:List Int)(A1:Option Addr)(c1:Nat)(l1:List Int)(r1:List Int)(r2:Bool)(w:World)(hr0:Kd.C (Kd.int .i64) w A0 l0.length l0)(hc0:l0.length≤c0)(hr1:Kd.C (Kd.int .i64) w A1 l1.length l1)(hc1:l1.length≤c1)(h:impl_OrdAdd.f k l0 l1=some (r1,r2)) :
  Calls Try.prog 17 #[.slice A0 l0.length c0,.slice A1 l1.length c1] w fun e w'=>∃ v0_:Value,e=.returned (.tuple #[v0_,.bool r2])∧Kd.R (Kd.int .i64) 3 w' w.heap.size (fun _=>True) v0_ r1∧Below w.heap.size w w':=by
 have HR0:=Sd.mk hr0
 have HC0:=Sd.mk hc0
 clear hr0 hc0
 have HR1:=Sd.mk hr1
 have HC1:=Sd.mk hc1
 clear hr1 hc1
 have HB:=Sd.mk (Below.refl w.heap.size w)
 have H:((impl_both.f k l0 l1).bind fun bt405=>(if bt405.2.2=true then((impl_add.f k bt405.1 bt405.2.1).bind fun t412=>((impl_told.f k t412).bind fun bt415=>(some (bt415.1,bt415.2)))) else(some (([]:List Int),false))))=some (r1,r2):=h
 clear h
 replace H:=Option.bind_eq_some_iff.mp H
 obtain⟨⟨t405,t406,t407⟩,A30,H⟩:=H
 replace H:(if t407=true then((impl_add.f k t405 t406).bind fun t412=>((impl_told.f k t412).bind fun bt415=>(some (bt415.1,bt415.2)))) else(some (([]:List Int),false)))=some (r1,r2):=H
 have A3:=Sd.mk A30
 clear A30
 by_cases c4:t407=true
 ·subst c4
  have H1:((impl_add.f k t405 t406).bind fun t412=>((impl_told.f k t412).bind fun bt415=>(some (bt415.1,bt415.2))))=some (r1,r2):=by rw[if_pos rfl] at H;exact H
  clear H
  have H:=H1
  clear H1
  replace H:=Option.bind_eq_some_iff.mp H
  obtain⟨t412,A50,H⟩:=H
  replace H:((impl_told.f k t412).bind fun bt415=>(some (bt415.1,bt415.2)))=some (r1,r2):=H
  have A5:=Sd.mk A50
  clear A50
  replace H:=Option.bind_eq_some_iff.mp H
  obtain⟨⟨t415,t416⟩,A60,H⟩:=H
  replace H:(some (t415,t416))=some (r1,r2):=H
  have A6:=Sd.mk A60
  clear A60
  simp only[Option.some.injEq,Prod.mk.injEq] at H
  obtain⟨rfl,rfl⟩:=H
  go_enter Try.func17,Try.ntmps17
  go_wp2_with (first|((with_reducible refine gate_callee (f:=45) rfl ?_);refine goesL_ (some 12) rfl rfl Try.func45 (by kernel_rfl) rfl #[.slice A0 l0.length c0,.slice A1 l1.length c1] rfl az ?_;(with_reducible refine(impl_both.calls k _ _ l0 _ _ l1 t405 t406 true _ ?side1 ?side2 ?side3 ?side4 A3.out).mono ?_);(case side1=>exact Kd.Cz HR0.out);(case side2=>exact HC0.out);(case side3=>exact Kd.Cz HR1.out);(case side4=>exact HC1.out);rintro e w7 ⟨v408,v410,rfl,ho0,ho1,hb⟩;refine⟨_,rfl,?_⟩;have HO409:=Sd.mk (Kd.R_lower ho0 (below_size bz));have HO411:=Sd.mk (Kd.R_lower ho1 (below_size bz));replace HB:=Sd.mk (below_step bz hb);(try clear hb);(try clear hb2);(try clear hk);(try clear hi);(try clear ho0);(try clear ho1);obtain⟨Ao8,co8,eo8⟩:=Kd.R_slice HO409.out;subst eo8;obtain⟨Ao9,co9,eo9⟩:=Kd.R_slice HO411.out;subst eo9)|((with_reducible refine gate_callee (f:=47) rfl ?_);refine goesL_ (some 20) rfl rfl Try.func47 (by kernel_rfl) rfl #[.slice Ao8 t405.length co8,.slice Ao9 t406.length co9] rfl az ?_;(with_reducible refine(impl_add.calls k (fun k_=>some k_≠(.slice Ao9 t406.length co9:Value).ownBlock) _ _ t405 (fun k_=>some k_≠(.slice Ao8 t405.length co8:Value).ownBlock) _ _ t406 t412 _ ?side1 ?side2 A5.out).mono ?_);(case side1=>exact Kd.R_V (HO409.out));(case side2=>exact Kd.R_V (HO411.out));rintro e w10 ⟨v413,rfl,ho0,hb⟩;refine⟨_,rfl,?_⟩;replace HO409:=Sd.mk (Kd.R_below (Kd.Rz HO409.out) hb);replace HO411:=Sd.mk (Kd.R_below (Kd.Rz HO411.out) hb);have HO414:=Sd.mk (Kd.V_lower (Kd.V_mono (ok':=fun k_=>True) ho0 (fun k_ hk_=>trivial)) (below_size bz));replace HB:=Sd.mk (below_step bz hb);(try clear hb);(try clear hb2);(try clear hk);(try clear hi);(try clear ho0);obtain⟨Ao11,co11,eo11⟩:=Kd.V_slice HO414.out;subst eo11)|((with_reducible refine gate_callee (f:=46) rfl ?_);refine goesL_ (some 21) rfl rfl Try.func46 (by kernel_rfl) rfl #[.slice Ao11 t412.length co11] rfl az ?_;(with_reducible refine(impl_told.calls k _ _ t412 t415 t416 _ ?side1 ?side2 A6.out).mono ?_);(case side1=>exact Kd.Cz (Kd.V_reads' HO414.out).2.2);(case side2=>exact(Kd.V_reads' HO414.out).2.1);rintro e w12 ⟨v417,rfl,ho0,hb⟩;refine⟨_,rfl,?_⟩;replace HO409:=Sd.mk (Kd.R_below (Kd.Rz HO409.out) hb);replace HO411:=Sd.mk (Kd.R_below (Kd.Rz HO411.out) hb);replace HO414:=Sd.mk (Kd.V_elder' (Kd.Vz HO414.out) (Kd.R_base ho0) hb);have HO418:=Sd.mk (Kd.R_lower ho0 (below_size bz));replace HB:=Sd.mk (below_step bz hb);(try clear hb);(try clear hb2);(try clear hk);(try clear hi);(try clear ho0)))
  go_ret2
  exact⟨_,by first|rfl|(simp[errW_none,errW_some]<;>rfl)|(simp[*,errW_none,errW_some]<;>rfl),by(with_reducible repeat (first|apply Kd.R_alloc|apply Kd.R_drewN|apply Kd.R_drew));exact HO418.out,bz⟩
 ·replace c4:=Bool.eq_false_iff.mpr c4
  subst c4
  have H1:(some (([]:List Int),false))=some (r1,r2):=by rw[if_neg (show ¬ (false=true) by decide)] at H;exact H
  clear H
  have H:=H1
  clear H1
  simp only[Option.some.injEq,Prod.mk.injEq] at H
  obtain⟨rfl,rfl⟩:=H
  go_enter Try.func17,Try.ntmps17
  go_wp2_with (first|((with_reducible refine gate_callee (f:=45) rfl ?_);refine goesL_ (some 12) rfl rfl Try.func45 (by kernel_rfl) rfl #[.slice A0 l0.length c0,.slice A1 l1.length c1] rfl az ?_;(with_reducible refine(impl_both.calls k _ _ l0 _ _ l1 t405 t406 false _ ?side1 ?side2 ?side3 ?side4 A3.out).mono ?_);(case side1=>exact Kd.Cz HR0.out);(case side2=>exact HC0.out);(case side3=>exact Kd.Cz HR1.out);(case side4=>exact HC1.out);rintro e w13 ⟨v408,v410,rfl,ho0,ho1,hb⟩;refine⟨_,rfl,?_⟩;have HO409:=Sd.mk (Kd.R_lower ho0 (below_size bz));have HO411:=Sd.mk (Kd.R_lower ho1 (below_size bz));replace HB:=Sd.mk (below_step bz hb);(try clear hb);(try clear hb2);(try clear hk);(try clear hi);(try clear ho0);(try clear ho1)))
  go_ret2
  exact⟨_,by first|rfl|(simp[errW_none,errW_some]<;>rfl)|(simp[*,errW_none,errW_some]<;>rfl),by first|exact Kd.R_nil _ _ _ _ _|exact Kd.N_nil _ _ _ _ _|exact Kd.V_nil _ _ _ _ _|exact Kd.Q_nil _ _ _ _ _|exact Kd.S_nil _ _ _ _ _,bz⟩
end Go.Proofs.Ytfblcanijhnhmaa.P