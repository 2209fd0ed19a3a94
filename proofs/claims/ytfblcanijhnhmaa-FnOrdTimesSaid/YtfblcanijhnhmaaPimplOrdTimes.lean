/- One Go function comes to what its Lean function tells. -/
import Derived.Test.YtfblcanijhnhmaaP0
import Derived.Test.YtfblcanijhnhmaaPimplboth
import Derived.Test.YtfblcanijhnhmaaPimpltimes
import Derived.Test.YtfblcanijhnhmaaPimpltold
namespace Go.Proofs.Ytfblcanijhnhmaa.P
open Go.RowKit YtfblcanijhnhmaaW.PrintWords YtfblcanijhnhmaaW.PrintLast YtfblcanijhnhmaaW.PrintMore
set_option linter.unusedVariables false
set_option linter.unusedSimpArgs false
/-! ### impl_OrdTimes: function 26 -/
def impl_OrdTimes.f (k:Nat)(l0:List Int)(l1:List Int):Option (List Int × Bool):=(impl_both.f k l0 l1).bind fun bt909=>(if bt909.2.2=true then((impl_times.f k bt909.1 bt909.2.1).bind fun t916=>((impl_told.f k t916).bind fun bt919=>(some (bt919.1,bt919.2)))) else(some (([]:List Int),false)))
theorem impl_OrdTimes.mono:∀ a0 a1 k,LeO (impl_OrdTimes.f k a0 a1) (impl_OrdTimes.f (k+1) a0 a1):=by
 intro a0 a1 k
 unfold impl_OrdTimes.f
 repeat' first|(with_reducible first|exact impl_both.mono _ _ _|exact impl_times.mono _ _ _|exact impl_told.mono _ _|exact LeO.refl _|exact LeO.none _|refine LeO.ite ?_ ?_|refine LeO.bind ?_ (fun _=>?_))|exact impl_both.mono _ _ _|exact impl_times.mono _ _ _|exact impl_told.mono _ _|exact LeO.none _|refine LeO.ite ?_ ?_|refine LeO.bind ?_ (fun _=>?_)
set_option maxHeartbeats 8000000 in
set_option maxRecDepth 100000 in
theorem impl_OrdTimes.calls (k:Nat)(A0:Option Addr)(c0:Nat)(l0:List Int)(A1:Option Addr)(c1:Nat)(l1:List Int)(r1:List Int)(r2:Bool)(w:World)(hr0:Kd.C (Kd.int .i64) w A0 l0.length l0)(hc0:l0.length≤c0)(hr1:Kd.C (Kd.int .i64) w A1 l1.length l1)(hc1:l1.length≤c1)(h:impl_OrdTimes.f k l0 l1=some (r1,r2)) :
  Calls Try.prog 26 #[.slice A0 l0.length c0,.slice A1 l1.length c1] w fun e w'=>∃ v0_:Value,e=.returned (.tuple #[v0_,.bool r2])∧Kd.R (Kd.int .i64) 3 w' w.heap.size (fun _=>True) v0_ r1∧Below w.heap.size w w':=by
 have HR0:=Aside0.mk hr0
 have HC0:=Aside0.mk hc0
 clear hr0 hc0
 have HR1:=Aside0.mk hr1
 have HC1:=Aside0.mk hc1
 clear hr1 hc1
 have HB:=Aside0.mk (Below.refl w.heap.size w)
 have H:((impl_both.f k l0 l1).bind fun bt909=>(if bt909.2.2=true then((impl_times.f k bt909.1 bt909.2.1).bind fun t916=>((impl_told.f k t916).bind fun bt919=>(some (bt919.1,bt919.2)))) else(some (([]:List Int),false))))=some (r1,r2):=h
 clear h
 replace H:=Option.bind_eq_some_iff.mp H
 obtain⟨⟨t909,t910,t911⟩,A30,H⟩:=H
 replace H:(if t911=true then((impl_times.f k t909 t910).bind fun t916=>((impl_told.f k t916).bind fun bt919=>(some (bt919.1,bt919.2)))) else(some (([]:List Int),false)))=some (r1,r2):=H
 have A3:=Aside0.mk A30
 clear A30
 by_cases c4:t911=true
 ·subst c4
  have H1:((impl_times.f k t909 t910).bind fun t916=>((impl_told.f k t916).bind fun bt919=>(some (bt919.1,bt919.2))))=some (r1,r2):=by rw[if_pos rfl] at H;exact H
  clear H
  have H:=H1
  clear H1
  replace H:=Option.bind_eq_some_iff.mp H
  obtain⟨t916,A50,H⟩:=H
  replace H:((impl_told.f k t916).bind fun bt919=>(some (bt919.1,bt919.2)))=some (r1,r2):=H
  have A5:=Aside0.mk A50
  clear A50
  replace H:=Option.bind_eq_some_iff.mp H
  obtain⟨⟨t919,t920⟩,A60,H⟩:=H
  replace H:(some (t919,t920))=some (r1,r2):=H
  have A6:=Aside0.mk A60
  clear A60
  simp only[Option.some.injEq,Prod.mk.injEq] at H
  obtain⟨rfl,rfl⟩:=H
  go_enter Try.func26,Try.ntmps26
  go_wp2_with (first|((with_reducible refine gate_callee (f:=45) rfl ?_);refine goesL_ (some 12) rfl rfl Try.func45 (by kernel_rfl) rfl #[.slice A0 l0.length c0,.slice A1 l1.length c1] rfl az ?_;(with_reducible refine(impl_both.calls k _ _ l0 _ _ l1 t909 t910 true _ ?side1 ?side2 ?side3 ?side4 A3.out).mono ?_);(case side1=>exact Kd.Cz HR0.out);(case side2=>exact HC0.out);(case side3=>exact Kd.Cz HR1.out);(case side4=>exact HC1.out);rintro e w7 ⟨v912,v914,rfl,ho0,ho1,hb⟩;refine⟨_,rfl,?_⟩;have HO913:=Aside0.mk (Kd.N_lower (Kd.N_mono (ok':=fun k_=>some k_≠(v914:Value).ownBlock) (Kd.R_N (Kd.R_bound ho0)) (fun k_ hk_=>hk_.1)) (below_size bz));have HO915:=Aside0.mk (Kd.N_lower (Kd.N_mono (ok':=fun k_=>some k_≠(v912:Value).ownBlock) (Kd.R_N (Kd.R_bound ho1)) (fun k_ hk_=>hk_.1)) (below_size bz));replace HB:=Aside0.mk (below_step bz hb);(try clear hb);(try clear hb2);(try clear hk);(try clear hi);(try clear ho0);(try clear ho1);obtain⟨Ao8,co8,eo8⟩:=Kd.N_slice HO913.out;subst eo8;obtain⟨Ao9,co9,eo9⟩:=Kd.N_slice HO915.out;subst eo9)|((with_reducible refine gate_callee (f:=57) rfl ?_);refine goesL_ (some 20) rfl rfl Try.func57 (by kernel_rfl) rfl #[.slice Ao8 t909.length co8,.slice Ao9 t910.length co9] rfl az ?_;(with_reducible refine(impl_times.calls k (fun k_=>some k_≠(.slice Ao9 t910.length co9:Value).ownBlock) _ _ t909 (fun k_=>some k_≠(.slice Ao8 t909.length co8:Value).ownBlock) _ _ t910 t916 _ ?side1 ?side2 A5.out).mono ?_);(case side1=>exact Kd.N_V (HO913.out));(case side2=>exact Kd.N_V (HO915.out));rintro e w10 ⟨v917,rfl,ho0,hb⟩;refine⟨_,rfl,?_⟩;replace HO913:=Aside0.mk (Kd.N_elder' (Kd.Nz HO913.out) (by first|exact Kd.N_base ho0|exact Kd.R_base ho0) hb);replace HO915:=Aside0.mk (Kd.N_elder' (Kd.Nz HO915.out) (by first|exact Kd.N_base ho0|exact Kd.R_base ho0) hb);have HO918:=Aside0.mk (Kd.N_lower (Kd.N_mono (ok':=fun k_=>True) ho0 (fun k_ hk_=>trivial)) (below_size bz));replace HB:=Aside0.mk (below_step bz hb);(try clear hb);(try clear hb2);(try clear hk);(try clear hi);(try clear ho0);obtain⟨Ao11,co11,eo11⟩:=Kd.N_slice HO918.out;subst eo11)|((with_reducible refine gate_callee (f:=46) rfl ?_);refine goesL_ (some 21) rfl rfl Try.func46 (by kernel_rfl) rfl #[.slice Ao11 t916.length co11] rfl az ?_;(with_reducible refine(impl_told.calls k _ _ t916 t919 t920 _ ?side1 ?side2 A6.out).mono ?_);(case side1=>exact Kd.Cz (Kd.N_reads' HO918.out).2.2);(case side2=>exact(Kd.N_reads' HO918.out).2.1);rintro e w12 ⟨v921,rfl,ho0,hb⟩;refine⟨_,rfl,?_⟩;replace HO913:=Aside0.mk (Kd.N_elder' (Kd.Nz HO913.out) (Kd.R_base ho0) hb);replace HO915:=Aside0.mk (Kd.N_elder' (Kd.Nz HO915.out) (Kd.R_base ho0) hb);replace HO918:=Aside0.mk (Kd.N_elder' (Kd.Nz HO918.out) (Kd.R_base ho0) hb);have HO922:=Aside0.mk (Kd.R_lower ho0 (below_size bz));replace HB:=Aside0.mk (below_step bz hb);(try clear hb);(try clear hb2);(try clear hk);(try clear hi);(try clear ho0)))
  go_ret2
  exact⟨_,by first|rfl|(simp[errW_none,errW_some]<;>rfl)|(simp[*,errW_none,errW_some]<;>rfl),by(with_reducible repeat (first|apply Kd.R_alloc|apply Kd.R_drewN|apply Kd.R_drew));exact HO922.out,bz⟩
 ·replace c4:=Bool.eq_false_iff.mpr c4
  subst c4
  have H1:(some (([]:List Int),false))=some (r1,r2):=by rw[if_neg (show ¬ (false=true) by decide)] at H;exact H
  clear H
  have H:=H1
  clear H1
  simp only[Option.some.injEq,Prod.mk.injEq] at H
  obtain⟨rfl,rfl⟩:=H
  go_enter Try.func26,Try.ntmps26
  go_wp2_with (first|((with_reducible refine gate_callee (f:=45) rfl ?_);refine goesL_ (some 12) rfl rfl Try.func45 (by kernel_rfl) rfl #[.slice A0 l0.length c0,.slice A1 l1.length c1] rfl az ?_;(with_reducible refine(impl_both.calls k _ _ l0 _ _ l1 t909 t910 false _ ?side1 ?side2 ?side3 ?side4 A3.out).mono ?_);(case side1=>exact Kd.Cz HR0.out);(case side2=>exact HC0.out);(case side3=>exact Kd.Cz HR1.out);(case side4=>exact HC1.out);rintro e w13 ⟨v912,v914,rfl,ho0,ho1,hb⟩;refine⟨_,rfl,?_⟩;have HO913:=Aside0.mk (Kd.N_lower (Kd.N_mono (ok':=fun k_=>some k_≠(v914:Value).ownBlock) (Kd.R_N (Kd.R_bound ho0)) (fun k_ hk_=>hk_.1)) (below_size bz));have HO915:=Aside0.mk (Kd.N_lower (Kd.N_mono (ok':=fun k_=>some k_≠(v912:Value).ownBlock) (Kd.R_N (Kd.R_bound ho1)) (fun k_ hk_=>hk_.1)) (below_size bz));replace HB:=Aside0.mk (below_step bz hb);(try clear hb);(try clear hb2);(try clear hk);(try clear hi);(try clear ho0);(try clear ho1)))
  go_ret2
  exact⟨_,by first|rfl|(simp[errW_none,errW_some]<;>rfl)|(simp[*,errW_none,errW_some]<;>rfl),by first|exact Kd.R_nil _ _ _ _ _|exact Kd.N_nil _ _ _ _ _|exact Kd.V_nil _ _ _ _ _|exact Kd.Q_nil _ _ _ _ _|exact Kd.S_nil _ _ _ _ _,bz⟩
end Go.Proofs.Ytfblcanijhnhmaa.P