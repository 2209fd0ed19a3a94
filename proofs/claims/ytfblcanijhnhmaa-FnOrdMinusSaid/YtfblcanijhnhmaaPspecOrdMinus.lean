/- One Go function comes to what its Lean function tells. -/
import Derived.Test.YtfblcanijhnhmaaP0
import Derived.Test.YtfblcanijhnhmaaPspecOrdCompare
import Derived.Test.YtfblcanijhnhmaaPspecl2Minus
namespace Go.Proofs.Ytfblcanijhnhmaa.P
open Go.RowKit YtfblcanijhnhmaaW.PrintWords YtfblcanijhnhmaaW.PrintLast YtfblcanijhnhmaaW.PrintMore
set_option linter.unusedVariables false
set_option linter.unusedSimpArgs false
/-! ### spec_OrdMinus: function 21 -/
def spec_OrdMinus.f (k:Nat)(l0:List Int)(l1:List Int):Option (List Int × Bool):=(spec_OrdCompare.f k l0 l1).bind fun t543=>(if t543<0 then(some ((([]:List Int)),false)) else((spec_l2Minus.f k l0 l1).bind fun t547=>(some (t547,true))))
theorem spec_OrdMinus.mono:∀ a0 a1 k,LeO (spec_OrdMinus.f k a0 a1) (spec_OrdMinus.f (k+1) a0 a1):=by
 intro a0 a1 k
 unfold spec_OrdMinus.f
 repeat' first|(with_reducible first|exact spec_OrdCompare.mono _ _ _|exact spec_l2Minus.mono _ _ _|exact LeO.refl _|exact LeO.none _|refine LeO.ite ?_ ?_|refine LeO.bind ?_ (fun _=>?_))|exact spec_OrdCompare.mono _ _ _|exact spec_l2Minus.mono _ _ _|exact LeO.none _|refine LeO.ite ?_ ?_|refine LeO.bind ?_ (fun _=>?_)
set_option maxHeartbeats 8000000 in
set_option maxRecDepth 100000 in
theorem spec_OrdMinus.calls (k:Nat)(A0:Option Addr)(c0:Nat)(l0:List Int)(A1:Option Addr)(c1:Nat)(l1:List Int)(r1:List Int)(r2:Bool)(w:World)(hr0:Kd.C (Kd.int .i64) w A0 l0.length l0)(hc0:l0.length≤c0)(hr1:Kd.C (Kd.int .i64) w A1 l1.length l1)(hc1:l1.length≤c1)(h:spec_OrdMinus.f k l0 l1=some (r1,r2)) :
  Calls Try.prog 21 #[.slice A0 l0.length c0,.slice A1 l1.length c1] w fun e w'=>∃ v0_:Value,e=.returned (.tuple #[v0_,.bool r2])∧Kd.R (Kd.int .i64) 3 w' w.heap.size (fun _=>True) v0_ r1∧Below w.heap.size w w':=by
 have HR0:=Sd.mk hr0
 have HC0:=Sd.mk hc0
 clear hr0 hc0
 have HR1:=Sd.mk hr1
 have HC1:=Sd.mk hc1
 clear hr1 hc1
 have HB:=Sd.mk (Below.refl w.heap.size w)
 have H:((spec_OrdCompare.f k l0 l1).bind fun t543=>(if t543<0 then(some ((([]:List Int)),false)) else((spec_l2Minus.f k l0 l1).bind fun t547=>(some (t547,true)))))=some (r1,r2):=h
 clear h
 replace H:=Option.bind_eq_some_iff.mp H
 obtain⟨t543,A30,H⟩:=H
 replace H:(if t543<0 then(some ((([]:List Int)),false)) else((spec_l2Minus.f k l0 l1).bind fun t547=>(some (t547,true))))=some (r1,r2):=H
 have A3:=Sd.mk A30
 clear A30
 by_cases c4:t543<0
 ·rw[if_pos c4] at H
  have c4b0:decide (t543<0)=true:=decide_eq_true c4
  clear c4
  obtain⟨y544,hy544⟩:∃ y_:List Int,y_=(([]:List Int)):=⟨_,rfl⟩
  replace H:(some (y544,false))=some (r1,r2):=hz hy544 H
  have Ny544:=Sd.mk hy544
  clear hy544
  simp only[Option.some.injEq,Prod.mk.injEq] at H
  obtain⟨rfl,rfl⟩:=H
  go_enter Try.func21,Try.ntmps21
  go_wp2_with (first|((with_reducible refine gate_callee (f:=48) rfl ?_);refine goesL_ (some 8) rfl rfl Try.func48 (by kernel_rfl) rfl #[.slice A0 l0.length c0,.slice A1 l1.length c1] rfl az ?_;(with_reducible refine(spec_OrdCompare.calls k _ _ l0 _ _ l1 t543 _ ?side1 ?side2 ?side3 ?side4 A3.out).mono ?_);(case side1=>exact Kd.Cz HR0.out);(case side2=>exact HC0.out);(case side3=>exact Kd.Cz HR1.out);(case side4=>exact HC1.out);rintro e w5 ⟨rfl,hb⟩;refine⟨_,rfl,?_⟩;replace HB:=Sd.mk (below_step bz hb);(try clear hb);(try clear hb2);(try clear hk);(try clear hi))|((with_reducible refine gate_dst (N:=10) rfl ?_);refine Kd.R_lit (Kd.int .i64) _ 3 ?hg (N:=10) ?hd (xs:=([]:List Int)) (inner:=[]) (ok:=fun _=>True) (okp:=fun _=>True) ?hr ?hp (fun _ hk=>hk) trivial (Below.refl _ _) (Nat.le_refl _) (by simp) ?_;(case hd=>rfl);(case hg=>rfl);(case hr=>first|(go_simp;done)|(go_simp;rfl));(case hp=>exact(Reps.none _ _));intro v545 w6 ho7 hb hg_ hnew_;clear hg_ hnew_;(first|rw[← Ny544.out] at ho7|(simp only[Int.reduceToNat] at ho7;rw[← Ny544.out] at ho7));have HO546:=Sd.mk (Kd.R_lower ho7 (below_size bz));replace HB:=Sd.mk (below_step bz hb);clear hb ho7))
  go_ret2
  exact⟨_,by first|rfl|(simp[errW_none,errW_some]<;>rfl)|(simp[*,errW_none,errW_some]<;>rfl),by(with_reducible repeat (first|apply Kd.R_alloc|apply Kd.R_drewN|apply Kd.R_drew));exact HO546.out,bz⟩
 ·rw[if_neg c4] at H
  have c4b0:decide (t543<0)=false:=decide_eq_false c4
  clear c4
  replace H:=Option.bind_eq_some_iff.mp H
  obtain⟨t547,A80,H⟩:=H
  replace H:(some (t547,true))=some (r1,r2):=H
  have A8:=Sd.mk A80
  clear A80
  simp only[Option.some.injEq,Prod.mk.injEq] at H
  obtain⟨rfl,rfl⟩:=H
  go_enter Try.func21,Try.ntmps21
  go_wp2_with (first|((with_reducible refine gate_callee (f:=48) rfl ?_);refine goesL_ (some 8) rfl rfl Try.func48 (by kernel_rfl) rfl #[.slice A0 l0.length c0,.slice A1 l1.length c1] rfl az ?_;(with_reducible refine(spec_OrdCompare.calls k _ _ l0 _ _ l1 t543 _ ?side1 ?side2 ?side3 ?side4 A3.out).mono ?_);(case side1=>exact Kd.Cz HR0.out);(case side2=>exact HC0.out);(case side3=>exact Kd.Cz HR1.out);(case side4=>exact HC1.out);rintro e w9 ⟨rfl,hb⟩;refine⟨_,rfl,?_⟩;replace HB:=Sd.mk (below_step bz hb);(try clear hb);(try clear hb2);(try clear hk);(try clear hi))|((with_reducible refine gate_callee (f:=49) rfl ?_);refine goesL_ (some 13) rfl rfl Try.func49 (by kernel_rfl) rfl #[.slice A0 l0.length c0,.slice A1 l1.length c1] rfl az ?_;(with_reducible refine(spec_l2Minus.calls k _ _ l0 _ _ l1 t547 _ ?side1 ?side2 ?side3 ?side4 A8.out).mono ?_);(case side1=>exact Kd.Cz (Kd.C_below HR0.out HB.out));(case side2=>exact HC0.out);(case side3=>exact Kd.Cz (Kd.C_below HR1.out HB.out));(case side4=>exact HC1.out);rintro e w10 ⟨v548,rfl,ho0,hb⟩;refine⟨_,rfl,?_⟩;have HO549:=Sd.mk (Kd.R_lower ho0 (below_size bz));replace HB:=Sd.mk (below_step bz hb);(try clear hb);(try clear hb2);(try clear hk);(try clear hi);(try clear ho0)))
  go_ret2
  exact⟨_,by first|rfl|(simp[errW_none,errW_some]<;>rfl)|(simp[*,errW_none,errW_some]<;>rfl),by(with_reducible repeat (first|apply Kd.R_alloc|apply Kd.R_drewN|apply Kd.R_drew));exact HO549.out,bz⟩
end Go.Proofs.Ytfblcanijhnhmaa.P