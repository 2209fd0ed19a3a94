/- One Go function comes to what its Lean function tells. -/
import Derived.Test.YtfblcanijhnhmaaP0
import Derived.Test.YtfblcanijhnhmaaPimplboth
import Derived.Test.YtfblcanijhnhmaaPimplcompare
import Derived.Test.YtfblcanijhnhmaaPimplminus
import Derived.Test.YtfblcanijhnhmaaPimplnumber
import Derived.Test.YtfblcanijhnhmaaPimpltimes
import Derived.Test.YtfblcanijhnhmaaPimpltold
namespace Go.Proofs.Ytfblcanijhnhmaa.P
open Go.RowKit YtfblcanijhnhmaaW.PrintWords YtfblcanijhnhmaaW.PrintLast YtfblcanijhnhmaaW.PrintMore
set_option linter.unusedVariables false
set_option linter.unusedSimpArgs false
/-! ### impl_OrdDivide: function 30 -/
mutual
def impl_OrdDivide.j0:Nat→List (S61)→List (S61)→Bool→Option (List Int × List Int × Bool)
 | 0,_,_,_=>none
 | k+1,x7,x8,x30=>if x30=true then(some (([]:List Int),([]:List Int),false)) else(impl_OrdDivide.l0 k x8 (([]:List (S61))) x7)
def impl_OrdDivide.j2:Nat→List (S61)→List (S61)→List (S61)→Option (List Int × List Int × Bool)
 | 0,_,_,_=>none
 | k+1,x8,x10,x11=>if(x11.length:Int)>0 then(if 0<(x11.length:Int) then(if 0<(x8.length:Int) then((impl_compare.f k ((rd_T61 x11 0).f1) ((rd_T61 x8 0).f1)).bind fun t720=>(impl_OrdDivide.j3 k x8 x10 x11 (t720 == 0))) else(none)) else(none)) else(impl_OrdDivide.j3 k x8 x10 x11 false)
def impl_OrdDivide.j3:Nat→List (S61)→List (S61)→List (S61)→Bool→Option (List Int × List Int × Bool)
 | 0,_,_,_,_=>none
 | k+1,x8,x10,x11,x81=>if x81=true then(if 0<(x11.length:Int) then(if 0<(x8.length:Int) then(if((rd_T61 x8 0).f0)=0 then(none) else(if(wrap64 (Int.tdiv ((rd_T61 x11 0).f0) ((rd_T61 x8 0).f0)))>0 then((impl_number.f (wrap64 (Int.tdiv ((rd_T61 x11 0).f0) ((rd_T61 x8 0).f0)))).bind fun t723=>((impl_times.f k x8 t723).bind fun t726=>((impl_compare.f k x11 t726).bind fun t729=>(impl_OrdDivide.j4 k x8 x10 x11 (wrap64 (Int.tdiv ((rd_T61 x11 0).f0) ((rd_T61 x8 0).f0))) (decide (t729<0)))))) else(impl_OrdDivide.j4 k x8 x10 x11 (wrap64 (Int.tdiv ((rd_T61 x11 0).f0) ((rd_T61 x8 0).f0))) false))) else(none)) else(none)) else(impl_OrdDivide.j6 k x10 x11)
def impl_OrdDivide.j6:Nat→List (S61)→List (S61)→Option (List Int × List Int × Bool)
 | 0,_,_=>none
 | k+1,x10,x11=>(impl_told.f k x10).bind fun bt742=>((impl_told.f k x11).bind fun bt746=>(if bt742.2=true then(if bt746.2=true then(some (bt742.1,bt746.1,true)) else(some (([]:List Int),([]:List Int),false))) else(some (([]:List Int),([]:List Int),false))))
def impl_OrdDivide.j4:Nat→List (S61)→List (S61)→List (S61)→Int→Bool→Option (List Int × List Int × Bool)
 | 0,_,_,_,_,_=>none
 | k+1,x8,x10,x11,x12,x101=>if x101=true then(impl_OrdDivide.j5 k x8 x10 x11 (wrap64 (x12-1))) else(impl_OrdDivide.j5 k x8 x10 x11 x12)
def impl_OrdDivide.j5:Nat→List (S61)→List (S61)→List (S61)→Int→Option (List Int × List Int × Bool)
 | 0,_,_,_,_=>none
 | k+1,x8,x10,x11,x12=>if x12>0 then((impl_number.f x12).bind fun t730=>((impl_times.f k x8 t730).bind fun t733=>((impl_minus.f k x11 t733).bind fun t736=>(if x10.length<4398046511104 then(impl_OrdDivide.j6 k (x10++[(⟨x12,([]:List (S61))⟩:S61)]) t736) else(none))))) else(impl_OrdDivide.j6 k x10 x11)
def impl_OrdDivide.l0:Nat→List (S61)→List (S61)→List (S61)→Option (List Int × List Int × Bool)
 | 0,_,_,_=>none
 | k+1,x8,x10,x11=>if(x11.length:Int)>0 then(if 0<(x11.length:Int) then(if 0<(x8.length:Int) then((impl_compare.f k ((rd_T61 x11 0).f1) ((rd_T61 x8 0).f1)).bind fun t703=>(if t703>0 then((impl_minus.f k ((rd_T61 x11 0).f1) ((rd_T61 x8 0).f1)).bind fun t707=>(if x10.length<4398046511104 then(if 1≤(x11.length:Int) then(impl_OrdDivide.l0 k x8 (x10++[(⟨(rd_T61 x11 0).f0,t707⟩:S61)]) (x11.drop 1)) else(none)) else(none))) else(impl_OrdDivide.j2 k x8 x10 x11))) else(none)) else(none)) else(impl_OrdDivide.j2 k x8 x10 x11)
end
def impl_OrdDivide.f (k:Nat)(l0:List Int)(l1:List Int):Option (List Int × List Int × Bool):=(impl_both.f k l0 l1).bind fun bt691=>(if bt691.2.2=true then(impl_OrdDivide.j0 k bt691.1 bt691.2.1 ((bt691.2.1.length:Int) == 0)) else(impl_OrdDivide.j0 k bt691.1 bt691.2.1 true))
theorem impl_OrdDivide.mono_l:∀ k,(∀ y0 y1 y2,LeO (impl_OrdDivide.j0 k y0 y1 y2) (impl_OrdDivide.j0 (k+1) y0 y1 y2))∧(∀ y0 y1 y2,LeO (impl_OrdDivide.j2 k y0 y1 y2) (impl_OrdDivide.j2 (k+1) y0 y1 y2))∧(∀ y0 y1 y2 y3,LeO (impl_OrdDivide.j3 k y0 y1 y2 y3) (impl_OrdDivide.j3 (k+1) y0 y1 y2 y3))∧(∀ y0 y1,LeO (impl_OrdDivide.j6 k y0 y1) (impl_OrdDivide.j6 (k+1) y0 y1))∧(∀ y0 y1 y2 y3 y4,LeO (impl_OrdDivide.j4 k y0 y1 y2 y3 y4) (impl_OrdDivide.j4 (k+1) y0 y1 y2 y3 y4))∧(∀ y0 y1 y2 y3,LeO (impl_OrdDivide.j5 k y0 y1 y2 y3) (impl_OrdDivide.j5 (k+1) y0 y1 y2 y3))∧(∀ y0 y1 y2,LeO (impl_OrdDivide.l0 k y0 y1 y2) (impl_OrdDivide.l0 (k+1) y0 y1 y2))
 | 0=>⟨fun _ _ _ r h=>by simp[impl_OrdDivide.j0] at h,fun _ _ _ r h=>by simp[impl_OrdDivide.j2] at h,fun _ _ _ _ r h=>by simp[impl_OrdDivide.j3] at h,fun _ _ r h=>by simp[impl_OrdDivide.j6] at h,fun _ _ _ _ _ r h=>by simp[impl_OrdDivide.j4] at h,fun _ _ _ _ r h=>by simp[impl_OrdDivide.j5] at h,fun _ _ _ r h=>by simp[impl_OrdDivide.l0] at h⟩
 | k+1=>by
  obtain⟨ih0,ih1,ih2,ih3,ih4,ih5,ih6⟩:=impl_OrdDivide.mono_l k
  refine⟨?_,?_,?_,?_,?_,?_,?_⟩
  ·intro y0 y1 y2
   unfold impl_OrdDivide.j0
   repeat' first|(with_reducible first|exact ih0 _ _ _|exact ih6 _ _ _|exact LeO.refl _|exact LeO.none _|refine LeO.ite ?_ ?_|refine LeO.bind ?_ (fun _=>?_))|exact ih0 _ _ _|exact ih6 _ _ _|exact LeO.none _|refine LeO.ite ?_ ?_|refine LeO.bind ?_ (fun _=>?_)
  ·intro y0 y1 y2
   unfold impl_OrdDivide.j2
   repeat' first|(with_reducible first|exact ih1 _ _ _|exact ih2 _ _ _ _|exact impl_compare.mono _ _ _|exact LeO.refl _|exact LeO.none _|refine LeO.ite ?_ ?_|refine LeO.bind ?_ (fun _=>?_))|exact ih1 _ _ _|exact ih2 _ _ _ _|exact impl_compare.mono _ _ _|exact LeO.none _|refine LeO.ite ?_ ?_|refine LeO.bind ?_ (fun _=>?_)
  ·intro y0 y1 y2 y3
   unfold impl_OrdDivide.j3
   repeat' first|(with_reducible first|exact ih2 _ _ _ _|exact ih3 _ _|exact ih4 _ _ _ _ _|exact impl_compare.mono _ _ _|exact impl_times.mono _ _ _|exact LeO.refl _|exact LeO.none _|refine LeO.ite ?_ ?_|refine LeO.bind ?_ (fun _=>?_))|exact ih2 _ _ _ _|exact ih3 _ _|exact ih4 _ _ _ _ _|exact impl_compare.mono _ _ _|exact impl_times.mono _ _ _|exact LeO.none _|refine LeO.ite ?_ ?_|refine LeO.bind ?_ (fun _=>?_)
  ·intro y0 y1
   unfold impl_OrdDivide.j6
   repeat' first|(with_reducible first|exact ih3 _ _|exact impl_told.mono _ _|exact LeO.refl _|exact LeO.none _|refine LeO.ite ?_ ?_|refine LeO.bind ?_ (fun _=>?_))|exact ih3 _ _|exact impl_told.mono _ _|exact LeO.none _|refine LeO.ite ?_ ?_|refine LeO.bind ?_ (fun _=>?_)
  ·intro y0 y1 y2 y3 y4
   unfold impl_OrdDivide.j4
   repeat' first|(with_reducible first|exact ih4 _ _ _ _ _|exact ih5 _ _ _ _|exact LeO.refl _|exact LeO.none _|refine LeO.ite ?_ ?_|refine LeO.bind ?_ (fun _=>?_))|exact ih4 _ _ _ _ _|exact ih5 _ _ _ _|exact LeO.none _|refine LeO.ite ?_ ?_|refine LeO.bind ?_ (fun _=>?_)
  ·intro y0 y1 y2 y3
   unfold impl_OrdDivide.j5
   repeat' first|(with_reducible first|exact ih3 _ _|exact ih5 _ _ _ _|exact impl_minus.mono _ _ _|exact impl_times.mono _ _ _|exact LeO.refl _|exact LeO.none _|refine LeO.ite ?_ ?_|refine LeO.bind ?_ (fun _=>?_))|exact ih3 _ _|exact ih5 _ _ _ _|exact impl_minus.mono _ _ _|exact impl_times.mono _ _ _|exact LeO.none _|refine LeO.ite ?_ ?_|refine LeO.bind ?_ (fun _=>?_)
  ·intro y0 y1 y2
   unfold impl_OrdDivide.l0
   repeat' first|(with_reducible first|exact ih1 _ _ _|exact ih6 _ _ _|exact impl_compare.mono _ _ _|exact impl_minus.mono _ _ _|exact LeO.refl _|exact LeO.none _|refine LeO.ite ?_ ?_|refine LeO.bind ?_ (fun _=>?_))|exact ih1 _ _ _|exact ih6 _ _ _|exact impl_compare.mono _ _ _|exact impl_minus.mono _ _ _|exact LeO.none _|refine LeO.ite ?_ ?_|refine LeO.bind ?_ (fun _=>?_)
theorem impl_OrdDivide.mono:∀ a0 a1 k,LeO (impl_OrdDivide.f k a0 a1) (impl_OrdDivide.f (k+1) a0 a1):=by
 intro a0 a1 k;obtain⟨ih0,ih1,ih2,ih3,ih4,ih5,ih6⟩:=impl_OrdDivide.mono_l k;unfold impl_OrdDivide.f
 repeat' first|(with_reducible first|exact ih0 _ _ _|exact ih1 _ _ _|exact ih2 _ _ _ _|exact ih3 _ _|exact ih4 _ _ _ _ _|exact ih5 _ _ _ _|exact ih6 _ _ _|exact impl_both.mono _ _ _|exact LeO.refl _|exact LeO.none _|refine LeO.ite ?_ ?_|refine LeO.bind ?_ (fun _=>?_))|exact ih0 _ _ _|exact ih1 _ _ _|exact ih2 _ _ _ _|exact ih3 _ _|exact ih4 _ _ _ _ _|exact ih5 _ _ _ _|exact ih6 _ _ _|exact impl_both.mono _ _ _|exact LeO.none _|refine LeO.ite ?_ ?_|refine LeO.bind ?_ (fun _=>?_)
def impl_OrdDivide.T5:Bool × List (List Nat × List Nat):=(true,[([],[]),([0],[0]),([1],[1]),([2],[2]),([3],[3]),([4,3],[3,4]),([5,3],[3,5]),([6,3],[3,6]),([3],[3]),([8,3],[3,8]),([9,3],[3,9]),([10,3],[3,10]),([7,11,3,3],[3,7,11]),([12,3],[3,12]),([3,13],[3,13])])
def impl_OrdDivide.B5:List Nat:=[0,1,3,7,15,31,63,127,15,271,783,1807,4095,8191,16383]
theorem impl_OrdDivide.tab5:rtab .any (opsOf Try.f30 5)=impl_OrdDivide.T5:=by kernel_rfl
theorem impl_OrdDivide.bits5:waitsOk impl_OrdDivide.T5.2 impl_OrdDivide.B5=true:=by kernel_rfl
def impl_OrdDivide.T6:Bool × List (List Nat × List Nat):=(true,[([],[]),([],[]),([1],[1]),([2],[2]),([3],[3]),([],[]),([5],[5]),([6],[6]),([7],[7]),([],[]),([9],[9]),([10],[10]),([11],[11]),([8,12],[8,12]),([4,13],[4,13]),([14],[14]),([0,15,13],[0,15]),([16,16,0,1,2,3,4,5,6,7,8,9,10,11,12,13,14,15,16],[0,16])])
def impl_OrdDivide.B6:List Nat:=[0,0,2,6,14,0,32,96,224,0,512,1536,3584,8160,16382,32766,65535,131071]
theorem impl_OrdDivide.tab6:rtab .any (opsOf Try.f30 6)=impl_OrdDivide.T6:=by kernel_rfl
theorem impl_OrdDivide.bits6:waitsOk impl_OrdDivide.T6.2 impl_OrdDivide.B6=true:=by kernel_rfl
def impl_OrdDivide.T8:Bool × List (List Nat × List Nat):=(true,[([],[]),([0],[0]),([1],[1]),([2],[2]),([3],[3]),([4,3],[3,4]),([5,3],[3,5]),([6,3],[3,6]),([3],[3]),([8,3],[3,8]),([9,3],[3,9]),([10,3],[3,10]),([7,11,3,3],[3,7,11]),([12,3],[3,12]),([3,13],[3,13])])
def impl_OrdDivide.B8:List Nat:=[0,1,3,7,15,31,63,127,15,271,783,1807,4095,8191,16383]
theorem impl_OrdDivide.tab8:rtab .any (opsOf Try.f30 8)=impl_OrdDivide.T8:=by kernel_rfl
theorem impl_OrdDivide.bits8:waitsOk impl_OrdDivide.T8.2 impl_OrdDivide.B8=true:=by kernel_rfl
def impl_OrdDivide.T9:Bool × List (List Nat × List Nat):=(true,[([],[]),([0],[0]),([1],[1]),([2],[2]),([],[]),([4],[4]),([5],[5]),([6],[6]),([3,7],[3,7]),([8,0,1,2,3,4,5,6,7,8],[8])])
def impl_OrdDivide.B9:List Nat:=[0,1,3,7,0,16,48,112,255,511]
theorem impl_OrdDivide.tab9:rtab .any (opsOf Try.f30 9)=impl_OrdDivide.T9:=by kernel_rfl
theorem impl_OrdDivide.bits9:waitsOk impl_OrdDivide.T9.2 impl_OrdDivide.B9=true:=by kernel_rfl
set_option maxHeartbeats 8000000 in
set_option maxRecDepth 100000 in
theorem impl_OrdDivide.calls (k:Nat)(A0:Option Addr)(c0:Nat)(l0:List Int)(A1:Option Addr)(c1:Nat)(l1:List Int)(r1:List Int)(r2:List Int)(r3:Bool)(w:World)(hr0:Kd.C (Kd.int .i64) w A0 l0.length l0)(hc0:l0.length≤c0)(hr1:Kd.C (Kd.int .i64) w A1 l1.length l1)(hc1:l1.length≤c1)(h:impl_OrdDivide.f k l0 l1=some (r1,r2,r3)) :
  Calls Try.prog 30 #[.slice A0 l0.length c0,.slice A1 l1.length c1] w fun e w'=>∃ v0_ v1_:Value,e=.returned (.tuple #[v0_,v1_,.bool r3])∧Kd.R (Kd.int .i64) 3 w' w.heap.size (fun k_=>some k_≠(v1_:Value).ownBlock) v0_ r1∧Kd.R (Kd.int .i64) 3 w' w.heap.size (fun k_=>some k_≠(v0_:Value).ownBlock) v1_ r2∧Below w.heap.size w w':=by
 have hu61:=Try.underlying61;have HR0:=Sd.mk hr0;have HC0:=Sd.mk hc0;clear hr0 hc0;have HR1:=Sd.mk hr1;have HC1:=Sd.mk hc1;clear hr1 hc1;have HB:=Sd.mk (Below.refl w.heap.size w);have H:((impl_both.f k l0 l1).bind fun bt691=>(if bt691.2.2=true then(impl_OrdDivide.j0 k bt691.1 bt691.2.1 ((bt691.2.1.length:Int) == 0)) else(impl_OrdDivide.j0 k bt691.1 bt691.2.1 true)))=some (r1,r2,r3):=h;clear h;replace H:=Option.bind_eq_some_iff.mp H;obtain⟨⟨t691,t692,t693⟩,A30,H⟩:=H;replace H:(if t693=true then(impl_OrdDivide.j0 k t691 t692 ((t692.length:Int) == 0)) else(impl_OrdDivide.j0 k t691 t692 true))=some (r1,r2,r3):=H;have A3:=Sd.mk A30;clear A30;have HC4:=Sd.mk H;clear H;go_enter Try.func30,Try.ntmps30
 go_upto_region 2 with (first|((with_reducible refine gate_callee (f:=45) rfl ?_);refine goesL_ (some 20) rfl rfl Try.func45 (by kernel_rfl) rfl #[.slice A0 l0.length c0,.slice A1 l1.length c1] rfl az ?_;(with_reducible refine(impl_both.calls k _ _ l0 _ _ l1 t691 t692 t693 _ ?side1 ?side2 ?side3 ?side4 A3.out).mono ?_);(case side1=>exact Kd.Cz HR0.out);(case side2=>exact HC0.out);(case side3=>exact Kd.Cz HR1.out);(case side4=>exact HC1.out);rintro e w5 ⟨v694,v696,rfl,ho0,ho1,hb⟩;refine⟨_,rfl,?_⟩;have HO695:=Sd.mk (Kd.N_lower (Kd.N_mono (ok':=fun k_=>some k_≠(v696:Value).ownBlock) (Kd.R_N (Kd.R_bound ho0)) (fun k_ hk_=>hk_.1)) (below_size bz));have HO697:=Sd.mk (Kd.N_lower (Kd.N_mono (ok':=fun k_=>some k_≠(v694:Value).ownBlock) (Kd.R_N (Kd.R_bound ho1)) (fun k_ hk_=>hk_.1)) (below_size bz));replace HB:=Sd.mk (below_step bz hb);(try clear hb);(try clear hb2);(try clear hk);(try clear hi);(try clear ho0);(try clear ho1)))
 (try simp only[Act.put,List.setIfInBounds_toArray,List.set_cons_zero,List.set_cons_succ])
 go_cut [30] (fun v30 wc=>∃ (kq:Nat) (x30_3:Bool),v30=.bool x30_3∧Sd (impl_OrdDivide.j0 kq t691 t692 x30_3=some (r1,r2,r3))∧Sd (kq≤k)∧Sd (Kd.N k61 61 wc w.heap.size (fun k_=>some k_≠(v696:Value).ownBlock) v694 t691)∧Sd (Kd.N k61 61 wc w.heap.size (fun k_=>some k_≠(v694:Value).ownBlock) v696 t692)∧Sd (Below w.heap.size w wc))
 case first =>
  have H:=HC4.out;clear HC4
  by_cases c6:t693=true
  ·subst c6
   have H1:(impl_OrdDivide.j0 k t691 t692 ((t692.length:Int) == 0))=some (r1,r2,r3):=by rw[if_pos rfl] at H;exact H
   clear H;have H:=H1;clear H1;have H':=Sd.mk H;clear H;obtain⟨Ao7,co7,eo7⟩:=Kd.N_slice HO697.out;subst eo7;go_wp2;go_meet
   case rel=>exact⟨_,(((t692.length:Int) == 0)),(by first|rfl|(simp;done)|(simp[*];done)),H',⟨by first|omega|exact Nat.le_refl _⟩,⟨by(with_reducible repeat (first|apply Kd.N_alloc|apply Kd.N_drewN|apply Kd.N_drew));exact HO695.out⟩,⟨by(with_reducible repeat (first|apply Kd.N_alloc|apply Kd.N_drewN|apply Kd.N_drew));exact HO697.out⟩,⟨bz⟩⟩
  ·replace c6:=Bool.eq_false_iff.mpr c6
   subst c6
   have H1:(impl_OrdDivide.j0 k t691 t692 true)=some (r1,r2,r3):=by rw[if_neg (show ¬ (false=true) by decide)] at H;exact H
   clear H;have H:=H1;clear H1;have H':=Sd.mk H;clear H;go_wp2;go_meet
   case rel=>exact⟨_,(true),(by first|rfl|(simp;done)|(simp[*];done)),H',⟨by first|omega|exact Nat.le_refl _⟩,⟨by(with_reducible repeat (first|apply Kd.N_alloc|apply Kd.N_drewN|apply Kd.N_drew));exact HO695.out⟩,⟨by(with_reducible repeat (first|apply Kd.N_alloc|apply Kd.N_drewN|apply Kd.N_drew));exact HO697.out⟩,⟨bz⟩⟩
 case rest =>
  clear HC4
  try clear c1
  try clear p2
  try clear c3
  try clear c4
  try clear c6
  obtain⟨kq,x30_3,rfl,HA,HJ3,HO_7,HO_8,HB⟩:=hcut
  cases kq with
  | zero=>exact absurd HA.out (by simp[impl_OrdDivide.j0])
  | succ kj3 =>
   have H:=HA.out;clear HA;simp only[impl_OrdDivide.j0] at H
   by_cases c8:x30_3=true
   ·subst c8
    have H1:(some (([]:List Int),([]:List Int),false))=some (r1,r2,r3):=by rw[if_pos rfl] at H;exact H
    clear H;have H:=H1;clear H1;simp only[Option.some.injEq,Prod.mk.injEq] at H;obtain⟨rfl,rfl,rfl⟩:=H;go_wp2;go_ret3;exact⟨_,_,by first|rfl|(simp[errW_none,errW_some]<;>rfl)|(simp[*,errW_none,errW_some]<;>rfl),by first|exact Kd.R_nil _ _ _ _ _|exact Kd.N_nil _ _ _ _ _|exact Kd.V_nil _ _ _ _ _|exact Kd.Q_nil _ _ _ _ _|exact Kd.S_nil _ _ _ _ _,by first|exact Kd.R_nil _ _ _ _ _|exact Kd.N_nil _ _ _ _ _|exact Kd.V_nil _ _ _ _ _|exact Kd.Q_nil _ _ _ _ _|exact Kd.S_nil _ _ _ _ _,bz⟩
   ·replace c8:=Bool.eq_false_iff.mpr c8
    subst c8
    have H1:(impl_OrdDivide.l0 kj3 t692 (([]:List (S61))) t691)=some (r1,r2,r3):=by rw[if_neg (show ¬ (false=true) by decide)] at H;exact H
    clear H;have H:=H1;clear H1;obtain⟨y698,hy698⟩:∃ y_:List (S61),y_=(([]:List (S61))):=⟨_,rfl⟩;replace H:(impl_OrdDivide.l0 kj3 t692 y698 t691)=some (r1,r2,r3):=hz hy698 H;have Ny698:=Sd.mk hy698;clear hy698;have HC9:=Sd.mk H;clear H
    go_upto_block 0 with (first|((with_reducible refine gate_dst (N:=31) rfl ?_);refine Kd.N_lit k61 _ 61 ?hg (N':=31) ?hd (xs:=([]:List (S61))) (inner:=[]) (ok:=(fun k_=>some k_≠(v694:Value).ownBlock∧some k_≠(v696:Value).ownBlock)) (okp:=(fun k_=>some k_≠(v694:Value).ownBlock∧some k_≠(v696:Value).ownBlock)) ?hr ?hp (fun _ hk=>hk) ((show ∀ k_,wc.heap.size≤k_→(fun k_=>some k_≠(v694:Value).ownBlock∧some k_≠(v696:Value).ownBlock) k_ from fun k_ hk=>⟨Kd.fresh' (Kd.N_lt (Kd.Nz HO_7.out)) k_ hk,Kd.fresh' (Kd.N_lt (Kd.Nz HO_8.out)) k_ hk⟩) _ (Nat.le_refl _)) (Below.refl _ _) (Nat.le_refl _) (by simp) ?_;(case hd=>rfl);(case hg=>rfl);(case hr=>first|(go_simp;done)|(go_simp;rfl));(case hp=>exact(Reps.none _ _));intro v699 w10 ho11 hb hg_ hnew_;clear hg_ hnew_;(first|rw[← Ny698.out] at ho11|(simp only[Int.reduceToNat] at ho11;rw[← Ny698.out] at ho11));replace HO_7:=Sd.mk (Kd.N_elder' (Kd.Nz HO_7.out) (Kd.N_base ho11) hb);replace HO_8:=Sd.mk (Kd.N_elder' (Kd.Nz HO_8.out) (Kd.N_base ho11) hb);have HO700:=Sd.mk (Kd.N_lower ho11 (below_size bz));replace HB:=Sd.mk (below_step bz hb);clear hb ho11))
    (try simp only[Act.put,List.setIfInBounds_toArray,List.set_cons_zero,List.set_cons_succ])
    go_cut [10,11] (fun v10 v11 wc=>∃ (kq:Nat) (x10_8:List (S61)) (x11_8:List (S61)),Sd (impl_OrdDivide.j2 kq t692 x10_8 x11_8=some (r1,r2,r3))∧Sd (kq≤kj3)∧Sd (Kd.N k61 61 wc w.heap.size (fun k_=>some k_≠(v10:Value).ownBlock) v696 t692)∧Sd (Kd.N k61 61 wc w.heap.size (fun k_=>some k_≠(v696:Value).ownBlock) v10 x10_8)∧Sd (Kd.V k61 61 wc w.heap.size (fun k_=>some k_≠(v696:Value).ownBlock∧some k_≠(v10:Value).ownBlock) v11 x11_8)∧Sd (Below w.heap.size w wc))
    case first =>
     have H:=HC9.out;clear HC9;have H':=Sd.mk H;clear H;go_wp2
     go_loopg [10,11] kj3 (fun kq v10 v11 w'=>∃ (x10_2:List (S61)) (x11_2:List (S61)),Sd (impl_OrdDivide.l0 kq t692 x10_2 x11_2=some (r1,r2,r3))∧Sd (kq≤kj3)∧Sd (Kd.N k61 61 w' w.heap.size (fun k_=>some k_≠(v10:Value).ownBlock) v696 t692)∧Sd (Kd.N k61 61 w' w.heap.size (fun k_=>some k_≠(v696:Value).ownBlock) v10 x10_2)∧Sd (Kd.V k61 61 w' w.heap.size (fun k_=>some k_≠(v696:Value).ownBlock∧some k_≠(v10:Value).ownBlock) v11 x11_2)∧Sd (Below w.heap.size w w'))
     case atStart=>exact⟨(y698),(t691),H',⟨Nat.le_refl _⟩,⟨Kd.Nz <| Kd.N_mono HO_8.out (fun _ hk=>hk.2)⟩,⟨Kd.Nz <| Kd.N_mono HO700.out (fun _ hk=>hk.2)⟩,⟨Kd.N_V (Kd.Nz HO_7.out)⟩,⟨bz⟩⟩
     case round =>
      clear H'
      try clear c1
      try clear p2
      try clear c3
      try clear c4
      try clear c6
      try clear c8
      try clear p2
      obtain⟨x10_2,x11_2,HA,HK2,HO_8,HO_10,HO_11,HB⟩:=hrel
      cases gk with
      | zero=>exact absurd HA.out (by simp[impl_OrdDivide.l0])
      | succ k2 =>
       have H:=HA.out;clear HA;simp only[impl_OrdDivide.l0] at H
       by_cases c12:(x11_2.length:Int)>0
       ·rw[if_pos c12] at H
        have c12b0:decide (0<(x11_2.length:Int))=true:=decide_eq_true c12;have c12b1:decide (0<x11_2.length)=true:=decide_eq_true (by omega);clear c12
        (first|rw[c12b0]|(simp only[i64_w,i32_w];rw[c12b0])|skip)
        by_cases c13:0<(x11_2.length:Int)
        ·rw[if_pos c13] at H
         have c13b0:decide (0<(x11_2.length:Int))=true:=decide_eq_true c13;have c13b1:decide (0<x11_2.length)=true:=decide_eq_true (by omega);clear c13
         by_cases c14:0<(t692.length:Int)
         ·rw[if_pos c14] at H
          have c14b0:decide (0<(t692.length:Int))=true:=decide_eq_true c14;have c14b1:decide (0<t692.length)=true:=decide_eq_true (by omega);clear c14;replace H:=Option.bind_eq_some_iff.mp H;obtain⟨t703,A150,H⟩:=H;replace H:(if t703>0 then((impl_minus.f k2 ((rd_T61 x11_2 0).f1) ((rd_T61 t692 0).f1)).bind fun t707=>(if x10_2.length<4398046511104 then(if 1≤(x11_2.length:Int) then(impl_OrdDivide.l0 k2 t692 (x10_2++[(⟨(rd_T61 x11_2 0).f0,t707⟩:S61)]) (x11_2.drop 1)) else(none)) else(none))) else(impl_OrdDivide.j2 k2 t692 x10_2 x11_2))=some (r1,r2,r3):=H;have A15:=Sd.mk A150;clear A150
          by_cases c16:t703>0
          ·rw[if_pos c16] at H
           have c16b0:decide (0<t703)=true:=decide_eq_true c16;clear c16;replace H:=Option.bind_eq_some_iff.mp H;obtain⟨t707,A170,H⟩:=H;replace H:(if x10_2.length<4398046511104 then(if 1≤(x11_2.length:Int) then(impl_OrdDivide.l0 k2 t692 (x10_2++[(⟨(rd_T61 x11_2 0).f0,t707⟩:S61)]) (x11_2.drop 1)) else(none)) else(none))=some (r1,r2,r3):=H;have A17:=Sd.mk A170;clear A170
           by_cases c18:x10_2.length<4398046511104
           ·rw[if_pos c18] at H
            have LMc18:=Sd.mk c18;clear c18;obtain⟨y710,hy710⟩:∃ y_:List (S61),y_=(x10_2++[(⟨(rd_T61 x11_2 0).f0,t707⟩:S61)]):=⟨_,rfl⟩;replace H:(if 1≤(x11_2.length:Int) then(impl_OrdDivide.l0 k2 t692 y710 (x11_2.drop 1)) else(none))=some (r1,r2,r3):=hz hy710 H;have Ny710:=Sd.mk hy710;clear hy710
            by_cases c19:1≤(x11_2.length:Int)
            ·rw[if_pos c19] at H
             have c19b0:=eq_true c19;have c19b1:decide (1≤(x11_2.length:Int))=true:=decide_eq_true c19;clear c19;obtain⟨y713,hy713⟩:∃ y_:List (S61),y_=(x11_2.drop 1):=⟨_,rfl⟩;replace H:(impl_OrdDivide.l0 k2 t692 y710 y713)=some (r1,r2,r3):=hz hy713 H;have Ny713:=Sd.mk hy713;clear hy713;have H':=Sd.mk H;clear H
             try go_wp2
             have n0_:=Sd.mk (Kd.N_drew HO_8.out);have n1_:=Sd.mk (Kd.N_drew HO_10.out);have n2_:=Sd.mk (Kd.V_drew HO_11.out);have n3_:=Sd.mk (below_drew1 HB.out);clear HO_8;clear HO_10;clear HO_11;clear HB;have HO_8:=n0_;have HO_10:=n1_;have HO_11:=n2_;have HB:=n3_;clear n0_ n1_ n2_ n3_;obtain⟨Ao21,co21,eo21⟩:=Kd.V_slice HO_11.out
             (first|subst eo21|(injection eo21 with f1_ f2_ f3_;have f4_:=f1_.symm;have f5_:=f3_.symm;clear f1_ f2_ f3_;subst f4_;subst f5_))
             have p701:0≤(0:Int):=(by omega);have q701:0<(x11_2.length:Int):=dz;obtain⟨ad701,A701_1,c701_1,e701,hx701_0,hx701_1,hl701_1,hi701_1⟩:=at_T61 (Kd.V_reads' HO_11.out).2.2 0 p701 q701;cases e701;obtain⟨ce701,hce701,hMe701,hcc701⟩:=Kd.V_get HO_11.out z61 0 p701 (by first|exact q701|exact dz|(have e_:=(Kd.V_reads' HO_11.out).1;omega));obtain⟨ua701_1,uc701_1,rfl,ul701_1,ge701_1⟩:=k61_openF hMe701;have hv701_1:=hcc701 1 _ rfl;rw[add_field _ _ 1 (by omega)] at hv701_1;replace hv701_1:=Option.some.inj (hv701_1.symm.trans hx701_1)
             injection hv701_1 with hva_ hvn_ hvc_
             rw[hva_] at ge701_1;rw[hvc_] at ul701_1;have HL701_1:=Sd.mk (show Kd.V k61 61 _ w.heap.size _ _ ((rd_T61 x11_2 0).f1) from Kd.V_mk ul701_1 ge701_1);clear hva_ hvn_ hvc_ ge701_1 ul701_1;clear hcc701 hce701;have qi701:(0<x11_2.length)=True:=eq_true (by omega)
             (try rw[show ((0:Int)).toNat=0 from rfl] at hx701_0)
             (try rw[show 0*2=0 from rfl] at hx701_0)
             (try rw[Addr.add_zero'] at hx701_0)
             (try rw[show ((0:Int)).toNat=0 from rfl] at hx701_1)
             (try rw[show 0*2=0 from rfl] at hx701_1)
             (try rw[Addr.add_zero'] at hx701_1)
             have HR701_1:=Sd.mk hi701_1;have HC701_1:=Sd.mk hl701_1;clear hi701_1 hl701_1;replace p701:=eq_true p701;replace q701:=eq_true q701;obtain⟨Ao22,co22,eo22⟩:=Kd.N_slice HO_8.out
             (first|subst eo22|(injection eo22 with f1_ f2_ f3_;have f4_:=f1_.symm;have f5_:=f3_.symm;clear f1_ f2_ f3_;subst f4_;subst f5_))
             have p702:0≤(0:Int):=(by omega);have q702:0<(t692.length:Int):=dz;obtain⟨ad702,A702_1,c702_1,e702,hx702_0,hx702_1,hl702_1,hi702_1⟩:=at_T61 (Kd.N_reads' HO_8.out).2.2 0 p702 q702;cases e702;obtain⟨ce702,hce702,hMe702,hcc702⟩:=Kd.N_get HO_8.out z61 0 p702 (by first|exact q702|exact dz|(have e_:=(Kd.N_reads' HO_8.out).1;omega));obtain⟨ua702_1,uc702_1,rfl,ul702_1,ge702_1⟩:=k61_openF hMe702;have hv702_1:=hcc702 1 _ rfl;rw[add_field _ _ 1 (by omega)] at hv702_1;replace hv702_1:=Option.some.inj (hv702_1.symm.trans hx702_1)
             injection hv702_1 with hva_ hvn_ hvc_
             rw[hva_] at ge702_1;rw[hvc_] at ul702_1;have HL702_1:=Sd.mk (show Kd.V k61 61 _ w.heap.size _ _ ((rd_T61 t692 0).f1) from Kd.V_mk ul702_1 ge702_1);clear hva_ hvn_ hvc_ ge702_1 ul702_1;clear hcc702 hce702;have qi702:(0<t692.length)=True:=eq_true (by omega)
             (try rw[show ((0:Int)).toNat=0 from rfl] at hx702_0)
             (try rw[show 0*2=0 from rfl] at hx702_0)
             (try rw[Addr.add_zero'] at hx702_0)
             (try rw[show ((0:Int)).toNat=0 from rfl] at hx702_1)
             (try rw[show 0*2=0 from rfl] at hx702_1)
             (try rw[Addr.add_zero'] at hx702_1)
             have HR702_1:=Sd.mk hi702_1;have HC702_1:=Sd.mk hl702_1;clear hi702_1 hl702_1;replace p702:=eq_true p702;replace q702:=eq_true q702;refine start_ (n:=15) (S:=fun w'=>w'.cell? ad701=some (.int .i64 ((rd_T61 x11_2 0).f0))∧w'.cell? ⟨ad701.block,ad701.off+1,none⟩=some (.slice A701_1 ((rd_T61 x11_2 0).f1).length c701_1)∧w'.cell? ad702=some (.int .i64 ((rd_T61 t692 0).f0))∧w'.cell? ⟨ad702.block,ad702.off+1,none⟩=some (.slice A702_1 ((rd_T61 t692 0).f1).length c702_1)) (ds:=[]) #[F,F,F,F,F,F,F,F,F,F,F,F,F,F,F] (by kernel_rfl) rfl rfl ⟨hx701_0,hx701_1,hx702_0,hx702_1⟩ (fun hHeld=>?_);refine with_tabW impl_OrdDivide.tab5 impl_OrdDivide.bits5 (fun HT_ HW_=>?_)
             generalize wr.drew=w20 at HO_8 HO_10 HO_11 HB HL701_1 HL702_1 HR701_1 HR702_1 hx701_0 hx701_1 hx702_0 hx702_1 hHeld ⊢
             refine pq 0 (some 33) HT_.out rfl rfl ?_;refine pq 1 (some 34) HT_.out rfl rfl ?_;refine pq 2 (some 35) HT_.out rfl rfl ?_;refine pq 3 (some 36) HT_.out rfl rfl ?_;refine pq 4 (some 37) HT_.out rfl rfl ?_;refine pq 5 (some 38) HT_.out rfl rfl ?_;refine pq 6 (some 39) HT_.out rfl rfl ?_;refine pq 8 (some 41) HT_.out rfl rfl ?_;refine pq 9 (some 42) HT_.out rfl rfl ?_;refine pq 10 (some 43) HT_.out rfl rfl ?_;refine take_ (i:=7) (N:=some 40) (v:=?_) (a':=?_) #[T,T,T,T,T,T,T,T,T,T,T,F,F,F,F] rfl rfl (take_ofW HT_.out HW_.out (by kernel_rfl)) (fun _ _ _ h=>h) (Or.inl ⟨by rfl,?_⟩) hHeld ?_ ?_
             rotate_left;(· rintro w' ⟨s0,s1,s2,s3⟩;go_simp;with_reducible rfl);rotate_left;(· simp only[Act.put,s1,s2,s3,i64_w,i32_w];rfl)
             refine take_ (i:=11) (N:=some 44) (v:=?_) (a':=?_) #[T,T,T,T,T,T,T,T,T,T,T,T,F,F,F] rfl rfl (take_ofW HT_.out HW_.out (by kernel_rfl)) (fun _ _ _ h=>h) (Or.inl ⟨by rfl,?_⟩) hHeld ?_ ?_
             rotate_left;(· rintro w' ⟨s0,s1,s2,s3⟩;go_simp;with_reducible rfl);rotate_left;(· simp only[Act.put,s1,s2,s3,i64_w,i32_w];rfl)
             refine one_ (i:=12) (N:=some 45) #[T,T,T,T,T,T,T,T,T,T,T,T,T,F,F] rfl rfl (one_of HT_.out (by kernel_rfl)) (by decide) (fun K hK=>?_);refine goes_ Try.func50 (by kernel_rfl) rfl #[.slice A701_1 ((rd_T61 x11_2 0).f1).length c701_1,.slice A702_1 ((rd_T61 t692 0).f1).length c702_1] (by rfl) rfl rfl az ?_
             with_reducible refine(impl_compare.calls k2 _ _ ((rd_T61 x11_2 0).f1) _ _ ((rd_T61 t692 0).f1) t703 _ ?side1 ?side2 ?side3 ?side4 A15.out).mono ?_
             (case side1=>exact(Kd.Cz HR701_1.out))
             (case side2=>exact HC701_1.out)
             (case side3=>exact(Kd.Cz HR702_1.out))
             (case side4=>exact HC702_1.out)
             rintro e w23 ⟨rfl,hb⟩;have HS0_:=(hb.cell (World.block_lt_of_cell? _ _ (hHeld.1))).trans (hHeld.1);have HS1_:=(hb.cell (World.block_lt_of_cell? _ _ (hHeld.2.1))).trans (hHeld.2.1);have HS2_:=(hb.cell (World.block_lt_of_cell? _ _ (hHeld.2.2.1))).trans (hHeld.2.2.1);have HS3_:=(hb.cell (World.block_lt_of_cell? _ _ (hHeld.2.2.2))).trans (hHeld.2.2.2);refine⟨_,rfl,?_⟩;have n0_:=Sd.mk (Kd.N_below (Kd.Nz HO_8.out) hb);have n1_:=Sd.mk (Kd.N_below (Kd.Nz HO_10.out) hb);have n2_:=Sd.mk (Kd.V_below (Kd.Vz HO_11.out) hb);have n3_:=Sd.mk (Kd.V_below (Kd.Vz HL701_1.out) hb);have n4_:=Sd.mk (Kd.V_below (Kd.Vz HL702_1.out) hb);have n5_:=Sd.mk (Kd.C_below (Kd.Cz HR701_1.out) hb);have n6_:=Sd.mk (Kd.C_below (Kd.Cz HR702_1.out) hb);have n7_:=Sd.mk (below_step bz hb);clear HO_8;clear HO_10;clear HO_11;clear HL701_1;clear HL702_1;clear HR701_1;clear HR702_1;clear HB;have HO_8:=n0_;have HO_10:=n1_;have HO_11:=n2_;have HL701_1:=n3_;have HL702_1:=n4_;have HR701_1:=n5_;have HR702_1:=n6_;have HB:=n7_;clear n0_ n1_ n2_ n3_ n4_ n5_ n6_ n7_
             (try clear hb)
             (try clear hb2)
             (try clear hk)
             (try clear hi)
             refine hK.out _ _ ⟨HS0_,HS1_,HS2_,HS3_⟩ (fun hHeld=>?_);clear hK K;refine norm_ (a':=?_) ?_ ?_
             rotate_left
             ·show Act.put _ (some 45) _=_
              simp only[Act.put,s1,s2,s3,i64_w,i32_w]
              rfl
             refine pq 13 (some 46) HT_.out rfl rfl ?_;refine pq 14 (some 47) HT_.out rfl rfl ?_;refine done_ (done_of HT_.out (by kernel_rfl)) ?_
             try go_wp2
             have n0_:=Sd.mk (Kd.N_drew HO_8.out);have n1_:=Sd.mk (Kd.N_drew HO_10.out);have n2_:=Sd.mk (Kd.V_drew HO_11.out);have n3_:=Sd.mk (Kd.V_drew HL701_1.out);have n4_:=Sd.mk (Kd.V_drew HL702_1.out);have n5_:=Sd.mk (Kd.C_drew HR701_1.out);have n6_:=Sd.mk (Kd.C_drew HR702_1.out);have n7_:=Sd.mk (below_drew1 HB.out);clear HO_8;clear HO_10;clear HO_11;clear HL701_1;clear HL702_1;clear HR701_1;clear HR702_1;clear HB;have HO_8:=n0_;have HO_10:=n1_;have HO_11:=n2_;have HL701_1:=n3_;have HL702_1:=n4_;have HR701_1:=n5_;have HR702_1:=n6_;have HB:=n7_;clear n0_ n1_ n2_ n3_ n4_ n5_ n6_ n7_;have p704:0≤(0:Int):=(by omega);have q704:0<(x11_2.length:Int):=dz;obtain⟨ad704,A704_1,c704_1,e704,hx704_0,hx704_1,hl704_1,hi704_1⟩:=at_T61 (Kd.V_reads' HO_11.out).2.2 0 p704 q704;obtain rfl:ad701=ad704:=(by injection e704);obtain⟨ce704,hce704,hMe704,hcc704⟩:=Kd.V_get HO_11.out z61 0 p704 (by first|exact q704|exact dz|(have e_:=(Kd.V_reads' HO_11.out).1;omega));obtain⟨ua704_1,uc704_1,rfl,ul704_1,ge704_1⟩:=k61_openF hMe704;have hv704_1:=hcc704 1 _ rfl;rw[add_field _ _ 1 (by omega)] at hv704_1;replace hv704_1:=Option.some.inj (hv704_1.symm.trans hx704_1)
             injection hv704_1 with hva_ hvn_ hvc_
             rw[hva_] at ge704_1;rw[hvc_] at ul704_1;have HL704_1:=Sd.mk (show Kd.V k61 61 _ w.heap.size _ _ ((rd_T61 x11_2 0).f1) from Kd.V_mk ul704_1 ge704_1);clear hva_ hvn_ hvc_ ge704_1 ul704_1;clear hcc704 hce704;have qi704:(0<x11_2.length)=True:=eq_true (by omega)
             (try rw[show ((0:Int)).toNat=0 from rfl] at hx704_0)
             (try rw[show 0*2=0 from rfl] at hx704_0)
             (try rw[Addr.add_zero'] at hx704_0)
             (try rw[show ((0:Int)).toNat=0 from rfl] at hx704_1)
             (try rw[show 0*2=0 from rfl] at hx704_1)
             (try rw[Addr.add_zero'] at hx704_1)
             (try (have he_:=Option.some.inj (hx704_1.symm.trans (show _=some (Value.slice A701_1 _ c701_1) from by assumption));injection he_ with ha_ hn_ hc_;clear hn_;subst ha_;subst hc_))
             have HR704_1:=Sd.mk hi704_1;have HC704_1:=Sd.mk hl704_1;clear hi704_1 hl704_1;replace p704:=eq_true p704;replace q704:=eq_true q704;have p705:0≤(0:Int):=(by omega);have q705:0<(x11_2.length:Int):=dz;obtain⟨ad705,A705_1,c705_1,e705,hx705_0,hx705_1,hl705_1,hi705_1⟩:=at_T61 (Kd.V_reads' HO_11.out).2.2 0 p705 q705;obtain rfl:ad701=ad705:=(by injection e705);obtain⟨ce705,hce705,hMe705,hcc705⟩:=Kd.V_get HO_11.out z61 0 p705 (by first|exact q705|exact dz|(have e_:=(Kd.V_reads' HO_11.out).1;omega));obtain⟨ua705_1,uc705_1,rfl,ul705_1,ge705_1⟩:=k61_openF hMe705;have hv705_1:=hcc705 1 _ rfl;rw[add_field _ _ 1 (by omega)] at hv705_1;replace hv705_1:=Option.some.inj (hv705_1.symm.trans hx705_1)
             injection hv705_1 with hva_ hvn_ hvc_
             rw[hva_] at ge705_1;rw[hvc_] at ul705_1;have HL705_1:=Sd.mk (show Kd.V k61 61 _ w.heap.size _ _ ((rd_T61 x11_2 0).f1) from Kd.V_mk ul705_1 ge705_1);clear hva_ hvn_ hvc_ ge705_1 ul705_1;clear hcc705 hce705;have qi705:(0<x11_2.length)=True:=eq_true (by omega)
             (try rw[show ((0:Int)).toNat=0 from rfl] at hx705_0)
             (try rw[show 0*2=0 from rfl] at hx705_0)
             (try rw[Addr.add_zero'] at hx705_0)
             (try rw[show ((0:Int)).toNat=0 from rfl] at hx705_1)
             (try rw[show 0*2=0 from rfl] at hx705_1)
             (try rw[Addr.add_zero'] at hx705_1)
             have HR705_1:=Sd.mk hi705_1;have HC705_1:=Sd.mk hl705_1;clear hi705_1 hl705_1;replace p705:=eq_true p705;replace q705:=eq_true q705;have ea_:=Option.some.inj (hx704_1.symm.trans hx705_1)
             injection ea_ with ea_ en_ ec_
             subst ea_;subst ec_;clear en_;have p706:0≤(0:Int):=(by omega);have q706:0<(t692.length:Int):=dz;obtain⟨ad706,A706_1,c706_1,e706,hx706_0,hx706_1,hl706_1,hi706_1⟩:=at_T61 (Kd.N_reads' HO_8.out).2.2 0 p706 q706;obtain rfl:ad702=ad706:=(by injection e706);obtain⟨ce706,hce706,hMe706,hcc706⟩:=Kd.N_get HO_8.out z61 0 p706 (by first|exact q706|exact dz|(have e_:=(Kd.N_reads' HO_8.out).1;omega));obtain⟨ua706_1,uc706_1,rfl,ul706_1,ge706_1⟩:=k61_openF hMe706;have hv706_1:=hcc706 1 _ rfl;rw[add_field _ _ 1 (by omega)] at hv706_1;replace hv706_1:=Option.some.inj (hv706_1.symm.trans hx706_1)
             injection hv706_1 with hva_ hvn_ hvc_
             rw[hva_] at ge706_1;rw[hvc_] at ul706_1;have HL706_1:=Sd.mk (show Kd.V k61 61 _ w.heap.size _ _ ((rd_T61 t692 0).f1) from Kd.V_mk ul706_1 ge706_1);clear hva_ hvn_ hvc_ ge706_1 ul706_1;clear hcc706 hce706;have qi706:(0<t692.length)=True:=eq_true (by omega)
             (try rw[show ((0:Int)).toNat=0 from rfl] at hx706_0)
             (try rw[show 0*2=0 from rfl] at hx706_0)
             (try rw[Addr.add_zero'] at hx706_0)
             (try rw[show ((0:Int)).toNat=0 from rfl] at hx706_1)
             (try rw[show 0*2=0 from rfl] at hx706_1)
             (try rw[Addr.add_zero'] at hx706_1)
             (try (have he_:=Option.some.inj (hx706_1.symm.trans (show _=some (Value.slice A702_1 _ c702_1) from by assumption));injection he_ with ha_ hn_ hc_;clear hn_;subst ha_;subst hc_))
             have HR706_1:=Sd.mk hi706_1;have HC706_1:=Sd.mk hl706_1;clear hi706_1 hl706_1;replace p706:=eq_true p706;replace q706:=eq_true q706;refine start_ (n:=18) (S:=fun w'=>w'.cell? ad701=some (.int .i64 ((rd_T61 x11_2 0).f0))∧w'.cell? ⟨ad701.block,ad701.off+1,none⟩=some (.slice A704_1 ((rd_T61 x11_2 0).f1).length c704_1)∧w'.cell? ad701=some (.int .i64 ((rd_T61 x11_2 0).f0))∧w'.cell? ⟨ad701.block,ad701.off+1,none⟩=some (.slice A704_1 ((rd_T61 x11_2 0).f1).length c704_1)∧w'.cell? ad702=some (.int .i64 ((rd_T61 t692 0).f0))∧w'.cell? ⟨ad702.block,ad702.off+1,none⟩=some (.slice A706_1 ((rd_T61 t692 0).f1).length c706_1)) (ds:=[15,16]) #[F,F,F,F,F,F,F,F,F,F,F,F,F,F,F,F,F,F] (by kernel_rfl) rfl rfl ⟨hx704_0,hx704_1,hx705_0,hx705_1,hx706_0,hx706_1⟩ (fun hHeld=>?_);refine with_tabW impl_OrdDivide.tab6 impl_OrdDivide.bits6 (fun HT_ HW_=>?_)
             generalize w23.drew=w24 at HO_8 HO_10 HO_11 HL701_1 HL702_1 HR701_1 HR702_1 HB HL704_1 HL705_1 HL706_1 HR704_1 HR705_1 HR706_1 hx704_0 hx704_1 hx705_0 hx705_1 hx706_0 hx706_1 hHeld ⊢
             refine pq 0 (some 48) HT_.out rfl rfl ?_;refine pq 1 (some 49) HT_.out rfl rfl ?_;refine pq 2 (some 50) HT_.out rfl rfl ?_;refine pq 3 (some 51) HT_.out rfl rfl ?_;refine pq 5 (some 53) HT_.out rfl rfl ?_;refine pq 6 (some 54) HT_.out rfl rfl ?_;refine pq 7 (some 55) HT_.out rfl rfl ?_;refine pq 9 (some 57) HT_.out rfl rfl ?_;refine pq 10 (some 58) HT_.out rfl rfl ?_;refine pq 11 (some 59) HT_.out rfl rfl ?_;refine take_ (i:=4) (N:=some 52) (v:=?_) (a':=?_) #[T,T,T,T,T,T,T,T,F,T,T,T,F,F,F,F,F,F] rfl rfl (take_ofW HT_.out HW_.out (by kernel_rfl)) (fun _ _ _ h=>h) (Or.inl ⟨by rfl,?_⟩) hHeld ?_ ?_
             rotate_left;(· rintro w' ⟨s0,s1,s2,s3,s4,s5⟩;go_simp;with_reducible rfl);rotate_left;(· simp only[Act.put,s1,s2,s3,i64_w,i32_w];rfl)
             refine take_ (i:=8) (N:=some 56) (v:=?_) (a':=?_) #[T,T,T,T,T,T,T,T,T,T,T,T,F,F,F,F,F,F] rfl rfl (take_ofW HT_.out HW_.out (by kernel_rfl)) (fun _ _ _ h=>h) (Or.inl ⟨by rfl,?_⟩) hHeld ?_ ?_
             rotate_left;(· rintro w' ⟨s0,s1,s2,s3,s4,s5⟩;go_simp;with_reducible rfl);rotate_left;(· simp only[Act.put,s1,s2,s3,i64_w,i32_w];rfl)
             refine take_ (i:=12) (N:=some 60) (v:=?_) (a':=?_) #[T,T,T,T,T,T,T,T,T,T,T,T,T,F,F,F,F,F] rfl rfl (take_ofW HT_.out HW_.out (by kernel_rfl)) (fun _ _ _ h=>h) (Or.inl ⟨by rfl,?_⟩) hHeld ?_ ?_
             rotate_left;(· rintro w' ⟨s0,s1,s2,s3,s4,s5⟩;go_simp;with_reducible rfl);rotate_left;(· simp only[Act.put,s1,s2,s3,i64_w,i32_w];rfl)
             refine one_ (i:=13) (N:=some 61) #[T,T,T,T,T,T,T,T,T,T,T,T,T,T,F,F,F,F] rfl rfl (one_of HT_.out (by kernel_rfl)) (by decide) (fun K hK=>?_);refine goes_ Try.func51 (by kernel_rfl) rfl #[.slice A704_1 ((rd_T61 x11_2 0).f1).length c704_1,.slice A706_1 ((rd_T61 t692 0).f1).length c706_1] (by rfl) rfl rfl az ?_
             with_reducible refine(impl_minus.calls k2 (fun k_=>(some k_≠(.slice (some ad702) t692.length co22:Value).ownBlock∧some k_≠(u10:Value).ownBlock)) _ _ ((rd_T61 x11_2 0).f1) _ _ ((rd_T61 t692 0).f1) t707 _ ?side1 ?side2 ?side3 A17.out).mono ?_
             (case side1=>exact HL705_1.out)
             (case side2=>exact(Kd.Cz HR706_1.out))
             (case side3=>exact HC706_1.out)
             rintro e w25 ⟨v708,rfl,ho0,hb⟩;have HS0_:=(hb.cell (World.block_lt_of_cell? _ _ (hHeld.1))).trans (hHeld.1);have HS1_:=(hb.cell (World.block_lt_of_cell? _ _ (hHeld.2.1))).trans (hHeld.2.1);have HS2_:=(hb.cell (World.block_lt_of_cell? _ _ (hHeld.2.2.1))).trans (hHeld.2.2.1);have HS3_:=(hb.cell (World.block_lt_of_cell? _ _ (hHeld.2.2.2.1))).trans (hHeld.2.2.2.1);have HS4_:=(hb.cell (World.block_lt_of_cell? _ _ (hHeld.2.2.2.2.1))).trans (hHeld.2.2.2.2.1);have HS5_:=(hb.cell (World.block_lt_of_cell? _ _ (hHeld.2.2.2.2.2))).trans (hHeld.2.2.2.2.2);refine⟨_,rfl,?_⟩;have n0_:=Sd.mk (Kd.N_below (Kd.Nz HO_8.out) hb);have n1_:=Sd.mk (Kd.N_below (Kd.Nz HO_10.out) hb);have n2_:=Sd.mk (Kd.V_below (Kd.Vz HO_11.out) hb);have n3_:=Sd.mk (Kd.V_below (Kd.Vz HL701_1.out) hb);have n4_:=Sd.mk (Kd.V_below (Kd.Vz HL702_1.out) hb);have n5_:=Sd.mk (Kd.V_below (Kd.Vz HL704_1.out) hb);have n6_:=Sd.mk (Kd.V_below (Kd.Vz HL705_1.out) hb);have n7_:=Sd.mk (Kd.V_below (Kd.Vz HL706_1.out) hb);have n8_:=Sd.mk (Kd.V_lower (Kd.V_mono (ok':=fun k_=>some k_≠(.slice (some ad702) t692.length co22:Value).ownBlock∧some k_≠(u10:Value).ownBlock) ho0 (fun k_ hk_=>⟨Or.elim hk_ (fun hs_=>hs_.1) (fun hn_=>(Kd.fresh' (Kd.N_lt (Kd.Nz HO_8.out)) k_ hn_)),Or.elim hk_ (fun hs_=>hs_.2) (fun hn_=>(Kd.fresh' (Kd.N_lt (Kd.Nz HO_10.out)) k_ hn_))⟩)) (below_size bz));have n9_:=Sd.mk (Kd.C_below (Kd.Cz HR701_1.out) hb);have n10_:=Sd.mk (Kd.C_below (Kd.Cz HR702_1.out) hb);have n11_:=Sd.mk (Kd.C_below (Kd.Cz HR704_1.out) hb);have n12_:=Sd.mk (Kd.C_below (Kd.Cz HR705_1.out) hb);have n13_:=Sd.mk (Kd.C_below (Kd.Cz HR706_1.out) hb);have n14_:=Sd.mk (below_step bz hb);clear HO_8;clear HO_10;clear HO_11;clear HL701_1;clear HL702_1;clear HL704_1;clear HL705_1;clear HL706_1;clear HR701_1;clear HR702_1;clear HR704_1;clear HR705_1;clear HR706_1;clear HB;have HO_8:=n0_;have HO_10:=n1_;have HO_11:=n2_;have HL701_1:=n3_;have HL702_1:=n4_;have HL704_1:=n5_;have HL705_1:=n6_;have HL706_1:=n7_;have HO709:=n8_;have HR701_1:=n9_;have HR702_1:=n10_;have HR704_1:=n11_;have HR705_1:=n12_;have HR706_1:=n13_;have HB:=n14_;clear n0_ n1_ n2_ n3_ n4_ n5_ n6_ n7_ n8_ n9_ n10_ n11_ n12_ n13_ n14_
             (try clear hb)
             (try clear hb2)
             (try clear hk)
             (try clear hi)
             (try clear ho0)
             obtain⟨Ao26,co26,eo26⟩:=Kd.V_slice HO709.out
             (first|subst eo26|(injection eo26 with f1_ f2_ f3_;have f4_:=f1_.symm;have f5_:=f3_.symm;clear f1_ f2_ f3_;subst f4_;subst f5_))
             refine hK.out _ _ ⟨HS0_,HS1_,HS2_,HS3_,HS4_,HS5_⟩ (fun hHeld=>?_);clear hK K;refine norm_ (a':=?_) ?_ ?_
             rotate_left
             ·show Act.put _ (some 61) _=_
              simp only[Act.put,s1,s2,s3,i64_w,i32_w]
              rfl
             refine pq 14 (some 62) HT_.out rfl rfl ?_;refine last_ (i:=15) (N:=some 63) #[T,T,T,T,T,T,T,T,T,T,T,T,T,T,T,T,F,F] rfl rfl (one_of HT_.out (by kernel_rfl)) (by decide) (fun K hK=>?_);refine value_ (w1:=?_) (v:=?_) (by rfl) rfl ?_ ?_
             rotate_left 2
             ·go_simp
              constructor
              ·rfl
              ·rfl
             refine hK.out _ _ ?_;clear hK K;refine norm_ (a':=?_) ?_ ?_
             rotate_left
             ·show Act.put _ (some 63) _=_
              simp only[Act.put,s1,s2,s3,i64_w,i32_w]
              rfl
             refine last_ (i:=16) (N:=some 64) #[T,T,T,T,T,T,T,T,T,T,T,T,T,T,T,T,T,F] rfl rfl (one_of HT_.out (by kernel_rfl)) (by decide) (fun K hK=>?_);refine Kd.N_append_step k61 (w0:=w) w.heap.size (by rfl) (.tmp 48) (.tmp 63) 46 61 (.agg #[(.int .i64 0),(.slice none 0 0)]) 32 rfl Try.underlying46 info61 rfl (by decide) (by omega) u10 x10_2 (⟨(rd_T61 x11_2 0).f0,t707⟩:S61) [.int .i64 ((rd_T61 x11_2 0).f0),.slice Ao26 t707.length co26] (fun k_=>some k_≠(.slice (some ad702) t692.length co22:Value).ownBlock) (fun k_=>((fun k_=>some k_≠(.slice (some ad702) t692.length co22:Value).ownBlock)) k_∧some k_≠(u10:Value).ownBlock) rfl rfl ?aP (fun _ hk=>hk) ?aF ?aO ?aB ?aS ?aL ?_
             (case aP=>exact(k61_mkF _ _ (⟨(rd_T61 x11_2 0).f0,t707⟩:S61) (Kd.V_reads' (Kd.V_mono (ok':=(fun k_=>((fun k_=>some k_≠(.slice (some ad702) t692.length co22:Value).ownBlock)) k_∧some k_≠(u10:Value).ownBlock)) (HO709.out) (fun k_ hk=>⟨hk.1,hk.2⟩))).2.1 (Kd.V_F (Kd.V_mono (ok':=(fun k_=>((fun k_=>some k_≠(.slice (some ad702) t692.length co22:Value).ownBlock)) k_∧some k_≠(u10:Value).ownBlock)) (HO709.out) (fun k_ hk=>⟨hk.1,hk.2⟩)))))
             (case aB=>exact bz)
             (case aF=>exact(fun k_ hk=>Kd.fresh' (Kd.N_lt (Kd.Nz HO_8.out)) k_ hk))
             (case aO=>exact(Kd.Nz HO_10.out))
             (case aS=>exact(below_size bz))
             (case aL=>have:=LMc18.out;omega)
             intro v711 w27 ho hb hg hat;rw[← Ny710.out] at ho;have n0_:=Sd.mk (Kd.N_afterv (ok:=(fun _=>True)) (Kd.Nz <| Kd.N_mono HO_8.out (fun _ hk=>⟨trivial,hk⟩)) hg hat);have n1_:=Sd.mk (Kd.V_afterv (ok:=(fun k_=>some k_≠(.slice (some ad702) t692.length co22:Value).ownBlock)) (Kd.Vz HO_11.out) hg hat);have n2_:=Sd.mk (Kd.V_afterv (ok:=(fun k_=>some k_≠(.slice (some ad702) t692.length co22:Value).ownBlock)) (Kd.Vz HL701_1.out) hg hat);have n3_:=Sd.mk (Kd.V_afterv (ok:=(fun k_=>some k_≠(.slice (some ad702) t692.length co22:Value).ownBlock)) (Kd.Vz <| Kd.V_mono HL702_1.out (fun _ hk=>⟨hk.2,hk.1⟩)) hg hat);have n4_:=Sd.mk (Kd.V_afterv (ok:=(fun k_=>some k_≠(.slice (some ad702) t692.length co22:Value).ownBlock)) (Kd.Vz HL704_1.out) hg hat);have n5_:=Sd.mk (Kd.V_afterv (ok:=(fun k_=>some k_≠(.slice (some ad702) t692.length co22:Value).ownBlock)) (Kd.Vz HL705_1.out) hg hat);have n6_:=Sd.mk (Kd.V_afterv (ok:=(fun k_=>some k_≠(.slice (some ad702) t692.length co22:Value).ownBlock)) (Kd.Vz <| Kd.V_mono HL706_1.out (fun _ hk=>⟨hk.2,hk.1⟩)) hg hat);have n7_:=Sd.mk (Kd.V_afterv (ok:=(fun k_=>some k_≠(.slice (some ad702) t692.length co22:Value).ownBlock)) (Kd.Vz HO709.out) hg hat);have n8_:=Sd.mk (hb);have n9_:=Sd.mk (ho);clear HO_8;clear HO_11;clear HL701_1;clear HL702_1;clear HL704_1;clear HL705_1;clear HL706_1;clear HO709;clear HB;clear HO_10;have HO_8:=n0_;have HO_11:=n1_;have HL701_1:=n2_;have HL702_1:=n3_;have HL704_1:=n4_;have HL705_1:=n5_;have HL706_1:=n6_;have HO709:=n7_;have HB:=n8_;have HO712:=n9_;clear n0_ n1_ n2_ n3_ n4_ n5_ n6_ n7_ n8_ n9_;clear ho hb hg hat;refine hK.out _ _ ?_;clear hK K;refine norm_ (a':=?_) ?_ ?_
             rotate_left
             ·show Act.put _ (some 64) _=_
              simp only[Act.put,s1,s2,s3,i64_w,i32_w]
              rfl
             refine pq 17 (some 10) HT_.out rfl rfl ?_;refine done_ (done_of HT_.out (by kernel_rfl)) ?_;have q28:(1:Int)≤((x11_2.length:Int):Int):=dz;obtain⟨i028,hi028,_,hsz28,_⟩:=info_parts info61;have hroom28:x11_2.length≤co21:=(Kd.V_reads' HO_11.out).2.1;have hC28:Kd.F k61 _ _ (some ad701) x11_2.length x11_2:=(Kd.V_at (base:=w.heap.size) HO_11.out).2.2;have hcut28:=cut_from (P:=Try.prog) 46 61 .i64 Try.underlying46 hi028 2 hsz28 (some ad701) x11_2.length co21 1 (by omega) q28;have hr28:=Kd.F_cut (m:=(1:Int).toNat) (c:=co21) hC28 (by omega) hroom28;obtain⟨A28,hA28⟩:∃ Aq_,Aq_=(if co21=(1:Int).toNat then(some ad701) else((some ad701):Option Addr).map (·.add ((1:Int).toNat*2))):=⟨_,rfl⟩;obtain⟨c28,hc28⟩:∃ cq_,cq_=co21-(1:Int).toNat:=⟨_,rfl⟩;have hy28:y713.length=x11_2.length-(1:Int).toNat:=(by rw[Ny713.out,List.length_drop]<;>omega);rw[show (x11_2).drop (1:Int).toNat=y713 from Ny713.out.symm] at hr28;replace hr28:Kd.F k61 _ _ A28 y713.length y713:=(by rw[hA28];exact hr28);rw[← hy28,← hA28,← hc28] at hcut28;have HO717:=Sd.mk (show Kd.V k61 61 _ w.heap.size _ (.slice A28 y713.length c28) y713 from Kd.V_mk (by rw[hy28,hc28];exact Nat.sub_le_sub_right hroom28 _) hr28);have HC717:=Sd.mk (show y713.length≤c28 from by rw[hy28,hc28];exact Nat.sub_le_sub_right hroom28 _);clear hr28 hC28 hroom28 hi028 hsz28 hc28;have KY28:=Sd.mk hy28;have KA28:=Sd.mk hA28;clear hy28 hA28;replace q28:=eq_true q28
             try go_wp2
             go_roundg k2
             case measure=>have:=HJ3.out;have:=HK2.out;omega
             case rel=>exact⟨(y710),(y713),H',⟨by have:=HJ3.out;have:=HK2.out;omega⟩,⟨Kd.Nz <| Kd.N_mono HO_8.out (fun _ hk=>hk.2)⟩,⟨by(with_reducible repeat (first|apply Kd.N_alloc|apply Kd.N_drewN|apply Kd.N_drew));exact HO712.out⟩,⟨by(with_reducible repeat (first|apply Kd.V_alloc|apply Kd.V_drewN|apply Kd.V_drew));exact HO717.out⟩,⟨bz⟩⟩
            ·rw[if_neg c19] at H
             exact absurd H (by simp)
           ·rw[if_neg c18] at H
            exact absurd H (by simp)
          ·rw[if_neg c16] at H
           have c16b0:decide (0<t703)=false:=decide_eq_false c16;clear c16;have H':=Sd.mk H;clear H
           try go_wp2
           have n0_:=Sd.mk (Kd.N_drew HO_8.out);have n1_:=Sd.mk (Kd.N_drew HO_10.out);have n2_:=Sd.mk (Kd.V_drew HO_11.out);have n3_:=Sd.mk (below_drew1 HB.out);clear HO_8;clear HO_10;clear HO_11;clear HB;have HO_8:=n0_;have HO_10:=n1_;have HO_11:=n2_;have HB:=n3_;clear n0_ n1_ n2_ n3_;obtain⟨Ao30,co30,eo30⟩:=Kd.V_slice HO_11.out
           (first|subst eo30|(injection eo30 with f1_ f2_ f3_;have f4_:=f1_.symm;have f5_:=f3_.symm;clear f1_ f2_ f3_;subst f4_;subst f5_))
           have p701:0≤(0:Int):=(by omega);have q701:0<(x11_2.length:Int):=dz;obtain⟨ad701,A701_1,c701_1,e701,hx701_0,hx701_1,hl701_1,hi701_1⟩:=at_T61 (Kd.V_reads' HO_11.out).2.2 0 p701 q701;cases e701;obtain⟨ce701,hce701,hMe701,hcc701⟩:=Kd.V_get HO_11.out z61 0 p701 (by first|exact q701|exact dz|(have e_:=(Kd.V_reads' HO_11.out).1;omega));obtain⟨ua701_1,uc701_1,rfl,ul701_1,ge701_1⟩:=k61_openF hMe701;have hv701_1:=hcc701 1 _ rfl;rw[add_field _ _ 1 (by omega)] at hv701_1;replace hv701_1:=Option.some.inj (hv701_1.symm.trans hx701_1)
           injection hv701_1 with hva_ hvn_ hvc_
           rw[hva_] at ge701_1;rw[hvc_] at ul701_1;have HL701_1:=Sd.mk (show Kd.V k61 61 _ w.heap.size _ _ ((rd_T61 x11_2 0).f1) from Kd.V_mk ul701_1 ge701_1);clear hva_ hvn_ hvc_ ge701_1 ul701_1;clear hcc701 hce701;have qi701:(0<x11_2.length)=True:=eq_true (by omega)
           (try rw[show ((0:Int)).toNat=0 from rfl] at hx701_0)
           (try rw[show 0*2=0 from rfl] at hx701_0)
           (try rw[Addr.add_zero'] at hx701_0)
           (try rw[show ((0:Int)).toNat=0 from rfl] at hx701_1)
           (try rw[show 0*2=0 from rfl] at hx701_1)
           (try rw[Addr.add_zero'] at hx701_1)
           have HR701_1:=Sd.mk hi701_1;have HC701_1:=Sd.mk hl701_1;clear hi701_1 hl701_1;replace p701:=eq_true p701;replace q701:=eq_true q701;obtain⟨Ao31,co31,eo31⟩:=Kd.N_slice HO_8.out
           (first|subst eo31|(injection eo31 with f1_ f2_ f3_;have f4_:=f1_.symm;have f5_:=f3_.symm;clear f1_ f2_ f3_;subst f4_;subst f5_))
           have p702:0≤(0:Int):=(by omega);have q702:0<(t692.length:Int):=dz;obtain⟨ad702,A702_1,c702_1,e702,hx702_0,hx702_1,hl702_1,hi702_1⟩:=at_T61 (Kd.N_reads' HO_8.out).2.2 0 p702 q702;cases e702;obtain⟨ce702,hce702,hMe702,hcc702⟩:=Kd.N_get HO_8.out z61 0 p702 (by first|exact q702|exact dz|(have e_:=(Kd.N_reads' HO_8.out).1;omega));obtain⟨ua702_1,uc702_1,rfl,ul702_1,ge702_1⟩:=k61_openF hMe702;have hv702_1:=hcc702 1 _ rfl;rw[add_field _ _ 1 (by omega)] at hv702_1;replace hv702_1:=Option.some.inj (hv702_1.symm.trans hx702_1)
           injection hv702_1 with hva_ hvn_ hvc_
           rw[hva_] at ge702_1;rw[hvc_] at ul702_1;have HL702_1:=Sd.mk (show Kd.V k61 61 _ w.heap.size _ _ ((rd_T61 t692 0).f1) from Kd.V_mk ul702_1 ge702_1);clear hva_ hvn_ hvc_ ge702_1 ul702_1;clear hcc702 hce702;have qi702:(0<t692.length)=True:=eq_true (by omega)
           (try rw[show ((0:Int)).toNat=0 from rfl] at hx702_0)
           (try rw[show 0*2=0 from rfl] at hx702_0)
           (try rw[Addr.add_zero'] at hx702_0)
           (try rw[show ((0:Int)).toNat=0 from rfl] at hx702_1)
           (try rw[show 0*2=0 from rfl] at hx702_1)
           (try rw[Addr.add_zero'] at hx702_1)
           have HR702_1:=Sd.mk hi702_1;have HC702_1:=Sd.mk hl702_1;clear hi702_1 hl702_1;replace p702:=eq_true p702;replace q702:=eq_true q702;refine start_ (n:=15) (S:=fun w'=>w'.cell? ad701=some (.int .i64 ((rd_T61 x11_2 0).f0))∧w'.cell? ⟨ad701.block,ad701.off+1,none⟩=some (.slice A701_1 ((rd_T61 x11_2 0).f1).length c701_1)∧w'.cell? ad702=some (.int .i64 ((rd_T61 t692 0).f0))∧w'.cell? ⟨ad702.block,ad702.off+1,none⟩=some (.slice A702_1 ((rd_T61 t692 0).f1).length c702_1)) (ds:=[]) #[F,F,F,F,F,F,F,F,F,F,F,F,F,F,F] (by kernel_rfl) rfl rfl ⟨hx701_0,hx701_1,hx702_0,hx702_1⟩ (fun hHeld=>?_);refine with_tabW impl_OrdDivide.tab5 impl_OrdDivide.bits5 (fun HT_ HW_=>?_)
           generalize wr.drew=w29 at HO_8 HO_10 HO_11 HB HL701_1 HL702_1 HR701_1 HR702_1 hx701_0 hx701_1 hx702_0 hx702_1 hHeld ⊢
           refine pq 0 (some 33) HT_.out rfl rfl ?_;refine pq 1 (some 34) HT_.out rfl rfl ?_;refine pq 2 (some 35) HT_.out rfl rfl ?_;refine pq 3 (some 36) HT_.out rfl rfl ?_;refine pq 4 (some 37) HT_.out rfl rfl ?_;refine pq 5 (some 38) HT_.out rfl rfl ?_;refine pq 6 (some 39) HT_.out rfl rfl ?_;refine pq 8 (some 41) HT_.out rfl rfl ?_;refine pq 9 (some 42) HT_.out rfl rfl ?_;refine pq 10 (some 43) HT_.out rfl rfl ?_;refine take_ (i:=7) (N:=some 40) (v:=?_) (a':=?_) #[T,T,T,T,T,T,T,T,T,T,T,F,F,F,F] rfl rfl (take_ofW HT_.out HW_.out (by kernel_rfl)) (fun _ _ _ h=>h) (Or.inl ⟨by rfl,?_⟩) hHeld ?_ ?_
           rotate_left;(· rintro w' ⟨s0,s1,s2,s3⟩;go_simp;with_reducible rfl);rotate_left;(· simp only[Act.put,s1,s2,s3,i64_w,i32_w];rfl)
           refine take_ (i:=11) (N:=some 44) (v:=?_) (a':=?_) #[T,T,T,T,T,T,T,T,T,T,T,T,F,F,F] rfl rfl (take_ofW HT_.out HW_.out (by kernel_rfl)) (fun _ _ _ h=>h) (Or.inl ⟨by rfl,?_⟩) hHeld ?_ ?_
           rotate_left;(· rintro w' ⟨s0,s1,s2,s3⟩;go_simp;with_reducible rfl);rotate_left;(· simp only[Act.put,s1,s2,s3,i64_w,i32_w];rfl)
           refine one_ (i:=12) (N:=some 45) #[T,T,T,T,T,T,T,T,T,T,T,T,T,F,F] rfl rfl (one_of HT_.out (by kernel_rfl)) (by decide) (fun K hK=>?_);refine goes_ Try.func50 (by kernel_rfl) rfl #[.slice A701_1 ((rd_T61 x11_2 0).f1).length c701_1,.slice A702_1 ((rd_T61 t692 0).f1).length c702_1] (by rfl) rfl rfl az ?_
           with_reducible refine(impl_compare.calls k2 _ _ ((rd_T61 x11_2 0).f1) _ _ ((rd_T61 t692 0).f1) t703 _ ?side1 ?side2 ?side3 ?side4 A15.out).mono ?_
           (case side1=>exact(Kd.Cz HR701_1.out))
           (case side2=>exact HC701_1.out)
           (case side3=>exact(Kd.Cz HR702_1.out))
           (case side4=>exact HC702_1.out)
           rintro e w32 ⟨rfl,hb⟩;have HS0_:=(hb.cell (World.block_lt_of_cell? _ _ (hHeld.1))).trans (hHeld.1);have HS1_:=(hb.cell (World.block_lt_of_cell? _ _ (hHeld.2.1))).trans (hHeld.2.1);have HS2_:=(hb.cell (World.block_lt_of_cell? _ _ (hHeld.2.2.1))).trans (hHeld.2.2.1);have HS3_:=(hb.cell (World.block_lt_of_cell? _ _ (hHeld.2.2.2))).trans (hHeld.2.2.2);refine⟨_,rfl,?_⟩;have n0_:=Sd.mk (Kd.N_below (Kd.Nz HO_8.out) hb);have n1_:=Sd.mk (Kd.N_below (Kd.Nz HO_10.out) hb);have n2_:=Sd.mk (Kd.V_below (Kd.Vz HO_11.out) hb);have n3_:=Sd.mk (Kd.V_below (Kd.Vz HL701_1.out) hb);have n4_:=Sd.mk (Kd.V_below (Kd.Vz HL702_1.out) hb);have n5_:=Sd.mk (Kd.C_below (Kd.Cz HR701_1.out) hb);have n6_:=Sd.mk (Kd.C_below (Kd.Cz HR702_1.out) hb);have n7_:=Sd.mk (below_step bz hb);clear HO_8;clear HO_10;clear HO_11;clear HL701_1;clear HL702_1;clear HR701_1;clear HR702_1;clear HB;have HO_8:=n0_;have HO_10:=n1_;have HO_11:=n2_;have HL701_1:=n3_;have HL702_1:=n4_;have HR701_1:=n5_;have HR702_1:=n6_;have HB:=n7_;clear n0_ n1_ n2_ n3_ n4_ n5_ n6_ n7_
           (try clear hb)
           (try clear hb2)
           (try clear hk)
           (try clear hi)
           refine hK.out _ _ ⟨HS0_,HS1_,HS2_,HS3_⟩ (fun hHeld=>?_);clear hK K;refine norm_ (a':=?_) ?_ ?_
           rotate_left
           ·show Act.put _ (some 45) _=_
            simp only[Act.put,s1,s2,s3,i64_w,i32_w]
            rfl
           refine pq 13 (some 46) HT_.out rfl rfl ?_;refine pq 14 (some 47) HT_.out rfl rfl ?_;refine done_ (done_of HT_.out (by kernel_rfl)) ?_
           try go_wp2
           go_meet
           case rel=>exact⟨_,(x10_2),(x11_2),H',⟨by have:=HJ3.out;have:=HK2.out;first|omega|exact Nat.le_refl _⟩,⟨by(with_reducible repeat (first|apply Kd.N_alloc|apply Kd.N_drewN|apply Kd.N_drew));exact HO_8.out⟩,⟨by(with_reducible repeat (first|apply Kd.N_alloc|apply Kd.N_drewN|apply Kd.N_drew));exact HO_10.out⟩,⟨by(with_reducible repeat (first|apply Kd.V_alloc|apply Kd.V_drewN|apply Kd.V_drew));exact HO_11.out⟩,⟨bz⟩⟩
         ·rw[if_neg c14] at H
          exact absurd H (by simp)
        ·rw[if_neg c13] at H
         exact absurd H (by simp)
       ·rw[if_neg c12] at H
        have c12b0:decide (0<(x11_2.length:Int))=false:=decide_eq_false c12;have c12b1:decide (0<x11_2.length)=false:=decide_eq_false (by omega);clear c12
        (first|rw[c12b0]|(simp only[i64_w,i32_w];rw[c12b0])|skip)
        have H':=Sd.mk H;clear H
        try go_wp2
        have n0_:=Sd.mk (Kd.N_drew HO_8.out);have n1_:=Sd.mk (Kd.N_drew HO_10.out);have n2_:=Sd.mk (Kd.V_drew HO_11.out);have n3_:=Sd.mk (below_drew1 HB.out);clear HO_8;clear HO_10;clear HO_11;clear HB;have HO_8:=n0_;have HO_10:=n1_;have HO_11:=n2_;have HB:=n3_;clear n0_ n1_ n2_ n3_;obtain⟨Ao34,co34,eo34⟩:=Kd.V_slice HO_11.out
        (first|subst eo34|(injection eo34 with f1_ f2_ f3_;have f4_:=f1_.symm;have f5_:=f3_.symm;clear f1_ f2_ f3_;subst f4_;subst f5_))
        refine start_ (n:=15) (S:=fun w'=>True) (ds:=[]) #[F,F,F,F,F,F,F,F,F,F,F,F,F,F,F] (by kernel_rfl) rfl rfl trivial (fun hHeld=>?_);refine with_tabW impl_OrdDivide.tab5 impl_OrdDivide.bits5 (fun HT_ HW_=>?_)
        generalize wr.drew=w33 at HO_8 HO_10 HO_11 HB hHeld ⊢
        refine pq 0 (some 33) HT_.out rfl rfl ?_;refine pq 1 (some 34) HT_.out rfl rfl ?_;refine pq 2 (some 35) HT_.out rfl rfl ?_;refine pq 3 (some 36) HT_.out rfl rfl ?_;refine pu 4 (some 37) HT_.out rfl rfl ?_;refine pu 5 (some 38) HT_.out rfl rfl ?_;refine pu 6 (some 39) HT_.out rfl rfl ?_;refine pu 7 (some 40) HT_.out rfl rfl ?_;refine pu 8 (some 41) HT_.out rfl rfl ?_;refine pu 9 (some 42) HT_.out rfl rfl ?_;refine pu 10 (some 43) HT_.out rfl rfl ?_;refine pu 11 (some 44) HT_.out rfl rfl ?_;refine pu 12 (some 45) HT_.out rfl rfl ?_;refine pu 13 (some 46) HT_.out rfl rfl ?_;refine pq 14 (some 47) HT_.out rfl rfl ?_;refine done_ (done_of HT_.out (by kernel_rfl)) ?_
        try go_wp2
        go_meet
        case rel=>exact⟨_,(x10_2),(x11_2),H',⟨by have:=HJ3.out;have:=HK2.out;first|omega|exact Nat.le_refl _⟩,⟨by(with_reducible repeat (first|apply Kd.N_alloc|apply Kd.N_drewN|apply Kd.N_drew));exact HO_8.out⟩,⟨by(with_reducible repeat (first|apply Kd.N_alloc|apply Kd.N_drewN|apply Kd.N_drew));exact HO_10.out⟩,⟨by(with_reducible repeat (first|apply Kd.V_alloc|apply Kd.V_drewN|apply Kd.V_drew));exact HO_11.out⟩,⟨bz⟩⟩
    case rest =>
     clear HC9
     try clear c1
     try clear c2
     try clear p2
     try clear q2
     try clear c5
     try clear c7
     try clear p7
     try clear q7
     try clear hx7
     try clear qi7
     try clear c12
     try clear c12b0
     try clear c12b1
     try clear c13
     try clear c14
     try clear c16
     try clear c16b0
     try clear c18
     try clear c19
     try clear c28
     try clear q28
     try clear hx701_0
     try clear hx701_1
     try clear hx702_0
     try clear hx702_1
     try clear p701
     try clear p702
     try clear q28
     try clear q701
     try clear q702
     obtain⟨kq,x10_8,x11_8,HA,HJ8,HO_8,HO_10,HO_11,HB⟩:=hcut
     cases kq with
     | zero=>exact absurd HA.out (by simp[impl_OrdDivide.j2])
     | succ kj8 =>
      have H:=HA.out;clear HA;simp only[impl_OrdDivide.j2] at H;have HC35:=Sd.mk H;clear H
      go_upto_region 8 with (fail)
      go_cut [81] (fun v81 wc=>∃ (kq:Nat) (x81_34:Bool),v81=.bool x81_34∧Sd (impl_OrdDivide.j3 kq t692 x10_8 x11_8 x81_34=some (r1,r2,r3))∧Sd (kq≤kj8)∧Sd (Kd.N k61 61 wc w.heap.size (fun k_=>some k_≠(u10:Value).ownBlock) v696 t692)∧Sd (Kd.N k61 61 wc w.heap.size (fun k_=>some k_≠(v696:Value).ownBlock) u10 x10_8)∧Sd (Kd.V k61 61 wc w.heap.size (fun k_=>some k_≠(v696:Value).ownBlock∧some k_≠(u10:Value).ownBlock) u11 x11_8)∧Sd (Below w.heap.size w wc))
      case first =>
       have H:=HC35.out;clear HC35
       by_cases c36:(x11_8.length:Int)>0
       ·rw[if_pos c36] at H
        have c36b0:decide (0<(x11_8.length:Int))=true:=decide_eq_true c36;have c36b1:decide (0<x11_8.length)=true:=decide_eq_true (by omega);clear c36
        (first|rw[c36b0]|(simp only[i64_w,i32_w];rw[c36b0])|skip)
        by_cases c37:0<(x11_8.length:Int)
        ·rw[if_pos c37] at H
         have c37b0:decide (0<(x11_8.length:Int))=true:=decide_eq_true c37;have c37b1:decide (0<x11_8.length)=true:=decide_eq_true (by omega);clear c37
         by_cases c38:0<(t692.length:Int)
         ·rw[if_pos c38] at H
          have c38b0:decide (0<(t692.length:Int))=true:=decide_eq_true c38;have c38b1:decide (0<t692.length)=true:=decide_eq_true (by omega);clear c38;replace H:=Option.bind_eq_some_iff.mp H;obtain⟨t720,A390,H⟩:=H;replace H:(impl_OrdDivide.j3 kj8 t692 x10_8 x11_8 (t720 == 0))=some (r1,r2,r3):=H;have A39:=Sd.mk A390;clear A390;have H':=Sd.mk H;clear H
          try go_wp2
          have n0_:=Sd.mk (Kd.N_drew HO_8.out);have n1_:=Sd.mk (Kd.N_drew HO_10.out);have n2_:=Sd.mk (Kd.V_drew HO_11.out);have n3_:=Sd.mk (below_drew1 HB.out);clear HO_8;clear HO_10;clear HO_11;clear HB;have HO_8:=n0_;have HO_10:=n1_;have HO_11:=n2_;have HB:=n3_;clear n0_ n1_ n2_ n3_;obtain⟨Ao41,co41,eo41⟩:=Kd.V_slice HO_11.out
          (first|subst eo41|(injection eo41 with f1_ f2_ f3_;have f4_:=f1_.symm;have f5_:=f3_.symm;clear f1_ f2_ f3_;subst f4_;subst f5_))
          have p718:0≤(0:Int):=(by omega);have q718:0<(x11_8.length:Int):=dz;obtain⟨ad718,A718_1,c718_1,e718,hx718_0,hx718_1,hl718_1,hi718_1⟩:=at_T61 (Kd.V_reads' HO_11.out).2.2 0 p718 q718;cases e718;obtain⟨ce718,hce718,hMe718,hcc718⟩:=Kd.V_get HO_11.out z61 0 p718 (by first|exact q718|exact dz|(have e_:=(Kd.V_reads' HO_11.out).1;omega));obtain⟨ua718_1,uc718_1,rfl,ul718_1,ge718_1⟩:=k61_openF hMe718;have hv718_1:=hcc718 1 _ rfl;rw[add_field _ _ 1 (by omega)] at hv718_1;replace hv718_1:=Option.some.inj (hv718_1.symm.trans hx718_1)
          injection hv718_1 with hva_ hvn_ hvc_
          rw[hva_] at ge718_1;rw[hvc_] at ul718_1;have HL718_1:=Sd.mk (show Kd.V k61 61 _ w.heap.size _ _ ((rd_T61 x11_8 0).f1) from Kd.V_mk ul718_1 ge718_1);clear hva_ hvn_ hvc_ ge718_1 ul718_1;clear hcc718 hce718;have qi718:(0<x11_8.length)=True:=eq_true (by omega)
          (try rw[show ((0:Int)).toNat=0 from rfl] at hx718_0)
          (try rw[show 0*2=0 from rfl] at hx718_0)
          (try rw[Addr.add_zero'] at hx718_0)
          (try rw[show ((0:Int)).toNat=0 from rfl] at hx718_1)
          (try rw[show 0*2=0 from rfl] at hx718_1)
          (try rw[Addr.add_zero'] at hx718_1)
          have HR718_1:=Sd.mk hi718_1;have HC718_1:=Sd.mk hl718_1;clear hi718_1 hl718_1;replace p718:=eq_true p718;replace q718:=eq_true q718;obtain⟨Ao42,co42,eo42⟩:=Kd.N_slice HO_8.out
          (first|subst eo42|(injection eo42 with f1_ f2_ f3_;have f4_:=f1_.symm;have f5_:=f3_.symm;clear f1_ f2_ f3_;subst f4_;subst f5_))
          have p719:0≤(0:Int):=(by omega);have q719:0<(t692.length:Int):=dz;obtain⟨ad719,A719_1,c719_1,e719,hx719_0,hx719_1,hl719_1,hi719_1⟩:=at_T61 (Kd.N_reads' HO_8.out).2.2 0 p719 q719;cases e719;obtain⟨ce719,hce719,hMe719,hcc719⟩:=Kd.N_get HO_8.out z61 0 p719 (by first|exact q719|exact dz|(have e_:=(Kd.N_reads' HO_8.out).1;omega));obtain⟨ua719_1,uc719_1,rfl,ul719_1,ge719_1⟩:=k61_openF hMe719;have hv719_1:=hcc719 1 _ rfl;rw[add_field _ _ 1 (by omega)] at hv719_1;replace hv719_1:=Option.some.inj (hv719_1.symm.trans hx719_1)
          injection hv719_1 with hva_ hvn_ hvc_
          rw[hva_] at ge719_1;rw[hvc_] at ul719_1;have HL719_1:=Sd.mk (show Kd.V k61 61 _ w.heap.size _ _ ((rd_T61 t692 0).f1) from Kd.V_mk ul719_1 ge719_1);clear hva_ hvn_ hvc_ ge719_1 ul719_1;clear hcc719 hce719;have qi719:(0<t692.length)=True:=eq_true (by omega)
          (try rw[show ((0:Int)).toNat=0 from rfl] at hx719_0)
          (try rw[show 0*2=0 from rfl] at hx719_0)
          (try rw[Addr.add_zero'] at hx719_0)
          (try rw[show ((0:Int)).toNat=0 from rfl] at hx719_1)
          (try rw[show 0*2=0 from rfl] at hx719_1)
          (try rw[Addr.add_zero'] at hx719_1)
          have HR719_1:=Sd.mk hi719_1;have HC719_1:=Sd.mk hl719_1;clear hi719_1 hl719_1;replace p719:=eq_true p719;replace q719:=eq_true q719;refine start_ (n:=15) (S:=fun w'=>w'.cell? ad718=some (.int .i64 ((rd_T61 x11_8 0).f0))∧w'.cell? ⟨ad718.block,ad718.off+1,none⟩=some (.slice A718_1 ((rd_T61 x11_8 0).f1).length c718_1)∧w'.cell? ad719=some (.int .i64 ((rd_T61 t692 0).f0))∧w'.cell? ⟨ad719.block,ad719.off+1,none⟩=some (.slice A719_1 ((rd_T61 t692 0).f1).length c719_1)) (ds:=[]) #[F,F,F,F,F,F,F,F,F,F,F,F,F,F,F] (by kernel_rfl) rfl rfl ⟨hx718_0,hx718_1,hx719_0,hx719_1⟩ (fun hHeld=>?_);refine with_tabW impl_OrdDivide.tab8 impl_OrdDivide.bits8 (fun HT_ HW_=>?_)
          generalize wc.drew=w40 at HO_8 HO_10 HO_11 HB HL718_1 HL719_1 HR718_1 HR719_1 hx718_0 hx718_1 hx719_0 hx719_1 hHeld ⊢
          refine pq 0 (some 67) HT_.out rfl rfl ?_;refine pq 1 (some 68) HT_.out rfl rfl ?_;refine pq 2 (some 69) HT_.out rfl rfl ?_;refine pq 3 (some 70) HT_.out rfl rfl ?_;refine pq 4 (some 71) HT_.out rfl rfl ?_;refine pq 5 (some 72) HT_.out rfl rfl ?_;refine pq 6 (some 73) HT_.out rfl rfl ?_;refine pq 8 (some 75) HT_.out rfl rfl ?_;refine pq 9 (some 76) HT_.out rfl rfl ?_;refine pq 10 (some 77) HT_.out rfl rfl ?_;refine take_ (i:=7) (N:=some 74) (v:=?_) (a':=?_) #[T,T,T,T,T,T,T,T,T,T,T,F,F,F,F] rfl rfl (take_ofW HT_.out HW_.out (by kernel_rfl)) (fun _ _ _ h=>h) (Or.inl ⟨by rfl,?_⟩) hHeld ?_ ?_
          rotate_left;(· rintro w' ⟨s0,s1,s2,s3⟩;go_simp;with_reducible rfl);rotate_left;(· simp only[Act.put,s1,s2,s3,i64_w,i32_w];rfl)
          refine take_ (i:=11) (N:=some 78) (v:=?_) (a':=?_) #[T,T,T,T,T,T,T,T,T,T,T,T,F,F,F] rfl rfl (take_ofW HT_.out HW_.out (by kernel_rfl)) (fun _ _ _ h=>h) (Or.inl ⟨by rfl,?_⟩) hHeld ?_ ?_
          rotate_left;(· rintro w' ⟨s0,s1,s2,s3⟩;go_simp;with_reducible rfl);rotate_left;(· simp only[Act.put,s1,s2,s3,i64_w,i32_w];rfl)
          refine one_ (i:=12) (N:=some 79) #[T,T,T,T,T,T,T,T,T,T,T,T,T,F,F] rfl rfl (one_of HT_.out (by kernel_rfl)) (by decide) (fun K hK=>?_);refine goes_ Try.func50 (by kernel_rfl) rfl #[.slice A718_1 ((rd_T61 x11_8 0).f1).length c718_1,.slice A719_1 ((rd_T61 t692 0).f1).length c719_1] (by rfl) rfl rfl az ?_
          with_reducible refine(impl_compare.calls kj8 _ _ ((rd_T61 x11_8 0).f1) _ _ ((rd_T61 t692 0).f1) t720 _ ?side1 ?side2 ?side3 ?side4 A39.out).mono ?_
          (case side1=>exact(Kd.Cz HR718_1.out))
          (case side2=>exact HC718_1.out)
          (case side3=>exact(Kd.Cz HR719_1.out))
          (case side4=>exact HC719_1.out)
          rintro e w43 ⟨rfl,hb⟩;have HS0_:=(hb.cell (World.block_lt_of_cell? _ _ (hHeld.1))).trans (hHeld.1);have HS1_:=(hb.cell (World.block_lt_of_cell? _ _ (hHeld.2.1))).trans (hHeld.2.1);have HS2_:=(hb.cell (World.block_lt_of_cell? _ _ (hHeld.2.2.1))).trans (hHeld.2.2.1);have HS3_:=(hb.cell (World.block_lt_of_cell? _ _ (hHeld.2.2.2))).trans (hHeld.2.2.2);refine⟨_,rfl,?_⟩;have n0_:=Sd.mk (Kd.N_below (Kd.Nz HO_8.out) hb);have n1_:=Sd.mk (Kd.N_below (Kd.Nz HO_10.out) hb);have n2_:=Sd.mk (Kd.V_below (Kd.Vz HO_11.out) hb);have n3_:=Sd.mk (Kd.V_below (Kd.Vz HL718_1.out) hb);have n4_:=Sd.mk (Kd.V_below (Kd.Vz HL719_1.out) hb);have n5_:=Sd.mk (Kd.C_below (Kd.Cz HR718_1.out) hb);have n6_:=Sd.mk (Kd.C_below (Kd.Cz HR719_1.out) hb);have n7_:=Sd.mk (below_step bz hb);clear HO_8;clear HO_10;clear HO_11;clear HL718_1;clear HL719_1;clear HR718_1;clear HR719_1;clear HB;have HO_8:=n0_;have HO_10:=n1_;have HO_11:=n2_;have HL718_1:=n3_;have HL719_1:=n4_;have HR718_1:=n5_;have HR719_1:=n6_;have HB:=n7_;clear n0_ n1_ n2_ n3_ n4_ n5_ n6_ n7_
          (try clear hb)
          (try clear hb2)
          (try clear hk)
          (try clear hi)
          refine hK.out _ _ ⟨HS0_,HS1_,HS2_,HS3_⟩ (fun hHeld=>?_);clear hK K;refine norm_ (a':=?_) ?_ ?_
          rotate_left
          ·show Act.put _ (some 79) _=_
           simp only[Act.put,s1,s2,s3,i64_w,i32_w]
           rfl
          refine pq 13 (some 80) HT_.out rfl rfl ?_;refine pq 14 (some 81) HT_.out rfl rfl ?_;refine done_ (done_of HT_.out (by kernel_rfl)) ?_
          try go_wp2
          go_meet
          case rel=>exact⟨_,((t720 == 0)),(by first|rfl|(simp;done)|(simp[*];done)),H',⟨by have:=HJ3.out;have:=HJ8.out;first|omega|exact Nat.le_refl _⟩,⟨by(with_reducible repeat (first|apply Kd.N_alloc|apply Kd.N_drewN|apply Kd.N_drew));exact HO_8.out⟩,⟨by(with_reducible repeat (first|apply Kd.N_alloc|apply Kd.N_drewN|apply Kd.N_drew));exact HO_10.out⟩,⟨by(with_reducible repeat (first|apply Kd.V_alloc|apply Kd.V_drewN|apply Kd.V_drew));exact HO_11.out⟩,⟨bz⟩⟩
         ·rw[if_neg c38] at H
          exact absurd H (by simp)
        ·rw[if_neg c37] at H
         exact absurd H (by simp)
       ·rw[if_neg c36] at H
        have c36b0:decide (0<(x11_8.length:Int))=false:=decide_eq_false c36;have c36b1:decide (0<x11_8.length)=false:=decide_eq_false (by omega);clear c36
        (first|rw[c36b0]|(simp only[i64_w,i32_w];rw[c36b0])|skip)
        have H':=Sd.mk H;clear H
        try go_wp2
        have n0_:=Sd.mk (Kd.N_drew HO_8.out);have n1_:=Sd.mk (Kd.N_drew HO_10.out);have n2_:=Sd.mk (Kd.V_drew HO_11.out);have n3_:=Sd.mk (below_drew1 HB.out);clear HO_8;clear HO_10;clear HO_11;clear HB;have HO_8:=n0_;have HO_10:=n1_;have HO_11:=n2_;have HB:=n3_;clear n0_ n1_ n2_ n3_;obtain⟨Ao45,co45,eo45⟩:=Kd.V_slice HO_11.out
        (first|subst eo45|(injection eo45 with f1_ f2_ f3_;have f4_:=f1_.symm;have f5_:=f3_.symm;clear f1_ f2_ f3_;subst f4_;subst f5_))
        refine start_ (n:=15) (S:=fun w'=>True) (ds:=[]) #[F,F,F,F,F,F,F,F,F,F,F,F,F,F,F] (by kernel_rfl) rfl rfl trivial (fun hHeld=>?_);refine with_tabW impl_OrdDivide.tab8 impl_OrdDivide.bits8 (fun HT_ HW_=>?_)
        generalize wc.drew=w44 at HO_8 HO_10 HO_11 HB hHeld ⊢
        refine pq 0 (some 67) HT_.out rfl rfl ?_;refine pq 1 (some 68) HT_.out rfl rfl ?_;refine pq 2 (some 69) HT_.out rfl rfl ?_;refine pq 3 (some 70) HT_.out rfl rfl ?_;refine pu 4 (some 71) HT_.out rfl rfl ?_;refine pu 5 (some 72) HT_.out rfl rfl ?_;refine pu 6 (some 73) HT_.out rfl rfl ?_;refine pu 7 (some 74) HT_.out rfl rfl ?_;refine pu 8 (some 75) HT_.out rfl rfl ?_;refine pu 9 (some 76) HT_.out rfl rfl ?_;refine pu 10 (some 77) HT_.out rfl rfl ?_;refine pu 11 (some 78) HT_.out rfl rfl ?_;refine pu 12 (some 79) HT_.out rfl rfl ?_;refine pu 13 (some 80) HT_.out rfl rfl ?_;refine pq 14 (some 81) HT_.out rfl rfl ?_;refine done_ (done_of HT_.out (by kernel_rfl)) ?_
        try go_wp2
        go_meet
        case rel=>exact⟨_,(false),(by first|rfl|(simp;done)|(simp[*];done)),H',⟨by have:=HJ3.out;have:=HJ8.out;first|omega|exact Nat.le_refl _⟩,⟨by(with_reducible repeat (first|apply Kd.N_alloc|apply Kd.N_drewN|apply Kd.N_drew));exact HO_8.out⟩,⟨by(with_reducible repeat (first|apply Kd.N_alloc|apply Kd.N_drewN|apply Kd.N_drew));exact HO_10.out⟩,⟨by(with_reducible repeat (first|apply Kd.V_alloc|apply Kd.V_drewN|apply Kd.V_drew));exact HO_11.out⟩,⟨bz⟩⟩
      case rest =>
       clear HC35
       try clear c1
       try clear c2
       try clear p2
       try clear q2
       try clear c3
       try clear c5
       try clear c7
       try clear p7
       try clear q7
       try clear hx7
       try clear qi7
       try clear c12
       try clear c12b0
       try clear c12b1
       try clear c13
       try clear c14
       try clear c16
       try clear c16b0
       try clear c18
       try clear c19
       try clear c28
       try clear q28
       try clear c36
       try clear c36b0
       try clear c36b1
       try clear c37
       try clear c37b0
       try clear c37b1
       try clear c38
       try clear c38b0
       try clear c38b1
       try clear hx701_0
       try clear hx701_1
       try clear hx702_0
       try clear hx702_1
       try clear hx718_0
       try clear hx718_1
       try clear hx719_0
       try clear hx719_1
       try clear p2
       try clear p7
       try clear p701
       try clear p702
       try clear p718
       try clear p719
       try clear q2
       try clear q28
       try clear q7
       try clear q701
       try clear q702
       try clear q718
       try clear q719
       obtain⟨kq,x81_34,rfl,HA,HJ34,HO_8,HO_10,HO_11,HB⟩:=hcut
       cases kq with
       | zero=>exact absurd HA.out (by simp[impl_OrdDivide.j3])
       | succ kj34 =>
        have H:=HA.out;clear HA;simp only[impl_OrdDivide.j3] at H;have HC46:=Sd.mk H;clear H
        go_upto_if 81 with (fail)
        go_cut [10,11] (fun v10 v11 wc=>∃ (kq:Nat) (x10_45:List (S61)) (x11_45:List (S61)),Sd (impl_OrdDivide.j6 kq x10_45 x11_45=some (r1,r2,r3))∧Sd (kq≤kj34)∧Sd (Kd.N k61 61 wc w.heap.size (fun _=>True) v10 x10_45)∧Sd (Kd.V k61 61 wc w.heap.size (fun k_=>some k_≠(v10:Value).ownBlock) v11 x11_45)∧Sd (Below w.heap.size w wc))
        case first =>
         have H:=HC46.out;clear HC46
         by_cases c47:x81_34=true
         ·subst c47
          have H1:(if 0<(x11_8.length:Int) then(if 0<(t692.length:Int) then(if((rd_T61 t692 0).f0)=0 then(none) else(if(wrap64 (Int.tdiv ((rd_T61 x11_8 0).f0) ((rd_T61 t692 0).f0)))>0 then((impl_number.f (wrap64 (Int.tdiv ((rd_T61 x11_8 0).f0) ((rd_T61 t692 0).f0)))).bind fun t723=>((impl_times.f kj34 t692 t723).bind fun t726=>((impl_compare.f kj34 x11_8 t726).bind fun t729=>(impl_OrdDivide.j4 kj34 t692 x10_8 x11_8 (wrap64 (Int.tdiv ((rd_T61 x11_8 0).f0) ((rd_T61 t692 0).f0))) (decide (t729<0)))))) else(impl_OrdDivide.j4 kj34 t692 x10_8 x11_8 (wrap64 (Int.tdiv ((rd_T61 x11_8 0).f0) ((rd_T61 t692 0).f0))) false))) else(none)) else(none))=some (r1,r2,r3):=by rw[if_pos rfl] at H;exact H
          clear H;have H:=H1;clear H1
          by_cases c48:0<(x11_8.length:Int)
          ·rw[if_pos c48] at H
           have c48b0:decide (0<(x11_8.length:Int))=true:=decide_eq_true c48;have c48b1:decide (0<x11_8.length)=true:=decide_eq_true (by omega);clear c48
           (first|rw[c48b0]|(simp only[i64_w,i32_w];rw[c48b0])|skip)
           by_cases c49:0<(t692.length:Int)
           ·rw[if_pos c49] at H
            have c49b0:decide (0<(t692.length:Int))=true:=decide_eq_true c49;have c49b1:decide (0<t692.length)=true:=decide_eq_true (by omega);clear c49
            by_cases c50:((rd_T61 t692 0).f0)=0
            ·rw[if_pos c50] at H
             exact absurd H (by simp)
            ·rw[if_neg c50] at H
             have c50b0:(((rd_T61 t692 0).f0) == 0)=false:=beq_eq_false_iff_ne.mpr c50;have c50b1:(((rd_T61 t692 0).f0) != 0)=true:=bne_iff_ne.mpr c50;have HC51:=Sd.mk H;clear H
             try go_wp2
             have n0_:=Sd.mk (Kd.N_drew HO_8.out);have n1_:=Sd.mk (Kd.N_drew HO_10.out);have n2_:=Sd.mk (Kd.V_drew HO_11.out);have n3_:=Sd.mk (below_drew1 HB.out);clear HO_8;clear HO_10;clear HO_11;clear HB;have HO_8:=n0_;have HO_10:=n1_;have HO_11:=n2_;have HB:=n3_;clear n0_ n1_ n2_ n3_;obtain⟨Ao53,co53,eo53⟩:=Kd.V_slice HO_11.out
             (first|subst eo53|(injection eo53 with f1_ f2_ f3_;have f4_:=f1_.symm;have f5_:=f3_.symm;clear f1_ f2_ f3_;subst f4_;subst f5_))
             have p721:0≤(0:Int):=(by omega);have q721:0<(x11_8.length:Int):=dz;obtain⟨ad721,A721_1,c721_1,e721,hx721_0,hx721_1,hl721_1,hi721_1⟩:=at_T61 (Kd.V_reads' HO_11.out).2.2 0 p721 q721;cases e721;obtain⟨ce721,hce721,hMe721,hcc721⟩:=Kd.V_get HO_11.out z61 0 p721 (by first|exact q721|exact dz|(have e_:=(Kd.V_reads' HO_11.out).1;omega));obtain⟨ua721_1,uc721_1,rfl,ul721_1,ge721_1⟩:=k61_openF hMe721;have hv721_1:=hcc721 1 _ rfl;rw[add_field _ _ 1 (by omega)] at hv721_1;replace hv721_1:=Option.some.inj (hv721_1.symm.trans hx721_1)
             injection hv721_1 with hva_ hvn_ hvc_
             rw[hva_] at ge721_1;rw[hvc_] at ul721_1;have HL721_1:=Sd.mk (show Kd.V k61 61 _ w.heap.size _ _ ((rd_T61 x11_8 0).f1) from Kd.V_mk ul721_1 ge721_1);clear hva_ hvn_ hvc_ ge721_1 ul721_1;clear hcc721 hce721;have qi721:(0<x11_8.length)=True:=eq_true (by omega)
             (try rw[show ((0:Int)).toNat=0 from rfl] at hx721_0)
             (try rw[show 0*2=0 from rfl] at hx721_0)
             (try rw[Addr.add_zero'] at hx721_0)
             (try rw[show ((0:Int)).toNat=0 from rfl] at hx721_1)
             (try rw[show 0*2=0 from rfl] at hx721_1)
             (try rw[Addr.add_zero'] at hx721_1)
             have HR721_1:=Sd.mk hi721_1;have HC721_1:=Sd.mk hl721_1;clear hi721_1 hl721_1;replace p721:=eq_true p721;replace q721:=eq_true q721;obtain⟨Ao54,co54,eo54⟩:=Kd.N_slice HO_8.out
             (first|subst eo54|(injection eo54 with f1_ f2_ f3_;have f4_:=f1_.symm;have f5_:=f3_.symm;clear f1_ f2_ f3_;subst f4_;subst f5_))
             have p722:0≤(0:Int):=(by omega);have q722:0<(t692.length:Int):=dz;obtain⟨ad722,A722_1,c722_1,e722,hx722_0,hx722_1,hl722_1,hi722_1⟩:=at_T61 (Kd.N_reads' HO_8.out).2.2 0 p722 q722;cases e722;obtain⟨ce722,hce722,hMe722,hcc722⟩:=Kd.N_get HO_8.out z61 0 p722 (by first|exact q722|exact dz|(have e_:=(Kd.N_reads' HO_8.out).1;omega));obtain⟨ua722_1,uc722_1,rfl,ul722_1,ge722_1⟩:=k61_openF hMe722;have hv722_1:=hcc722 1 _ rfl;rw[add_field _ _ 1 (by omega)] at hv722_1;replace hv722_1:=Option.some.inj (hv722_1.symm.trans hx722_1)
             injection hv722_1 with hva_ hvn_ hvc_
             rw[hva_] at ge722_1;rw[hvc_] at ul722_1;have HL722_1:=Sd.mk (show Kd.V k61 61 _ w.heap.size _ _ ((rd_T61 t692 0).f1) from Kd.V_mk ul722_1 ge722_1);clear hva_ hvn_ hvc_ ge722_1 ul722_1;clear hcc722 hce722;have qi722:(0<t692.length)=True:=eq_true (by omega)
             (try rw[show ((0:Int)).toNat=0 from rfl] at hx722_0)
             (try rw[show 0*2=0 from rfl] at hx722_0)
             (try rw[Addr.add_zero'] at hx722_0)
             (try rw[show ((0:Int)).toNat=0 from rfl] at hx722_1)
             (try rw[show 0*2=0 from rfl] at hx722_1)
             (try rw[Addr.add_zero'] at hx722_1)
             have HR722_1:=Sd.mk hi722_1;have HC722_1:=Sd.mk hl722_1;clear hi722_1 hl722_1;replace p722:=eq_true p722;replace q722:=eq_true q722;refine start_ (n:=10) (S:=fun w'=>w'.cell? ad721=some (.int .i64 ((rd_T61 x11_8 0).f0))∧w'.cell? ⟨ad721.block,ad721.off+1,none⟩=some (.slice A721_1 ((rd_T61 x11_8 0).f1).length c721_1)∧w'.cell? ad722=some (.int .i64 ((rd_T61 t692 0).f0))∧w'.cell? ⟨ad722.block,ad722.off+1,none⟩=some (.slice A722_1 ((rd_T61 t692 0).f1).length c722_1)) (ds:=[]) #[F,F,F,F,F,F,F,F,F,F] (by kernel_rfl) rfl rfl ⟨hx721_0,hx721_1,hx722_0,hx722_1⟩ (fun hHeld=>?_);refine with_tabW impl_OrdDivide.tab9 impl_OrdDivide.bits9 (fun HT_ HW_=>?_)
             generalize wc.drew=w52 at HO_8 HO_10 HO_11 HB HL721_1 HL722_1 HR721_1 HR722_1 hx721_0 hx721_1 hx722_0 hx722_1 hHeld ⊢
             refine pq 0 (some 82) HT_.out rfl rfl ?_;refine pq 1 (some 83) HT_.out rfl rfl ?_;refine pq 2 (some 84) HT_.out rfl rfl ?_;refine pq 4 (some 86) HT_.out rfl rfl ?_;refine pq 5 (some 87) HT_.out rfl rfl ?_;refine pq 6 (some 88) HT_.out rfl rfl ?_;refine take_ (i:=3) (N:=some 85) (v:=?_) (a':=?_) #[T,T,T,T,T,T,T,F,F,F] rfl rfl (take_ofW HT_.out HW_.out (by kernel_rfl)) (fun _ _ _ h=>h) (Or.inl ⟨by rfl,?_⟩) hHeld ?_ ?_
             rotate_left;(· rintro w' ⟨s0,s1,s2,s3⟩;go_simp;with_reducible rfl);rotate_left;(· simp only[Act.put,s1,s2,s3,i64_w,i32_w];rfl)
             refine take_ (i:=7) (N:=some 89) (v:=?_) (a':=?_) #[T,T,T,T,T,T,T,T,F,F] rfl rfl (take_ofW HT_.out HW_.out (by kernel_rfl)) (fun _ _ _ h=>h) (Or.inl ⟨by rfl,?_⟩) hHeld ?_ ?_
             rotate_left;(· rintro w' ⟨s0,s1,s2,s3⟩;go_simp;with_reducible rfl);rotate_left;(· simp only[Act.put,s1,s2,s3,i64_w,i32_w];rfl)
             refine pq 8 (some 90) HT_.out rfl rfl ?_;refine pq 9 (some 12) HT_.out rfl rfl ?_;refine done_ (done_of HT_.out (by kernel_rfl)) ?_
             go_upto_region 10 with (fail)
             go_cut [101] (fun v101 wc=>∃ (kq:Nat) (x101_50:Bool),v101=.bool x101_50∧Sd (impl_OrdDivide.j4 kq t692 x10_8 x11_8 (wrap64 (Int.tdiv ((rd_T61 x11_8 0).f0) ((rd_T61 t692 0).f0))) x101_50=some (r1,r2,r3))∧Sd (kq≤kj34)∧Sd (Kd.N k61 61 wc w.heap.size (fun k_=>some k_≠(u10:Value).ownBlock) (.slice (some ad722) t692.length co54) t692)∧Sd (Kd.N k61 61 wc w.heap.size (fun k_=>some k_≠((.slice (some ad722) t692.length co54):Value).ownBlock) u10 x10_8)∧Sd (Kd.V k61 61 wc w.heap.size (fun k_=>some k_≠((.slice (some ad722) t692.length co54):Value).ownBlock∧some k_≠(u10:Value).ownBlock) (.slice (some ad721) x11_8.length co53) x11_8)∧Sd (Kd.C k61 wc A721_1 ((rd_T61 x11_8 0).f1).length ((rd_T61 x11_8 0).f1))∧Sd (Kd.C k61 wc A722_1 ((rd_T61 t692 0).f1).length ((rd_T61 t692 0).f1))∧Sd (Below w.heap.size w wc))
             case first =>
              have H:=HC51.out;clear HC51
              by_cases c55:(wrap64 (Int.tdiv ((rd_T61 x11_8 0).f0) ((rd_T61 t692 0).f0)))>0
              ·rw[if_pos c55] at H
               have c55b0:decide (0<(wrap64 (Int.tdiv ((rd_T61 x11_8 0).f0) ((rd_T61 t692 0).f0))))=true:=decide_eq_true c55;clear c55
               (first|rw[c55b0]|(simp only[i64_w,i32_w];rw[c55b0])|skip)
               replace H:=Option.bind_eq_some_iff.mp H;obtain⟨t723,A560,H⟩:=H;replace H:((impl_times.f kj34 t692 t723).bind fun t726=>((impl_compare.f kj34 x11_8 t726).bind fun t729=>(impl_OrdDivide.j4 kj34 t692 x10_8 x11_8 (wrap64 (Int.tdiv ((rd_T61 x11_8 0).f0) ((rd_T61 t692 0).f0))) (decide (t729<0)))))=some (r1,r2,r3):=H;have A56:=Sd.mk A560;clear A560;replace H:=Option.bind_eq_some_iff.mp H;obtain⟨t726,A570,H⟩:=H;replace H:((impl_compare.f kj34 x11_8 t726).bind fun t729=>(impl_OrdDivide.j4 kj34 t692 x10_8 x11_8 (wrap64 (Int.tdiv ((rd_T61 x11_8 0).f0) ((rd_T61 t692 0).f0))) (decide (t729<0))))=some (r1,r2,r3):=H;have A57:=Sd.mk A570;clear A570;replace H:=Option.bind_eq_some_iff.mp H;obtain⟨t729,A580,H⟩:=H;replace H:(impl_OrdDivide.j4 kj34 t692 x10_8 x11_8 (wrap64 (Int.tdiv ((rd_T61 x11_8 0).f0) ((rd_T61 t692 0).f0))) (decide (t729<0)))=some (r1,r2,r3):=H;have A58:=Sd.mk A580;clear A580;have H':=Sd.mk H;clear H;go_wp2_with (first|(go_at_call 60;(with_reducible refine(impl_number.calls (wrap64 (Int.tdiv ((rd_T61 x11_8 0).f0) ((rd_T61 t692 0).f0))) t723 _ A56.out).mono ?_);rintro e w59 ⟨v724,rfl,ho0,hb⟩;replace HO_11:=Sd.mk (Kd.V_elder' (Kd.Vz HO_11.out) (by first|exact Kd.N_base ho0|exact Kd.R_base ho0) hb);replace HL721_1:=Sd.mk (Kd.V_elder' (Kd.Vz HL721_1.out) (by first|exact Kd.N_base ho0|exact Kd.R_base ho0) hb);replace HL722_1:=Sd.mk (Kd.V_elder' (Kd.Vz HL722_1.out) (by first|exact Kd.N_base ho0|exact Kd.R_base ho0) hb);have HO725:=Sd.mk (Kd.N_lower (Kd.N_mono (ok':=fun k_=>some k_≠(.slice (some ad722) t692.length co54:Value).ownBlock∧some k_≠(u10:Value).ownBlock) (Kd.R_N (Kd.R_bound ho0)) (fun k_ hk_=>⟨(Kd.fresh' (Kd.N_lt (Kd.Nz HO_8.out)) k_ hk_.2.1),(Kd.fresh' (Kd.N_lt (Kd.Nz HO_10.out)) k_ hk_.2.1)⟩)) (below_size bz));replace HO_8:=Sd.mk (Kd.N_elder' (Kd.Nz HO_8.out) (by first|exact Kd.N_base ho0|exact Kd.R_base ho0) hb);replace HO_10:=Sd.mk (Kd.N_elder' (Kd.Nz HO_10.out) (by first|exact Kd.N_base ho0|exact Kd.R_base ho0) hb);replace HR721_1:=Sd.mk (Kd.C_below (Kd.Cz HR721_1.out) hb);replace HR722_1:=Sd.mk (Kd.C_below (Kd.Cz HR722_1.out) hb);replace HB:=Sd.mk (below_step bz hb);(try clear hb);(try clear hb2);(try clear hk);(try clear hi);(try clear ho0);obtain⟨Ao60,co60,eo60⟩:=Kd.N_slice HO725.out;subst eo60)|(go_at_call 57;(with_reducible refine(impl_times.calls kj34 (fun k_=>(some k_≠(u10:Value).ownBlock∧some k_≠(.slice Ao60 t723.length co60:Value).ownBlock)) _ _ t692 (fun k_=>(some k_≠(.slice (some ad722) t692.length co54:Value).ownBlock∧some k_≠(u10:Value).ownBlock)) _ _ t723 t726 _ ?side1 ?side2 A57.out).mono ?_);(case side1=>exact Kd.N_V (HO_8.out));(case side2=>exact Kd.N_V (HO725.out));rintro e w61 ⟨v727,rfl,ho0,hb⟩;replace HO_8:=Sd.mk (Kd.N_elder' (Kd.Nz HO_8.out) (by first|exact Kd.N_base ho0|exact Kd.R_base ho0) hb);replace HO_11:=Sd.mk (Kd.V_elder' (Kd.Vz HO_11.out) (by first|exact Kd.N_base ho0|exact Kd.R_base ho0) hb);replace HL721_1:=Sd.mk (Kd.V_elder' (Kd.Vz HL721_1.out) (by first|exact Kd.N_base ho0|exact Kd.R_base ho0) hb);replace HL722_1:=Sd.mk (Kd.V_elder' (Kd.Vz HL722_1.out) (by first|exact Kd.N_base ho0|exact Kd.R_base ho0) hb);replace HO725:=Sd.mk (Kd.N_elder' (Kd.Nz HO725.out) (by first|exact Kd.N_base ho0|exact Kd.R_base ho0) hb);have HO728:=Sd.mk (Kd.N_lower (Kd.N_mono (ok':=fun k_=>some k_≠(u10:Value).ownBlock) ho0 (fun k_ hk_=>Or.elim hk_ (fun hs_=>Or.elim hs_ (fun hs_=>hs_.1) (fun hs_=>hs_.2)) (fun hn_=>(Kd.fresh' (Kd.N_lt (Kd.Nz HO_10.out)) k_ hn_)))) (below_size bz));replace HO_10:=Sd.mk (Kd.N_elder' (Kd.Nz HO_10.out) (by first|exact Kd.N_base ho0|exact Kd.R_base ho0) hb);replace HR721_1:=Sd.mk (Kd.C_below (Kd.Cz HR721_1.out) hb);replace HR722_1:=Sd.mk (Kd.C_below (Kd.Cz HR722_1.out) hb);replace HB:=Sd.mk (below_step bz hb);(try clear hb);(try clear hb2);(try clear hk);(try clear hi);(try clear ho0);obtain⟨Ao62,co62,eo62⟩:=Kd.N_slice HO728.out;subst eo62)|(go_at_call 50;(with_reducible refine(impl_compare.calls kj34 _ _ x11_8 _ _ t726 t729 _ ?side1 ?side2 ?side3 ?side4 A58.out).mono ?_);(case side1=>exact Kd.Cz (Kd.V_reads' HO_11.out).2.2);(case side2=>exact(Kd.V_reads' HO_11.out).2.1);(case side3=>exact Kd.Cz (Kd.N_reads' HO728.out).2.2);(case side4=>exact(Kd.N_reads' HO728.out).2.1);rintro e w63 ⟨rfl,hb⟩;replace HO_8:=Sd.mk (Kd.N_below (Kd.Nz HO_8.out) hb);replace HO_10:=Sd.mk (Kd.N_below (Kd.Nz HO_10.out) hb);replace HO_11:=Sd.mk (Kd.V_below (Kd.Vz HO_11.out) hb);replace HL721_1:=Sd.mk (Kd.V_below (Kd.Vz HL721_1.out) hb);replace HL722_1:=Sd.mk (Kd.V_below (Kd.Vz HL722_1.out) hb);replace HO725:=Sd.mk (Kd.N_below (Kd.Nz HO725.out) hb);replace HO728:=Sd.mk (Kd.N_below (Kd.Nz HO728.out) hb);replace HR721_1:=Sd.mk (Kd.C_below (Kd.Cz HR721_1.out) hb);replace HR722_1:=Sd.mk (Kd.C_below (Kd.Cz HR722_1.out) hb);replace HB:=Sd.mk (below_step bz hb);(try clear hb);(try clear hb2);(try clear hk);(try clear hi)));go_meet
               case rel=>exact⟨_,(decide (t729<0)),(by first|rfl|(simp;done)|(simp[*];done)),H',⟨by have:=HJ3.out;have:=HJ8.out;have:=HJ34.out;first|omega|exact Nat.le_refl _⟩,⟨Kd.Nz <| Kd.N_mono HO_8.out (fun _ hk=>hk.1.1)⟩,⟨Kd.Nz <| Kd.N_mono HO_10.out (fun _ hk=>hk.1.1)⟩,⟨Kd.Vz <| Kd.V_mono HO_11.out (fun _ hk=>⟨hk.1.1.1,hk.1.1.2⟩)⟩,⟨by repeat (first|(with_reducible exact HR721_1.out)|(with_reducible refine Kd.C_alloc ?_ _)|(with_reducible refine Kd.C_drewN ?_ _)|(with_reducible refine Kd.C_drew ?_)|exact HR721_1.out)⟩,⟨by repeat (first|(with_reducible exact HR722_1.out)|(with_reducible refine Kd.C_alloc ?_ _)|(with_reducible refine Kd.C_drewN ?_ _)|(with_reducible refine Kd.C_drew ?_)|exact HR722_1.out)⟩,⟨bz⟩⟩
              ·rw[if_neg c55] at H
               have c55b0:decide (0<(wrap64 (Int.tdiv ((rd_T61 x11_8 0).f0) ((rd_T61 t692 0).f0))))=false:=decide_eq_false c55;clear c55
               (first|rw[c55b0]|(simp only[i64_w,i32_w];rw[c55b0])|skip)
               have H':=Sd.mk H;clear H;go_wp2;go_meet
               case rel=>exact⟨_,(false),(by first|rfl|(simp;done)|(simp[*];done)),H',⟨by have:=HJ3.out;have:=HJ8.out;have:=HJ34.out;first|omega|exact Nat.le_refl _⟩,⟨by(with_reducible repeat (first|apply Kd.N_alloc|apply Kd.N_drewN|apply Kd.N_drew));exact HO_8.out⟩,⟨by(with_reducible repeat (first|apply Kd.N_alloc|apply Kd.N_drewN|apply Kd.N_drew));exact HO_10.out⟩,⟨by(with_reducible repeat (first|apply Kd.V_alloc|apply Kd.V_drewN|apply Kd.V_drew));exact HO_11.out⟩,⟨by repeat (first|(with_reducible exact HR721_1.out)|(with_reducible refine Kd.C_alloc ?_ _)|(with_reducible refine Kd.C_drewN ?_ _)|(with_reducible refine Kd.C_drew ?_)|exact HR721_1.out)⟩,⟨by repeat (first|(with_reducible exact HR722_1.out)|(with_reducible refine Kd.C_alloc ?_ _)|(with_reducible refine Kd.C_drewN ?_ _)|(with_reducible refine Kd.C_drew ?_)|exact HR722_1.out)⟩,⟨bz⟩⟩
             case rest =>
              clear HC51
              try clear c1
              try clear c2
              try clear p2
              try clear q2
              try clear c3
              try clear c4
              try clear c5
              try clear p6
              try clear c7
              try clear p7
              try clear q7
              try clear hx7
              try clear qi7
              try clear c12
              try clear c12b0
              try clear c12b1
              try clear c13
              try clear c14
              try clear c16
              try clear c16b0
              try clear c18
              try clear c19
              try clear c28
              try clear q28
              try clear c36
              try clear c36b0
              try clear c36b1
              try clear c37
              try clear c37b0
              try clear c37b1
              try clear c38
              try clear c38b0
              try clear c38b1
              try clear c47
              try clear c48
              try clear c48b0
              try clear c48b1
              try clear c49
              try clear c49b0
              try clear c49b1
              try clear c50
              try clear c50b0
              try clear c50b1
              try clear c55
              try clear c55b0
              try clear hx701_0
              try clear hx701_1
              try clear hx702_0
              try clear hx702_1
              try clear hx718_0
              try clear hx718_1
              try clear hx719_0
              try clear hx719_1
              try clear hx721_0
              try clear hx721_1
              try clear hx722_0
              try clear hx722_1
              try clear p2
              try clear p7
              try clear p701
              try clear p702
              try clear p718
              try clear p719
              try clear p721
              try clear p722
              try clear q2
              try clear q28
              try clear q7
              try clear q701
              try clear q702
              try clear q718
              try clear q719
              try clear q721
              try clear q722
              obtain⟨kq,x101_50,rfl,HA,HJ50,HO_8,HO_10,HO_11,HR721_1,HR722_1,HB⟩:=hcut
              cases kq with
              | zero=>exact absurd HA.out (by simp[impl_OrdDivide.j4])
              | succ kj50 =>
               have H:=HA.out;clear HA;simp only[impl_OrdDivide.j4] at H;have HC64:=Sd.mk H;clear H
               go_upto_if 101 with (fail)
               go_cut [12] (fun v12 wc=>∃ (kq:Nat) (x12_63:Int),v12=.int .i64 x12_63∧Sd (impl_OrdDivide.j5 kq t692 x10_8 x11_8 x12_63=some (r1,r2,r3))∧Sd (kq≤kj50)∧Sd (Kd.N k61 61 wc w.heap.size (fun k_=>some k_≠(u10:Value).ownBlock) (.slice (some ad722) t692.length co54) t692)∧Sd (Kd.N k61 61 wc w.heap.size (fun k_=>some k_≠((.slice (some ad722) t692.length co54):Value).ownBlock) u10 x10_8)∧Sd (Kd.V k61 61 wc w.heap.size (fun k_=>some k_≠((.slice (some ad722) t692.length co54):Value).ownBlock∧some k_≠(u10:Value).ownBlock) (.slice (some ad721) x11_8.length co53) x11_8)∧Sd (Kd.C k61 wc A721_1 ((rd_T61 x11_8 0).f1).length ((rd_T61 x11_8 0).f1))∧Sd (Kd.C k61 wc A722_1 ((rd_T61 t692 0).f1).length ((rd_T61 t692 0).f1))∧Sd (Below w.heap.size w wc))
               case first =>
                have H:=HC64.out;clear HC64
                by_cases c65:x101_50=true
                ·subst c65
                 have H1:(impl_OrdDivide.j5 kj50 t692 x10_8 x11_8 (wrap64 ((wrap64 (Int.tdiv ((rd_T61 x11_8 0).f0) ((rd_T61 t692 0).f0)))-1)))=some (r1,r2,r3):=by rw[if_pos rfl] at H;exact H
                 clear H;have H:=H1;clear H1;have H':=Sd.mk H;clear H;go_wp2;go_meet
                 case rel=>exact⟨_,(wrap64 ((wrap64 (Int.tdiv ((rd_T61 x11_8 0).f0) ((rd_T61 t692 0).f0)))-1)),(by first|rfl|(simp;done)|(simp[*];done)),H',⟨by have:=HJ3.out;have:=HJ8.out;have:=HJ34.out;have:=HJ50.out;first|omega|exact Nat.le_refl _⟩,⟨by(with_reducible repeat (first|apply Kd.N_alloc|apply Kd.N_drewN|apply Kd.N_drew));exact HO_8.out⟩,⟨by(with_reducible repeat (first|apply Kd.N_alloc|apply Kd.N_drewN|apply Kd.N_drew));exact HO_10.out⟩,⟨by(with_reducible repeat (first|apply Kd.V_alloc|apply Kd.V_drewN|apply Kd.V_drew));exact HO_11.out⟩,⟨by repeat (first|(with_reducible exact HR721_1.out)|(with_reducible refine Kd.C_alloc ?_ _)|(with_reducible refine Kd.C_drewN ?_ _)|(with_reducible refine Kd.C_drew ?_)|exact HR721_1.out)⟩,⟨by repeat (first|(with_reducible exact HR722_1.out)|(with_reducible refine Kd.C_alloc ?_ _)|(with_reducible refine Kd.C_drewN ?_ _)|(with_reducible refine Kd.C_drew ?_)|exact HR722_1.out)⟩,⟨bz⟩⟩
                ·replace c65:=Bool.eq_false_iff.mpr c65
                 subst c65
                 have H1:(impl_OrdDivide.j5 kj50 t692 x10_8 x11_8 (wrap64 (Int.tdiv ((rd_T61 x11_8 0).f0) ((rd_T61 t692 0).f0))))=some (r1,r2,r3):=by rw[if_neg (show ¬ (false=true) by decide)] at H;exact H
                 clear H;have H:=H1;clear H1;have H':=Sd.mk H;clear H;go_wp2;go_meet
                 case rel=>exact⟨_,((wrap64 (Int.tdiv ((rd_T61 x11_8 0).f0) ((rd_T61 t692 0).f0)))),(by first|rfl|(simp;done)|(simp[*];done)),H',⟨by have:=HJ3.out;have:=HJ8.out;have:=HJ34.out;have:=HJ50.out;first|omega|exact Nat.le_refl _⟩,⟨by(with_reducible repeat (first|apply Kd.N_alloc|apply Kd.N_drewN|apply Kd.N_drew));exact HO_8.out⟩,⟨by(with_reducible repeat (first|apply Kd.N_alloc|apply Kd.N_drewN|apply Kd.N_drew));exact HO_10.out⟩,⟨by(with_reducible repeat (first|apply Kd.V_alloc|apply Kd.V_drewN|apply Kd.V_drew));exact HO_11.out⟩,⟨by repeat (first|(with_reducible exact HR721_1.out)|(with_reducible refine Kd.C_alloc ?_ _)|(with_reducible refine Kd.C_drewN ?_ _)|(with_reducible refine Kd.C_drew ?_)|exact HR721_1.out)⟩,⟨by repeat (first|(with_reducible exact HR722_1.out)|(with_reducible refine Kd.C_alloc ?_ _)|(with_reducible refine Kd.C_drewN ?_ _)|(with_reducible refine Kd.C_drew ?_)|exact HR722_1.out)⟩,⟨bz⟩⟩
               case rest =>
                clear HC64
                try clear c1
                try clear c2
                try clear p2
                try clear q2
                try clear c3
                try clear c4
                try clear c5
                try clear c6
                try clear p6
                try clear c7
                try clear p7
                try clear q7
                try clear hx7
                try clear qi7
                try clear c12
                try clear c12b0
                try clear c12b1
                try clear c13
                try clear c14
                try clear c16
                try clear c16b0
                try clear c18
                try clear c19
                try clear c28
                try clear q28
                try clear c36
                try clear c36b0
                try clear c36b1
                try clear c37
                try clear c37b0
                try clear c37b1
                try clear c38
                try clear c38b0
                try clear c38b1
                try clear c47
                try clear c48
                try clear c48b0
                try clear c48b1
                try clear c49
                try clear c49b0
                try clear c49b1
                try clear c50
                try clear c50b0
                try clear c50b1
                try clear c55
                try clear c55b0
                try clear p64
                try clear c65
                try clear hx701_0
                try clear hx701_1
                try clear hx702_0
                try clear hx702_1
                try clear hx718_0
                try clear hx718_1
                try clear hx719_0
                try clear hx719_1
                try clear hx721_0
                try clear hx721_1
                try clear hx722_0
                try clear hx722_1
                try clear p2
                try clear p6
                try clear p7
                try clear p701
                try clear p702
                try clear p718
                try clear p719
                try clear p721
                try clear p722
                try clear q2
                try clear q28
                try clear q7
                try clear q701
                try clear q702
                try clear q718
                try clear q719
                try clear q721
                try clear q722
                obtain⟨kq,x12_63,rfl,HA,HJ63,HO_8,HO_10,HO_11,HR721_1,HR722_1,HB⟩:=hcut
                cases kq with
                | zero=>exact absurd HA.out (by simp[impl_OrdDivide.j5])
                | succ kj63 =>
                 have H:=HA.out;clear HA;simp only[impl_OrdDivide.j5] at H
                 by_cases c66:x12_63>0
                 ·rw[if_pos c66] at H
                  have c66b0:decide (0<x12_63)=true:=decide_eq_true c66;clear c66;replace H:=Option.bind_eq_some_iff.mp H;obtain⟨t730,A670,H⟩:=H;replace H:((impl_times.f kj63 t692 t730).bind fun t733=>((impl_minus.f kj63 x11_8 t733).bind fun t736=>(if x10_8.length<4398046511104 then(impl_OrdDivide.j6 kj63 (x10_8++[(⟨x12_63,([]:List (S61))⟩:S61)]) t736) else(none))))=some (r1,r2,r3):=H;have A67:=Sd.mk A670;clear A670;replace H:=Option.bind_eq_some_iff.mp H;obtain⟨t733,A680,H⟩:=H;replace H:((impl_minus.f kj63 x11_8 t733).bind fun t736=>(if x10_8.length<4398046511104 then(impl_OrdDivide.j6 kj63 (x10_8++[(⟨x12_63,([]:List (S61))⟩:S61)]) t736) else(none)))=some (r1,r2,r3):=H;have A68:=Sd.mk A680;clear A680;replace H:=Option.bind_eq_some_iff.mp H;obtain⟨t736,A690,H⟩:=H;replace H:(if x10_8.length<4398046511104 then(impl_OrdDivide.j6 kj63 (x10_8++[(⟨x12_63,([]:List (S61))⟩:S61)]) t736) else(none))=some (r1,r2,r3):=H;have A69:=Sd.mk A690;clear A690
                  by_cases c70:x10_8.length<4398046511104
                  ·rw[if_pos c70] at H
                   have LMc70:=Sd.mk c70;clear c70;obtain⟨y739,hy739⟩:∃ y_:List (S61),y_=(x10_8++[(⟨x12_63,([]:List (S61))⟩:S61)]):=⟨_,rfl⟩;replace H:(impl_OrdDivide.j6 kj63 y739 t736)=some (r1,r2,r3):=hz hy739 H;have Ny739:=Sd.mk hy739;clear hy739;have H':=Sd.mk H;clear H;go_wp2_with (first|((with_reducible refine gate_callee (f:=60) rfl ?_);refine goesL_ (some 109) rfl rfl Try.func60 (by kernel_rfl) rfl #[.int .i64 x12_63] rfl az ?_;(with_reducible refine(impl_number.calls x12_63 t730 _ A67.out).mono ?_);rintro e w71 ⟨v731,rfl,ho0,hb⟩;refine⟨_,rfl,?_⟩;replace HO_11:=Sd.mk (Kd.V_elder' (Kd.Vz HO_11.out) (by first|exact Kd.N_base ho0|exact Kd.R_base ho0) hb);have HO732:=Sd.mk (Kd.N_lower (Kd.N_mono (ok':=fun k_=>some k_≠(.slice (some ad722) t692.length co54:Value).ownBlock∧some k_≠(u10:Value).ownBlock) (Kd.R_N (Kd.R_bound ho0)) (fun k_ hk_=>⟨(Kd.fresh' (Kd.N_lt (Kd.Nz HO_8.out)) k_ hk_.2.1),(Kd.fresh' (Kd.N_lt (Kd.Nz HO_10.out)) k_ hk_.2.1)⟩)) (below_size bz));replace HO_8:=Sd.mk (Kd.N_elder' (Kd.Nz HO_8.out) (by first|exact Kd.N_base ho0|exact Kd.R_base ho0) hb);replace HO_10:=Sd.mk (Kd.N_elder' (Kd.Nz HO_10.out) (by first|exact Kd.N_base ho0|exact Kd.R_base ho0) hb);replace HR721_1:=Sd.mk (Kd.C_below (Kd.Cz HR721_1.out) hb);replace HR722_1:=Sd.mk (Kd.C_below (Kd.Cz HR722_1.out) hb);replace HB:=Sd.mk (below_step bz hb);(try clear hb);(try clear hb2);(try clear hk);(try clear hi);(try clear ho0);obtain⟨Ao72,co72,eo72⟩:=Kd.N_slice HO732.out;subst eo72)|((with_reducible refine gate_callee (f:=57) rfl ?_);refine goesL_ (some 110) rfl rfl Try.func57 (by kernel_rfl) rfl #[.slice (some ad722) t692.length co54,.slice Ao72 t730.length co72] rfl az ?_;(with_reducible refine(impl_times.calls kj63 (fun k_=>(some k_≠(u10:Value).ownBlock∧some k_≠(.slice Ao72 t730.length co72:Value).ownBlock)) _ _ t692 (fun k_=>(some k_≠(.slice (some ad722) t692.length co54:Value).ownBlock∧some k_≠(u10:Value).ownBlock)) _ _ t730 t733 _ ?side1 ?side2 A68.out).mono ?_);(case side1=>exact Kd.N_V (HO_8.out));(case side2=>exact Kd.N_V (HO732.out));rintro e w73 ⟨v734,rfl,ho0,hb⟩;refine⟨_,rfl,?_⟩;replace HO_8:=Sd.mk (Kd.N_elder' (Kd.Nz HO_8.out) (by first|exact Kd.N_base ho0|exact Kd.R_base ho0) hb);replace HO_11:=Sd.mk (Kd.V_elder' (Kd.Vz HO_11.out) (by first|exact Kd.N_base ho0|exact Kd.R_base ho0) hb);replace HO732:=Sd.mk (Kd.N_elder' (Kd.Nz HO732.out) (by first|exact Kd.N_base ho0|exact Kd.R_base ho0) hb);have HO735:=Sd.mk (Kd.N_lower (Kd.N_mono (ok':=fun k_=>some k_≠(u10:Value).ownBlock) ho0 (fun k_ hk_=>Or.elim hk_ (fun hs_=>Or.elim hs_ (fun hs_=>hs_.1) (fun hs_=>hs_.2)) (fun hn_=>(Kd.fresh' (Kd.N_lt (Kd.Nz HO_10.out)) k_ hn_)))) (below_size bz));replace HO_10:=Sd.mk (Kd.N_elder' (Kd.Nz HO_10.out) (by first|exact Kd.N_base ho0|exact Kd.R_base ho0) hb);replace HR721_1:=Sd.mk (Kd.C_below (Kd.Cz HR721_1.out) hb);replace HR722_1:=Sd.mk (Kd.C_below (Kd.Cz HR722_1.out) hb);replace HB:=Sd.mk (below_step bz hb);(try clear hb);(try clear hb2);(try clear hk);(try clear hi);(try clear ho0);obtain⟨Ao74,co74,eo74⟩:=Kd.N_slice HO735.out;subst eo74)|((with_reducible refine gate_callee (f:=51) rfl ?_);refine goesL_ (some 111) rfl rfl Try.func51 (by kernel_rfl) rfl #[.slice (some ad721) x11_8.length co53,.slice Ao74 t733.length co74] rfl az ?_;(with_reducible refine(impl_minus.calls kj63 (fun k_=>(((some k_≠(.slice (some ad722) t692.length co54:Value).ownBlock∧some k_≠(u10:Value).ownBlock)∧some k_≠(.slice Ao72 t730.length co72:Value).ownBlock)∧some k_≠(.slice Ao74 t733.length co74:Value).ownBlock)) _ _ x11_8 _ _ t733 t736 _ ?side1 ?side2 ?side3 A69.out).mono ?_);(case side1=>exact HO_11.out);(case side2=>exact Kd.Cz (Kd.N_reads' HO735.out).2.2);(case side3=>exact(Kd.N_reads' HO735.out).2.1);rintro e w75 ⟨v737,rfl,ho0,hb⟩;refine⟨_,rfl,?_⟩;replace HO_11:=Sd.mk (Kd.V_below (Kd.Vz HO_11.out) hb);have HO738:=Sd.mk (Kd.V_lower (Kd.V_mono (ok':=fun k_=>some k_≠(.slice (some ad722) t692.length co54:Value).ownBlock∧some k_≠(u10:Value).ownBlock∧some k_≠(.slice Ao72 t730.length co72:Value).ownBlock∧some k_≠(.slice Ao74 t733.length co74:Value).ownBlock) ho0 (fun k_ hk_=>⟨Or.elim hk_ (fun hs_=>hs_.1.1.1) (fun hn_=>(Kd.fresh' (Kd.N_lt (Kd.Nz HO_8.out)) k_ hn_)),Or.elim hk_ (fun hs_=>hs_.1.1.2) (fun hn_=>(Kd.fresh' (Kd.N_lt (Kd.Nz HO_10.out)) k_ hn_)),Or.elim hk_ (fun hs_=>hs_.1.2) (fun hn_=>(Kd.fresh' (Kd.N_lt (Kd.Nz HO732.out)) k_ hn_)),Or.elim hk_ (fun hs_=>hs_.2) (fun hn_=>(Kd.fresh' (Kd.N_lt (Kd.Nz HO735.out)) k_ hn_))⟩)) (below_size bz));replace HO_8:=Sd.mk (Kd.N_below (Kd.Nz HO_8.out) hb);replace HO_10:=Sd.mk (Kd.N_below (Kd.Nz HO_10.out) hb);replace HO732:=Sd.mk (Kd.N_below (Kd.Nz HO732.out) hb);replace HO735:=Sd.mk (Kd.N_below (Kd.Nz HO735.out) hb);replace HR721_1:=Sd.mk (Kd.C_below (Kd.Cz HR721_1.out) hb);replace HR722_1:=Sd.mk (Kd.C_below (Kd.Cz HR722_1.out) hb);replace HB:=Sd.mk (below_step bz hb);(try clear hb);(try clear hb2);(try clear hk);(try clear hi);(try clear ho0))|((with_reducible refine gate_builtin (b:=.append) (xs:=#[.tmp 112,.tmp 115]) rfl ?_);at_builtin;refine Kd.N_append k61 (w0:=w) w.heap.size rfl (.tmp 112) (.tmp 115) 46 61 (.agg #[(.int .i64 0),(.slice none 0 0)]) 32 rfl Try.underlying46 info61 rfl (by decide) (by omega) u10 x10_8 (⟨x12_63,([]:List (S61))⟩:S61) [.int .i64 x12_63,.slice none 0 0] (fun k_=>some k_≠(.slice (some ad722) t692.length co54:Value).ownBlock∧some k_≠(.slice Ao72 t730.length co72:Value).ownBlock∧some k_≠(.slice Ao74 t733.length co74:Value).ownBlock) (fun k_=>((fun k_=>some k_≠(.slice (some ad722) t692.length co54:Value).ownBlock∧some k_≠(.slice Ao72 t730.length co72:Value).ownBlock∧some k_≠(.slice Ao74 t733.length co74:Value).ownBlock)) k_∧some k_≠(u10:Value).ownBlock) rfl rfl ?aP (fun _ hk=>hk) ?aF ?aO ?aB ?aS ?aL ?_;(case aP=>exact(k61_mkF _ _ (⟨x12_63,([]:List (S61))⟩:S61) (Nat.le_refl _) (Kd.F_nil _ _ _)));(case aB=>exact bz);(case aF=>exact(fun k_ hk=>⟨Kd.fresh' (Kd.N_lt (Kd.Nz HO_8.out)) k_ hk,Kd.fresh' (Kd.N_lt (Kd.Nz HO732.out)) k_ hk,Kd.fresh' (Kd.N_lt (Kd.Nz HO735.out)) k_ hk⟩));(case aO=>exact(Kd.Nz <| Kd.N_mono HO_10.out (fun _ hk=>⟨hk.1.1,⟨hk.1.2,hk.2⟩⟩)));(case aS=>exact(below_size bz));(case aL=>have:=LMc70.out;omega);intro v740 w76 ho hb hg hat;rw[← Ny739.out] at ho;replace HO_8:=Sd.mk (Kd.N_afterv (ok:=(fun k_=>some k_≠(.slice Ao72 t730.length co72:Value).ownBlock∧some k_≠(.slice Ao74 t733.length co74:Value).ownBlock)) (Kd.Nz <| Kd.N_mono HO_8.out (fun _ hk=>⟨⟨hk.1.2,hk.2⟩,hk.1.1⟩)) hg hat);replace HO_11:=Sd.mk (Kd.V_afterv (ok:=(fun k_=>some k_≠(.slice (some ad722) t692.length co54:Value).ownBlock∧some k_≠(.slice Ao72 t730.length co72:Value).ownBlock∧some k_≠(.slice Ao74 t733.length co74:Value).ownBlock)) (Kd.Vz <| Kd.V_mono HO_11.out (fun _ hk=>⟨⟨hk.1.1.1,⟨hk.1.2,hk.2⟩⟩,hk.1.1.2⟩)) hg hat);replace HO732:=Sd.mk (Kd.N_afterv (ok:=(fun k_=>some k_≠(.slice (some ad722) t692.length co54:Value).ownBlock∧some k_≠(.slice Ao74 t733.length co74:Value).ownBlock)) (Kd.Nz <| Kd.N_mono HO732.out (fun _ hk=>⟨⟨hk.1.1,hk.2⟩,hk.1.2⟩)) hg hat);replace HO735:=Sd.mk (Kd.N_afterv (ok:=(fun _=>True)) (Kd.Nz <| Kd.N_mono HO735.out (fun _ hk=>⟨trivial,hk⟩)) hg hat);replace HO738:=Sd.mk (Kd.V_afterv (ok:=(fun k_=>some k_≠(.slice (some ad722) t692.length co54:Value).ownBlock∧some k_≠(.slice Ao72 t730.length co72:Value).ownBlock∧some k_≠(.slice Ao74 t733.length co74:Value).ownBlock)) (Kd.Vz <| Kd.V_mono HO738.out (fun _ hk=>⟨⟨hk.1,⟨hk.2.2.1,hk.2.2.2⟩⟩,hk.2.1⟩)) hg hat);replace HB:=Sd.mk (hb);have HO741:=Sd.mk (ho);clear HO_10;clear ho hb hg hat));go_meet
                   case rel=>exact⟨_,(y739),(t736),H',⟨by have:=HJ3.out;have:=HJ8.out;have:=HJ34.out;have:=HJ50.out;have:=HJ63.out;first|omega|exact Nat.le_refl _⟩,⟨Kd.Nz <| Kd.N_mono HO741.out (fun _ hk=>trivial)⟩,⟨Kd.Vz <| Kd.V_mono HO738.out (fun _ hk=>hk.2)⟩,⟨bz⟩⟩
                  ·rw[if_neg c70] at H
                   exact absurd H (by simp)
                 ·rw[if_neg c66] at H
                  have c66b0:decide (0<x12_63)=false:=decide_eq_false c66;clear c66;have H':=Sd.mk H;clear H;go_wp2;go_meet
                  case rel=>exact⟨_,(x10_8),(x11_8),H',⟨by have:=HJ3.out;have:=HJ8.out;have:=HJ34.out;have:=HJ50.out;have:=HJ63.out;first|omega|exact Nat.le_refl _⟩,⟨Kd.Nz <| Kd.N_mono HO_10.out (fun _ hk=>trivial)⟩,⟨Kd.Vz <| Kd.V_mono HO_11.out (fun _ hk=>hk.2)⟩,⟨bz⟩⟩
           ·rw[if_neg c49] at H
            exact absurd H (by simp)
          ·rw[if_neg c48] at H
           exact absurd H (by simp)
         ·replace c47:=Bool.eq_false_iff.mpr c47
          subst c47
          have H1:(impl_OrdDivide.j6 kj34 x10_8 x11_8)=some (r1,r2,r3):=by rw[if_neg (show ¬ (false=true) by decide)] at H;exact H
          clear H;have H:=H1;clear H1;have H':=Sd.mk H;clear H;go_wp2;go_meet
          case rel=>exact⟨_,(x10_8),(x11_8),H',⟨by have:=HJ3.out;have:=HJ8.out;have:=HJ34.out;first|omega|exact Nat.le_refl _⟩,⟨Kd.Nz <| Kd.N_mono HO_10.out (fun _ hk=>trivial)⟩,⟨Kd.Vz <| Kd.V_mono HO_11.out (fun _ hk=>hk.2)⟩,⟨bz⟩⟩
        case rest =>
         clear HC46
         try clear c1
         try clear c2
         try clear p2
         try clear q2
         try clear c3
         try clear c4
         try clear c5
         try clear c6
         try clear p6
         try clear c7
         try clear p7
         try clear q7
         try clear hx7
         try clear qi7
         try clear c12
         try clear c12b0
         try clear c12b1
         try clear c13
         try clear c14
         try clear c16
         try clear c16b0
         try clear c18
         try clear c19
         try clear c28
         try clear q28
         try clear c36
         try clear c36b0
         try clear c36b1
         try clear c37
         try clear c37b0
         try clear c37b1
         try clear c38
         try clear c38b0
         try clear c38b1
         try clear c47
         try clear c48
         try clear c48b0
         try clear c48b1
         try clear c49
         try clear c49b0
         try clear c49b1
         try clear c50
         try clear c50b0
         try clear c50b1
         try clear c51
         try clear c55
         try clear c55b0
         try clear c57
         try clear c60
         try clear p64
         try clear c65
         try clear c66
         try clear c66b0
         try clear c70
         try clear p70
         try clear q70
         try clear hx70
         try clear p71
         try clear q71
         try clear hx71
         try clear c72
         try clear p72
         try clear q72
         try clear hx72
         try clear qi72
         try clear hx701_0
         try clear hx701_1
         try clear hx702_0
         try clear hx702_1
         try clear hx718_0
         try clear hx718_1
         try clear hx719_0
         try clear hx719_1
         try clear hx721_0
         try clear hx721_1
         try clear hx722_0
         try clear hx722_1
         try clear p2
         try clear p6
         try clear p64
         try clear p7
         try clear p701
         try clear p702
         try clear p718
         try clear p719
         try clear p721
         try clear p722
         try clear q2
         try clear q28
         try clear q7
         try clear q701
         try clear q702
         try clear q718
         try clear q719
         try clear q721
         try clear q722
         obtain⟨kq,x10_45,x11_45,HA,HJ45,HO_10,HO_11,HB⟩:=hcut
         cases kq with
         | zero=>exact absurd HA.out (by simp[impl_OrdDivide.j6])
         | succ kj45 =>
          have H:=HA.out;clear HA;simp only[impl_OrdDivide.j6] at H;replace H:=Option.bind_eq_some_iff.mp H;obtain⟨⟨t742,t743⟩,A770,H⟩:=H;replace H:((impl_told.f kj45 x11_45).bind fun bt746=>(if t743=true then(if bt746.2=true then(some (t742,bt746.1,true)) else(some (([]:List Int),([]:List Int),false))) else(some (([]:List Int),([]:List Int),false))))=some (r1,r2,r3):=H;have A77:=Sd.mk A770;clear A770;replace H:=Option.bind_eq_some_iff.mp H;obtain⟨⟨t746,t747⟩,A780,H⟩:=H;replace H:(if t743=true then(if t747=true then(some (t742,t746,true)) else(some (([]:List Int),([]:List Int),false))) else(some (([]:List Int),([]:List Int),false)))=some (r1,r2,r3):=H;have A78:=Sd.mk A780;clear A780
          by_cases c79:t743=true
          ·subst c79
           have H1:(if t747=true then(some (t742,t746,true)) else(some (([]:List Int),([]:List Int),false)))=some (r1,r2,r3):=by rw[if_pos rfl] at H;exact H
           clear H;have H:=H1;clear H1
           by_cases c80:t747=true
           ·subst c80
            have H1:(some (t742,t746,true))=some (r1,r2,r3):=by rw[if_pos rfl] at H;exact H
            clear H;have H:=H1;clear H1;simp only[Option.some.injEq,Prod.mk.injEq] at H;obtain⟨rfl,rfl,rfl⟩:=H;obtain⟨Ao81,co81,eo81⟩:=Kd.N_slice HO_10.out;subst eo81;go_wp2_with (first|((with_reducible refine gate_callee (f:=46) rfl ?_);refine goesL_ (some 119) rfl rfl Try.func46 (by kernel_rfl) rfl #[.slice Ao81 x10_45.length co81] rfl az ?_;(with_reducible refine(impl_told.calls kj45 _ _ x10_45 t742 true _ ?side1 ?side2 A77.out).mono ?_);(case side1=>exact Kd.Cz (Kd.N_reads' HO_10.out).2.2);(case side2=>exact(Kd.N_reads' HO_10.out).2.1);rintro e w82 ⟨v744,rfl,ho0,hb⟩;refine⟨_,rfl,?_⟩;replace HO_10:=Sd.mk (Kd.N_elder' (Kd.Nz HO_10.out) (Kd.R_base ho0) hb);replace HO_11:=Sd.mk (Kd.V_elder' (Kd.Vz HO_11.out) (Kd.R_base ho0) hb);have HO745:=Sd.mk (Kd.R_lower ho0 (below_size bz));replace HB:=Sd.mk (below_step bz hb);(try clear hb);(try clear hb2);(try clear hk);(try clear hi);(try clear ho0);obtain⟨Ao83,co83,eo83⟩:=Kd.V_slice HO_11.out;subst eo83)|((with_reducible refine gate_callee (f:=46) rfl ?_);refine goesL_ (some 124) rfl rfl Try.func46 (by kernel_rfl) rfl #[.slice Ao83 x11_45.length co83] rfl az ?_;(with_reducible refine(impl_told.calls kj45 _ _ x11_45 t746 true _ ?side1 ?side2 A78.out).mono ?_);(case side1=>exact Kd.Cz (Kd.V_reads' HO_11.out).2.2);(case side2=>exact(Kd.V_reads' HO_11.out).2.1);rintro e w84 ⟨v748,rfl,ho0,hb⟩;refine⟨_,rfl,?_⟩;replace HO_10:=Sd.mk (Kd.N_elder' (Kd.Nz HO_10.out) (Kd.R_base ho0) hb);replace HO_11:=Sd.mk (Kd.V_elder' (Kd.Vz HO_11.out) (Kd.R_base ho0) hb);have HO749:=Sd.mk (Kd.R_lower (Kd.R_new' ho0 (Kd.R_lt (Kd.Rz HO745.out))) (below_size bz));replace HO745:=Sd.mk (Kd.R_elder' (Kd.Rz HO745.out) (Kd.R_base ho0) hb);replace HB:=Sd.mk (below_step bz hb);(try clear hb);(try clear hb2);(try clear hk);(try clear hi);(try clear ho0)));go_ret3;exact⟨_,_,by first|rfl|(simp[errW_none,errW_some]<;>rfl)|(simp[*,errW_none,errW_some]<;>rfl),Kd.Rz <| Kd.R_mono HO745.out (fun _ hk=>hk.2),Kd.Rz <| Kd.R_mono HO749.out (fun _ hk=>hk.2),bz⟩
           ·replace c80:=Bool.eq_false_iff.mpr c80
            subst c80
            have H1:(some (([]:List Int),([]:List Int),false))=some (r1,r2,r3):=by rw[if_neg (show ¬ (false=true) by decide)] at H;exact H
            clear H;have H:=H1;clear H1;simp only[Option.some.injEq,Prod.mk.injEq] at H;obtain⟨rfl,rfl,rfl⟩:=H;obtain⟨Ao85,co85,eo85⟩:=Kd.N_slice HO_10.out;subst eo85;go_wp2_with (first|((with_reducible refine gate_callee (f:=46) rfl ?_);refine goesL_ (some 119) rfl rfl Try.func46 (by kernel_rfl) rfl #[.slice Ao85 x10_45.length co85] rfl az ?_;(with_reducible refine(impl_told.calls kj45 _ _ x10_45 t742 true _ ?side1 ?side2 A77.out).mono ?_);(case side1=>exact Kd.Cz (Kd.N_reads' HO_10.out).2.2);(case side2=>exact(Kd.N_reads' HO_10.out).2.1);rintro e w86 ⟨v744,rfl,ho0,hb⟩;refine⟨_,rfl,?_⟩;replace HO_10:=Sd.mk (Kd.N_elder' (Kd.Nz HO_10.out) (Kd.R_base ho0) hb);replace HO_11:=Sd.mk (Kd.V_elder' (Kd.Vz HO_11.out) (Kd.R_base ho0) hb);have HO745:=Sd.mk (Kd.R_lower ho0 (below_size bz));replace HB:=Sd.mk (below_step bz hb);(try clear hb);(try clear hb2);(try clear hk);(try clear hi);(try clear ho0);obtain⟨Ao87,co87,eo87⟩:=Kd.V_slice HO_11.out;subst eo87)|((with_reducible refine gate_callee (f:=46) rfl ?_);refine goesL_ (some 124) rfl rfl Try.func46 (by kernel_rfl) rfl #[.slice Ao87 x11_45.length co87] rfl az ?_;(with_reducible refine(impl_told.calls kj45 _ _ x11_45 t746 false _ ?side1 ?side2 A78.out).mono ?_);(case side1=>exact Kd.Cz (Kd.V_reads' HO_11.out).2.2);(case side2=>exact(Kd.V_reads' HO_11.out).2.1);rintro e w88 ⟨v748,rfl,ho0,hb⟩;refine⟨_,rfl,?_⟩;replace HO_10:=Sd.mk (Kd.N_elder' (Kd.Nz HO_10.out) (Kd.R_base ho0) hb);replace HO_11:=Sd.mk (Kd.V_elder' (Kd.Vz HO_11.out) (Kd.R_base ho0) hb);have HO749:=Sd.mk (Kd.R_lower (Kd.R_new' ho0 (Kd.R_lt (Kd.Rz HO745.out))) (below_size bz));replace HO745:=Sd.mk (Kd.R_elder' (Kd.Rz HO745.out) (Kd.R_base ho0) hb);replace HB:=Sd.mk (below_step bz hb);(try clear hb);(try clear hb2);(try clear hk);(try clear hi);(try clear ho0)));go_ret3;exact⟨_,_,by first|rfl|(simp[errW_none,errW_some]<;>rfl)|(simp[*,errW_none,errW_some]<;>rfl),by first|exact Kd.R_nil _ _ _ _ _|exact Kd.N_nil _ _ _ _ _|exact Kd.V_nil _ _ _ _ _|exact Kd.Q_nil _ _ _ _ _|exact Kd.S_nil _ _ _ _ _,by first|exact Kd.R_nil _ _ _ _ _|exact Kd.N_nil _ _ _ _ _|exact Kd.V_nil _ _ _ _ _|exact Kd.Q_nil _ _ _ _ _|exact Kd.S_nil _ _ _ _ _,bz⟩
          ·replace c79:=Bool.eq_false_iff.mpr c79
           subst c79
           have H1:(some (([]:List Int),([]:List Int),false))=some (r1,r2,r3):=by rw[if_neg (show ¬ (false=true) by decide)] at H;exact H
           clear H;have H:=H1;clear H1;simp only[Option.some.injEq,Prod.mk.injEq] at H;obtain⟨rfl,rfl,rfl⟩:=H;obtain⟨Ao89,co89,eo89⟩:=Kd.N_slice HO_10.out;subst eo89;go_wp2_with (first|((with_reducible refine gate_callee (f:=46) rfl ?_);refine goesL_ (some 119) rfl rfl Try.func46 (by kernel_rfl) rfl #[.slice Ao89 x10_45.length co89] rfl az ?_;(with_reducible refine(impl_told.calls kj45 _ _ x10_45 t742 false _ ?side1 ?side2 A77.out).mono ?_);(case side1=>exact Kd.Cz (Kd.N_reads' HO_10.out).2.2);(case side2=>exact(Kd.N_reads' HO_10.out).2.1);rintro e w90 ⟨v744,rfl,ho0,hb⟩;refine⟨_,rfl,?_⟩;replace HO_10:=Sd.mk (Kd.N_elder' (Kd.Nz HO_10.out) (Kd.R_base ho0) hb);replace HO_11:=Sd.mk (Kd.V_elder' (Kd.Vz HO_11.out) (Kd.R_base ho0) hb);have HO745:=Sd.mk (Kd.R_lower ho0 (below_size bz));replace HB:=Sd.mk (below_step bz hb);(try clear hb);(try clear hb2);(try clear hk);(try clear hi);(try clear ho0);obtain⟨Ao91,co91,eo91⟩:=Kd.V_slice HO_11.out;subst eo91)|((with_reducible refine gate_callee (f:=46) rfl ?_);refine goesL_ (some 124) rfl rfl Try.func46 (by kernel_rfl) rfl #[.slice Ao91 x11_45.length co91] rfl az ?_;(with_reducible refine(impl_told.calls kj45 _ _ x11_45 t746 t747 _ ?side1 ?side2 A78.out).mono ?_);(case side1=>exact Kd.Cz (Kd.V_reads' HO_11.out).2.2);(case side2=>exact(Kd.V_reads' HO_11.out).2.1);rintro e w92 ⟨v748,rfl,ho0,hb⟩;refine⟨_,rfl,?_⟩;replace HO_10:=Sd.mk (Kd.N_elder' (Kd.Nz HO_10.out) (Kd.R_base ho0) hb);replace HO_11:=Sd.mk (Kd.V_elder' (Kd.Vz HO_11.out) (Kd.R_base ho0) hb);have HO749:=Sd.mk (Kd.R_lower (Kd.R_new' ho0 (Kd.R_lt (Kd.Rz HO745.out))) (below_size bz));replace HO745:=Sd.mk (Kd.R_elder' (Kd.Rz HO745.out) (Kd.R_base ho0) hb);replace HB:=Sd.mk (below_step bz hb);(try clear hb);(try clear hb2);(try clear hk);(try clear hi);(try clear ho0)));go_ret3;exact⟨_,_,by first|rfl|(simp[errW_none,errW_some]<;>rfl)|(simp[*,errW_none,errW_some]<;>rfl),by first|exact Kd.R_nil _ _ _ _ _|exact Kd.N_nil _ _ _ _ _|exact Kd.V_nil _ _ _ _ _|exact Kd.Q_nil _ _ _ _ _|exact Kd.S_nil _ _ _ _ _,by first|exact Kd.R_nil _ _ _ _ _|exact Kd.N_nil _ _ _ _ _|exact Kd.V_nil _ _ _ _ _|exact Kd.Q_nil _ _ _ _ _|exact Kd.S_nil _ _ _ _ _,bz⟩
end Go.Proofs.Ytfblcanijhnhmaa.P