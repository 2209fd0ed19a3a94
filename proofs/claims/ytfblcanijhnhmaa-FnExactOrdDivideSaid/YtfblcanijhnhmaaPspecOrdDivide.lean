/- One Go function comes to what its Lean function tells. -/
import Derived.Test.YtfblcanijhnhmaaP0
import Derived.Test.YtfblcanijhnhmaaPspecOrdValid
import Derived.Test.YtfblcanijhnhmaaPspecl1Compare
import Derived.Test.YtfblcanijhnhmaaPspecl1Make
import Derived.Test.YtfblcanijhnhmaaPspecl1Same
import Derived.Test.YtfblcanijhnhmaaPspecl1Terms
import Derived.Test.YtfblcanijhnhmaaPspecl2Fit
import Derived.Test.YtfblcanijhnhmaaPspecl2Minus
import Derived.Test.YtfblcanijhnhmaaPspecl2Times
namespace Go.Proofs.Ytfblcanijhnhmaa.P
open Go.RowKit YtfblcanijhnhmaaW.PrintWords YtfblcanijhnhmaaW.PrintLast YtfblcanijhnhmaaW.PrintMore
set_option linter.unusedVariables false
set_option linter.unusedSimpArgs false
/-! ### spec_OrdDivide: function 29 -/
mutual
def spec_OrdDivide.j0:Nat→List Int→List Int→Bool→Option (List Int × List Int × Bool)
 | 0,_,_,_=>none
 | k+1,x0,x1,x32=>if x32=true then(some ((([]:List Int)),(([]:List Int)),false)) else((spec_l1Terms.f k x0).bind fun bt428=>((spec_l1Terms.f k x1).bind fun bt434=>(spec_OrdDivide.l0 k x1 bt428.1 bt428.2 bt434.1 bt434.2 (([]:List Int)) (([]:List (List Int))) 0)))
def spec_OrdDivide.j2:Nat→List Int→List Int→List (List Int)→List Int→List (List Int)→List Int→List (List Int)→Int→Option (List Int × List Int × Bool)
 | 0,_,_,_,_,_,_,_,_=>none
 | k+1,x1,x7,x8,x9,x10,x11,x12,x13=>if 0≤x13 then(if x13≤(x7.length:Int) then(if x13≤(x8.length:Int) then((spec_l1Make.f k (x7.drop (x13:Int).toNat) (x8.drop (x13:Int).toNat)).bind fun t471=>(if x13<(x7.length:Int) then(if x13<(x8.length:Int) then(if 0<(x10.length:Int) then((spec_l1Same.f k (rd_L1 x8 x13) (rd_L1 x10 0)).bind fun t476=>(spec_OrdDivide.j3 k x1 x7 x9 x11 x12 x13 t471 t476)) else(none)) else(none)) else(spec_OrdDivide.j3 k x1 x7 x9 x11 x12 x13 t471 false))) else(none)) else(none)) else(none)
def spec_OrdDivide.j3:Nat→List Int→List Int→List Int→List Int→List (List Int)→Int→List Int→Bool→Option (List Int × List Int × Bool)
 | 0,_,_,_,_,_,_,_,_=>none
 | k+1,x1,x7,x9,x11,x12,x13,x14,x102=>if x102=true then(if 0≤x13 then(if x13<(x7.length:Int) then(if 0<(x9.length:Int) then(if(rd x9 0)=0 then(none) else(if(wrap64 (Int.tdiv (rd x7 x13) (rd x9 0)))>0 then((spec_l2Times.f k x1 (([1,wrap64 (Int.tdiv (rd x7 x13) (rd x9 0)),0]:List Int))).bind fun t482=>((spec_l1Compare.f k t482 x14).bind fun t485=>(spec_OrdDivide.j4 k x1 x11 x12 x14 (wrap64 (Int.tdiv (rd x7 x13) (rd x9 0))) (decide (t485>0))))) else(spec_OrdDivide.j4 k x1 x11 x12 x14 (wrap64 (Int.tdiv (rd x7 x13) (rd x9 0))) false))) else(none)) else(none)) else(none)) else(spec_OrdDivide.j6 k x11 x12 x14)
def spec_OrdDivide.j6:Nat→List Int→List (List Int)→List Int→Option (List Int × List Int × Bool)
 | 0,_,_,_=>none
 | k+1,x11,x12,x14=>(spec_l1Make.f k x11 x12).bind fun t504=>((spec_l2Fit.f k t504).bind fun bt507=>((spec_l2Fit.f k x14).bind fun bt511=>(if bt507.2=true then(if bt511.2=true then(some (bt507.1,bt511.1,true)) else(some ((([]:List Int)),(([]:List Int)),false))) else(some ((([]:List Int)),(([]:List Int)),false)))))
def spec_OrdDivide.j4:Nat→List Int→List Int→List (List Int)→List Int→Int→Bool→Option (List Int × List Int × Bool)
 | 0,_,_,_,_,_,_=>none
 | k+1,x1,x11,x12,x14,x15,x121=>if x121=true then(spec_OrdDivide.j5 k x1 x11 x12 x14 (wrap64 (x15-1))) else(spec_OrdDivide.j5 k x1 x11 x12 x14 x15)
def spec_OrdDivide.j5:Nat→List Int→List Int→List (List Int)→List Int→Int→Option (List Int × List Int × Bool)
 | 0,_,_,_,_,_=>none
 | k+1,x1,x11,x12,x14,x15=>if x15>0 then(if x11.length<17592186044416 then(if x12.length<5864062014805 then((spec_l2Times.f k x1 (([1,x15,0]:List Int))).bind fun t498=>((spec_l2Minus.f k x14 t498).bind fun t501=>(spec_OrdDivide.j6 k (x11++[x15]) (x12++[(([0]:List Int))]) t501))) else(none)) else(none)) else(spec_OrdDivide.j6 k x11 x12 x14)
def spec_OrdDivide.l0:Nat→List Int→List Int→List (List Int)→List Int→List (List Int)→List Int→List (List Int)→Int→Option (List Int × List Int × Bool)
 | 0,_,_,_,_,_,_,_,_=>none
 | k+1,x1,x7,x8,x9,x10,x11,x12,x13=>if x13<(x7.length:Int) then(if 0≤x13 then(if x13<(x8.length:Int) then(if 0<(x10.length:Int) then((spec_l1Compare.f k (rd_L1 x8 x13) (rd_L1 x10 0)).bind fun t448=>(if t448>0 then(if x11.length<17592186044416 then((spec_l2Minus.f k (rd_L1 x8 x13) (rd_L1 x10 0)).bind fun t455=>(if x12.length<5864062014805 then(spec_OrdDivide.l0 k x1 x7 x8 x9 x10 (x11++[rd x7 x13]) (x12++[t455]) (wrap64 (x13+1))) else(none))) else(none)) else(spec_OrdDivide.j2 k x1 x7 x8 x9 x10 x11 x12 x13))) else(none)) else(none)) else(none)) else(spec_OrdDivide.j2 k x1 x7 x8 x9 x10 x11 x12 x13)
end
def spec_OrdDivide.f (k:Nat)(l0:List Int)(l1:List Int):Option (List Int × List Int × Bool):=(spec_OrdValid.f k l0).bind fun t420=>(if t420=true then((spec_OrdValid.f k l1).bind fun t421=>(if t421=true then(spec_OrdDivide.j0 k l0 l1 ((l1.length:Int) == 1)) else(spec_OrdDivide.j0 k l0 l1 true))) else(spec_OrdDivide.j0 k l0 l1 true))
theorem spec_OrdDivide.mono_l:∀ k,(∀ y0 y1 y2,LeO (spec_OrdDivide.j0 k y0 y1 y2) (spec_OrdDivide.j0 (k+1) y0 y1 y2))∧(∀ y0 y1 y2 y3 y4 y5 y6 y7,LeO (spec_OrdDivide.j2 k y0 y1 y2 y3 y4 y5 y6 y7) (spec_OrdDivide.j2 (k+1) y0 y1 y2 y3 y4 y5 y6 y7))∧(∀ y0 y1 y2 y3 y4 y5 y6 y7,LeO (spec_OrdDivide.j3 k y0 y1 y2 y3 y4 y5 y6 y7) (spec_OrdDivide.j3 (k+1) y0 y1 y2 y3 y4 y5 y6 y7))∧(∀ y0 y1 y2,LeO (spec_OrdDivide.j6 k y0 y1 y2) (spec_OrdDivide.j6 (k+1) y0 y1 y2))∧(∀ y0 y1 y2 y3 y4 y5,LeO (spec_OrdDivide.j4 k y0 y1 y2 y3 y4 y5) (spec_OrdDivide.j4 (k+1) y0 y1 y2 y3 y4 y5))∧(∀ y0 y1 y2 y3 y4,LeO (spec_OrdDivide.j5 k y0 y1 y2 y3 y4) (spec_OrdDivide.j5 (k+1) y0 y1 y2 y3 y4))∧(∀ y0 y1 y2 y3 y4 y5 y6 y7,LeO (spec_OrdDivide.l0 k y0 y1 y2 y3 y4 y5 y6 y7) (spec_OrdDivide.l0 (k+1) y0 y1 y2 y3 y4 y5 y6 y7))
 | 0=>⟨fun _ _ _ r h=>by simp[spec_OrdDivide.j0] at h,fun _ _ _ _ _ _ _ _ r h=>by simp[spec_OrdDivide.j2] at h,fun _ _ _ _ _ _ _ _ r h=>by simp[spec_OrdDivide.j3] at h,fun _ _ _ r h=>by simp[spec_OrdDivide.j6] at h,fun _ _ _ _ _ _ r h=>by simp[spec_OrdDivide.j4] at h,fun _ _ _ _ _ r h=>by simp[spec_OrdDivide.j5] at h,fun _ _ _ _ _ _ _ _ r h=>by simp[spec_OrdDivide.l0] at h⟩
 | k+1=>by
  obtain⟨ih0,ih1,ih2,ih3,ih4,ih5,ih6⟩:=spec_OrdDivide.mono_l k
  refine⟨?_,?_,?_,?_,?_,?_,?_⟩
  ·intro y0 y1 y2
   unfold spec_OrdDivide.j0
   repeat' first|(with_reducible first|exact ih0 _ _ _|exact ih6 _ _ _ _ _ _ _ _|exact spec_l1Terms.mono _ _|exact LeO.refl _|exact LeO.none _|refine LeO.ite ?_ ?_|refine LeO.bind ?_ (fun _=>?_))|exact ih0 _ _ _|exact ih6 _ _ _ _ _ _ _ _|exact spec_l1Terms.mono _ _|exact LeO.none _|refine LeO.ite ?_ ?_|refine LeO.bind ?_ (fun _=>?_)
  ·intro y0 y1 y2 y3 y4 y5 y6 y7
   unfold spec_OrdDivide.j2
   repeat' first|(with_reducible first|exact ih1 _ _ _ _ _ _ _ _|exact ih2 _ _ _ _ _ _ _ _|exact spec_l1Make.mono _ _ _|exact spec_l1Same.mono _ _ _|exact LeO.refl _|exact LeO.none _|refine LeO.ite ?_ ?_|refine LeO.bind ?_ (fun _=>?_))|exact ih1 _ _ _ _ _ _ _ _|exact ih2 _ _ _ _ _ _ _ _|exact spec_l1Make.mono _ _ _|exact spec_l1Same.mono _ _ _|exact LeO.none _|refine LeO.ite ?_ ?_|refine LeO.bind ?_ (fun _=>?_)
  ·intro y0 y1 y2 y3 y4 y5 y6 y7
   unfold spec_OrdDivide.j3
   repeat' first|(with_reducible first|exact ih2 _ _ _ _ _ _ _ _|exact ih3 _ _ _|exact ih4 _ _ _ _ _ _|exact spec_l1Compare.mono _ _ _|exact spec_l2Times.mono _ _ _|exact LeO.refl _|exact LeO.none _|refine LeO.ite ?_ ?_|refine LeO.bind ?_ (fun _=>?_))|exact ih2 _ _ _ _ _ _ _ _|exact ih3 _ _ _|exact ih4 _ _ _ _ _ _|exact spec_l1Compare.mono _ _ _|exact spec_l2Times.mono _ _ _|exact LeO.none _|refine LeO.ite ?_ ?_|refine LeO.bind ?_ (fun _=>?_)
  ·intro y0 y1 y2
   unfold spec_OrdDivide.j6
   repeat' first|(with_reducible first|exact ih3 _ _ _|exact spec_l1Make.mono _ _ _|exact spec_l2Fit.mono _ _|exact LeO.refl _|exact LeO.none _|refine LeO.ite ?_ ?_|refine LeO.bind ?_ (fun _=>?_))|exact ih3 _ _ _|exact spec_l1Make.mono _ _ _|exact spec_l2Fit.mono _ _|exact LeO.none _|refine LeO.ite ?_ ?_|refine LeO.bind ?_ (fun _=>?_)
  ·intro y0 y1 y2 y3 y4 y5
   unfold spec_OrdDivide.j4
   repeat' first|(with_reducible first|exact ih4 _ _ _ _ _ _|exact ih5 _ _ _ _ _|exact LeO.refl _|exact LeO.none _|refine LeO.ite ?_ ?_|refine LeO.bind ?_ (fun _=>?_))|exact ih4 _ _ _ _ _ _|exact ih5 _ _ _ _ _|exact LeO.none _|refine LeO.ite ?_ ?_|refine LeO.bind ?_ (fun _=>?_)
  ·intro y0 y1 y2 y3 y4
   unfold spec_OrdDivide.j5
   repeat' first|(with_reducible first|exact ih3 _ _ _|exact ih5 _ _ _ _ _|exact spec_l2Minus.mono _ _ _|exact spec_l2Times.mono _ _ _|exact LeO.refl _|exact LeO.none _|refine LeO.ite ?_ ?_|refine LeO.bind ?_ (fun _=>?_))|exact ih3 _ _ _|exact ih5 _ _ _ _ _|exact spec_l2Minus.mono _ _ _|exact spec_l2Times.mono _ _ _|exact LeO.none _|refine LeO.ite ?_ ?_|refine LeO.bind ?_ (fun _=>?_)
  ·intro y0 y1 y2 y3 y4 y5 y6 y7
   unfold spec_OrdDivide.l0
   repeat' first|(with_reducible first|exact ih1 _ _ _ _ _ _ _ _|exact ih6 _ _ _ _ _ _ _ _|exact spec_l1Compare.mono _ _ _|exact spec_l2Minus.mono _ _ _|exact LeO.refl _|exact LeO.none _|refine LeO.ite ?_ ?_|refine LeO.bind ?_ (fun _=>?_))|exact ih1 _ _ _ _ _ _ _ _|exact ih6 _ _ _ _ _ _ _ _|exact spec_l1Compare.mono _ _ _|exact spec_l2Minus.mono _ _ _|exact LeO.none _|refine LeO.ite ?_ ?_|refine LeO.bind ?_ (fun _=>?_)
theorem spec_OrdDivide.mono:∀ a0 a1 k,LeO (spec_OrdDivide.f k a0 a1) (spec_OrdDivide.f (k+1) a0 a1):=by
 intro a0 a1 k;obtain⟨ih0,ih1,ih2,ih3,ih4,ih5,ih6⟩:=spec_OrdDivide.mono_l k;unfold spec_OrdDivide.f
 repeat' first|(with_reducible first|exact ih0 _ _ _|exact ih1 _ _ _ _ _ _ _ _|exact ih2 _ _ _ _ _ _ _ _|exact ih3 _ _ _|exact ih4 _ _ _ _ _ _|exact ih5 _ _ _ _ _|exact ih6 _ _ _ _ _ _ _ _|exact spec_OrdValid.mono _ _|exact LeO.refl _|exact LeO.none _|refine LeO.ite ?_ ?_|refine LeO.bind ?_ (fun _=>?_))|exact ih0 _ _ _|exact ih1 _ _ _ _ _ _ _ _|exact ih2 _ _ _ _ _ _ _ _|exact ih3 _ _ _|exact ih4 _ _ _ _ _ _|exact ih5 _ _ _ _ _|exact ih6 _ _ _ _ _ _ _ _|exact spec_OrdValid.mono _ _|exact LeO.none _|refine LeO.ite ?_ ?_|refine LeO.bind ?_ (fun _=>?_)
def spec_OrdDivide.T8:Bool × List (List Nat × List Nat):=(true,[([],[]),([],[]),([1],[1]),([0,2],[0,2]),([3],[3]),([4],[4]),([4],[4]),([5,6,4],[4,5,6]),([7,4],[4,7]),([4],[4]),([9,4],[4,9]),([10,4],[4,10]),([8,11,4,4],[4,8,11]),([12,4],[4,12]),([4,13],[4,13])])
def spec_OrdDivide.B8:List Nat:=[0,0,2,7,15,31,31,127,255,31,543,1567,4095,8191,16383]
theorem spec_OrdDivide.tab8:rtab .any (opsOf Try.f29 8)=spec_OrdDivide.T8:=by kernel_rfl
theorem spec_OrdDivide.bits8:waitsOk spec_OrdDivide.T8.2 spec_OrdDivide.B8=true:=by kernel_rfl
def spec_OrdDivide.T10:Bool × List (List Nat × List Nat):=(true,[([],[]),([],[]),([],[]),([1,2],[1,2]),([3],[3]),([],[]),([5],[5]),([6],[6]),([4,7],[4,7]),([8],[8]),([0,9,8],[0,9]),([10,10,0,1,2,3,4,5,6,7,8,9,10],[0,10])])
def spec_OrdDivide.B10:List Nat:=[0,0,0,6,14,0,32,96,254,510,1023,2047]
theorem spec_OrdDivide.tab10:rtab .any (opsOf Try.f29 10)=spec_OrdDivide.T10:=by kernel_rfl
theorem spec_OrdDivide.bits10:waitsOk spec_OrdDivide.T10.2 spec_OrdDivide.B10=true:=by kernel_rfl
def spec_OrdDivide.T12:Bool × List (List Nat × List Nat):=(true,[([],[]),([],[]),([0,1],[0,1]),([],[]),([],[]),([3,4],[3,4]),([2,5],[2,5]),([6,6,0,1,2,3,4,5,6],[6])])
def spec_OrdDivide.B12:List Nat:=[0,0,3,0,0,24,63,127]
theorem spec_OrdDivide.tab12:rtab .any (opsOf Try.f29 12)=spec_OrdDivide.T12:=by kernel_rfl
theorem spec_OrdDivide.bits12:waitsOk spec_OrdDivide.T12.2 spec_OrdDivide.B12=true:=by kernel_rfl
def spec_OrdDivide.T13:Bool × List (List Nat × List Nat):=(true,[([],[]),([],[]),([1],[1]),([0,2],[0,2]),([3],[3]),([4],[4]),([4],[4]),([5,6,4],[4,5,6]),([7,4],[4,7]),([4],[4]),([9,4],[4,9]),([10,4],[4,10]),([8,11,4,4],[4,8,11]),([4,12],[4,12])])
def spec_OrdDivide.B13:List Nat:=[0,0,2,7,15,31,31,127,255,31,543,1567,4095,8191]
theorem spec_OrdDivide.tab13:rtab .any (opsOf Try.f29 13)=spec_OrdDivide.T13:=by kernel_rfl
theorem spec_OrdDivide.bits13:waitsOk spec_OrdDivide.T13.2 spec_OrdDivide.B13=true:=by kernel_rfl
def spec_OrdDivide.T14:Bool × List (List Nat × List Nat):=(true,[([],[]),([],[]),([0,1],[0,1]),([2],[2]),([],[]),([4],[4]),([5],[5]),([3,6],[3,6]),([7,0,1,2,3,4,5,6,7],[7])])
def spec_OrdDivide.B14:List Nat:=[0,0,3,7,0,16,48,127,255]
theorem spec_OrdDivide.tab14:rtab .any (opsOf Try.f29 14)=spec_OrdDivide.T14:=by kernel_rfl
theorem spec_OrdDivide.bits14:waitsOk spec_OrdDivide.T14.2 spec_OrdDivide.B14=true:=by kernel_rfl
set_option maxHeartbeats 8000000 in
set_option maxRecDepth 100000 in
theorem spec_OrdDivide.calls (k:Nat)(A0:Option Addr)(c0:Nat)(l0:List Int)(A1:Option Addr)(c1:Nat)(l1:List Int)(r1:List Int)(r2:List Int)(r3:Bool)(w:World)(hr0:Kd.C (Kd.int .i64) w A0 l0.length l0)(hc0:l0.length≤c0)(hr1:Kd.C (Kd.int .i64) w A1 l1.length l1)(hc1:l1.length≤c1)(h:spec_OrdDivide.f k l0 l1=some (r1,r2,r3)) :
  Calls Try.prog 29 #[.slice A0 l0.length c0,.slice A1 l1.length c1] w fun e w'=>∃ v0_ v1_:Value,e=.returned (.tuple #[v0_,v1_,.bool r3])∧Kd.R (Kd.int .i64) 3 w' w.heap.size (fun k_=>some k_≠(v1_:Value).ownBlock) v0_ r1∧Kd.R (Kd.int .i64) 3 w' w.heap.size (fun k_=>some k_≠(v0_:Value).ownBlock) v1_ r2∧Below w.heap.size w w':=by
 have HR0:=Sd.mk hr0;have HC0:=Sd.mk hc0;clear hr0 hc0;have HR1:=Sd.mk hr1;have HC1:=Sd.mk hc1;clear hr1 hc1;have HB:=Sd.mk (Below.refl w.heap.size w);have H:((spec_OrdValid.f k l0).bind fun t420=>(if t420=true then((spec_OrdValid.f k l1).bind fun t421=>(if t421=true then(spec_OrdDivide.j0 k l0 l1 ((l1.length:Int) == 1)) else(spec_OrdDivide.j0 k l0 l1 true))) else(spec_OrdDivide.j0 k l0 l1 true)))=some (r1,r2,r3):=h;clear h;have HC3:=Sd.mk H;clear H;go_enter Try.func29,Try.ntmps29
 go_upto_region 1 with (fail)
 go_cut [32] (fun v32 wc=>∃ (kq:Nat) (x32_2:Bool),v32=.bool x32_2∧Sd (spec_OrdDivide.j0 kq l0 l1 x32_2=some (r1,r2,r3))∧Sd (kq≤k)∧Sd (Below w.heap.size w wc))
 case first =>
  have H:=HC3.out;clear HC3;replace H:=Option.bind_eq_some_iff.mp H;obtain⟨t420,A40,H⟩:=H;replace H:(if t420=true then((spec_OrdValid.f k l1).bind fun t421=>(if t421=true then(spec_OrdDivide.j0 k l0 l1 ((l1.length:Int) == 1)) else(spec_OrdDivide.j0 k l0 l1 true))) else(spec_OrdDivide.j0 k l0 l1 true))=some (r1,r2,r3):=H;have A4:=Sd.mk A40;clear A40
  by_cases c5:t420=true
  ·subst c5
   have H1:((spec_OrdValid.f k l1).bind fun t421=>(if t421=true then(spec_OrdDivide.j0 k l0 l1 ((l1.length:Int) == 1)) else(spec_OrdDivide.j0 k l0 l1 true)))=some (r1,r2,r3):=by rw[if_pos rfl] at H;exact H
   clear H;have H:=H1;clear H1;replace H:=Option.bind_eq_some_iff.mp H;obtain⟨t421,A60,H⟩:=H;replace H:(if t421=true then(spec_OrdDivide.j0 k l0 l1 ((l1.length:Int) == 1)) else(spec_OrdDivide.j0 k l0 l1 true))=some (r1,r2,r3):=H;have A6:=Sd.mk A60;clear A60
   by_cases c7:t421=true
   ·subst c7
    have H1:(spec_OrdDivide.j0 k l0 l1 ((l1.length:Int) == 1))=some (r1,r2,r3):=by rw[if_pos rfl] at H;exact H
    clear H;have H:=H1;clear H1;have H':=Sd.mk H;clear H;go_wp2_with (first|((with_reducible refine gate_callee (f:=34) rfl ?_);refine goesL_ (some 21) rfl rfl Try.func34 (by kernel_rfl) rfl #[.slice A0 l0.length c0] rfl az ?_;(with_reducible refine(spec_OrdValid.calls k _ _ l0 true _ ?side1 ?side2 A4.out).mono ?_);(case side1=>exact Kd.Cz (Kd.C_below HR0.out HB.out));(case side2=>exact HC0.out);rintro e w8 ⟨rfl,hb⟩;refine⟨_,rfl,?_⟩;replace HB:=Sd.mk (below_step bz hb);(try clear hb);(try clear hb2);(try clear hk);(try clear hi))|(go_at_call 34;(with_reducible refine(spec_OrdValid.calls k _ _ l1 true _ ?side1 ?side2 A6.out).mono ?_);(case side1=>exact Kd.Cz (Kd.C_below HR1.out HB.out));(case side2=>exact HC1.out);rintro e w9 ⟨rfl,hb⟩;replace HB:=Sd.mk (below_step bz hb);(try clear hb);(try clear hb2);(try clear hk);(try clear hi)));go_meet
    case rel=>exact⟨_,(((l1.length:Int) == 1)),(by first|rfl|(simp;done)|(simp[*];done)),H',⟨by first|omega|exact Nat.le_refl _⟩,⟨bz⟩⟩
   ·replace c7:=Bool.eq_false_iff.mpr c7
    subst c7
    have H1:(spec_OrdDivide.j0 k l0 l1 true)=some (r1,r2,r3):=by rw[if_neg (show ¬ (false=true) by decide)] at H;exact H
    clear H;have H:=H1;clear H1;have H':=Sd.mk H;clear H;go_wp2_with (first|((with_reducible refine gate_callee (f:=34) rfl ?_);refine goesL_ (some 21) rfl rfl Try.func34 (by kernel_rfl) rfl #[.slice A0 l0.length c0] rfl az ?_;(with_reducible refine(spec_OrdValid.calls k _ _ l0 true _ ?side1 ?side2 A4.out).mono ?_);(case side1=>exact Kd.Cz (Kd.C_below HR0.out HB.out));(case side2=>exact HC0.out);rintro e w10 ⟨rfl,hb⟩;refine⟨_,rfl,?_⟩;replace HB:=Sd.mk (below_step bz hb);(try clear hb);(try clear hb2);(try clear hk);(try clear hi))|(go_at_call 34;(with_reducible refine(spec_OrdValid.calls k _ _ l1 false _ ?side1 ?side2 A6.out).mono ?_);(case side1=>exact Kd.Cz (Kd.C_below HR1.out HB.out));(case side2=>exact HC1.out);rintro e w11 ⟨rfl,hb⟩;replace HB:=Sd.mk (below_step bz hb);(try clear hb);(try clear hb2);(try clear hk);(try clear hi)));go_meet
    case rel=>exact⟨_,(true),(by first|rfl|(simp;done)|(simp[*];done)),H',⟨by first|omega|exact Nat.le_refl _⟩,⟨bz⟩⟩
  ·replace c5:=Bool.eq_false_iff.mpr c5
   subst c5
   have H1:(spec_OrdDivide.j0 k l0 l1 true)=some (r1,r2,r3):=by rw[if_neg (show ¬ (false=true) by decide)] at H;exact H
   clear H;have H:=H1;clear H1;have H':=Sd.mk H;clear H;go_wp2_with (first|((with_reducible refine gate_callee (f:=34) rfl ?_);refine goesL_ (some 21) rfl rfl Try.func34 (by kernel_rfl) rfl #[.slice A0 l0.length c0] rfl az ?_;(with_reducible refine(spec_OrdValid.calls k _ _ l0 false _ ?side1 ?side2 A4.out).mono ?_);(case side1=>exact Kd.Cz (Kd.C_below HR0.out HB.out));(case side2=>exact HC0.out);rintro e w12 ⟨rfl,hb⟩;refine⟨_,rfl,?_⟩;replace HB:=Sd.mk (below_step bz hb);(try clear hb);(try clear hb2);(try clear hk);(try clear hi)));go_meet
   case rel=>exact⟨_,(true),(by first|rfl|(simp;done)|(simp[*];done)),H',⟨by first|omega|exact Nat.le_refl _⟩,⟨bz⟩⟩
 case rest =>
  clear HC3
  try clear c1
  try clear c2
  try clear p2
  try clear c3
  try clear c5
  try clear c7
  obtain⟨kq,x32_2,rfl,HA,HJ2,HB⟩:=hcut
  cases kq with
  | zero=>exact absurd HA.out (by simp[spec_OrdDivide.j0])
  | succ kj2 =>
   have H:=HA.out;clear HA;simp only[spec_OrdDivide.j0] at H
   by_cases c13:x32_2=true
   ·subst c13
    have H1:(some ((([]:List Int)),(([]:List Int)),false))=some (r1,r2,r3):=by rw[if_pos rfl] at H;exact H
    clear H;have H:=H1;clear H1;obtain⟨y422,hy422⟩:∃ y_:List Int,y_=(([]:List Int)):=⟨_,rfl⟩;replace H:(some (y422,(([]:List Int)),false))=some (r1,r2,r3):=hz hy422 H;have Ny422:=Sd.mk hy422;clear hy422;obtain⟨y425,hy425⟩:∃ y_:List Int,y_=(([]:List Int)):=⟨_,rfl⟩;replace H:(some (y422,y425,false))=some (r1,r2,r3):=hz hy425 H;have Ny425:=Sd.mk hy425;clear hy425;simp only[Option.some.injEq,Prod.mk.injEq] at H;obtain⟨rfl,rfl,rfl⟩:=H;go_wp2_with (first|((with_reducible refine gate_dst (N:=33) rfl ?_);refine Kd.R_lit (Kd.int .i64) _ 3 ?hg (N:=33) ?hd (xs:=([]:List Int)) (inner:=[]) (ok:=fun _=>True) (okp:=fun _=>True) ?hr ?hp (fun _ hk=>hk) trivial (Below.refl _ _) (Nat.le_refl _) (by simp) ?_;(case hd=>rfl);(case hg=>rfl);(case hr=>first|(go_simp;done)|(go_simp;rfl));(case hp=>exact(Reps.none _ _));intro v423 w14 ho15 hb hg_ hnew_;clear hg_ hnew_;(first|rw[← Ny422.out] at ho15|(simp only[Int.reduceToNat] at ho15;rw[← Ny422.out] at ho15));have HO424:=Sd.mk (Kd.R_lower ho15 (below_size bz));replace HB:=Sd.mk (below_step bz hb);clear hb ho15)|((with_reducible refine gate_dst (N:=34) rfl ?_);refine Kd.R_lit (Kd.int .i64) _ 3 ?hg (N:=34) ?hd (xs:=([]:List Int)) (inner:=[]) (ok:=fun _=>True) (okp:=fun _=>True) ?hr ?hp (fun _ hk=>hk) trivial (Below.refl _ _) (Nat.le_refl _) (by simp) ?_;(case hd=>rfl);(case hg=>rfl);(case hr=>first|(go_simp;done)|(go_simp;rfl));(case hp=>exact(Reps.none _ _));intro v426 w16 ho17 hb hg_ hnew_;clear hg_ hnew_;(first|rw[← Ny425.out] at ho17|(simp only[Int.reduceToNat] at ho17;rw[← Ny425.out] at ho17));have HO427:=Sd.mk (Kd.R_lower (Kd.R_new' ho17 (Kd.R_lt (Kd.Rz HO424.out))) (below_size bz));replace HO424:=Sd.mk (Kd.R_elder' (Kd.Rz HO424.out) (Kd.R_base ho17) hb);replace HB:=Sd.mk (below_step bz hb);clear hb ho17));go_ret3;exact⟨_,_,by first|rfl|(simp[errW_none,errW_some]<;>rfl)|(simp[*,errW_none,errW_some]<;>rfl),Kd.Rz <| Kd.R_mono HO424.out (fun _ hk=>hk.2),Kd.Rz <| Kd.R_mono HO427.out (fun _ hk=>hk.2),bz⟩
   ·replace c13:=Bool.eq_false_iff.mpr c13
    subst c13
    have H1:((spec_l1Terms.f kj2 l0).bind fun bt428=>((spec_l1Terms.f kj2 l1).bind fun bt434=>(spec_OrdDivide.l0 kj2 l1 bt428.1 bt428.2 bt434.1 bt434.2 (([]:List Int)) (([]:List (List Int))) 0)))=some (r1,r2,r3):=by rw[if_neg (show ¬ (false=true) by decide)] at H;exact H
    clear H;have H:=H1;clear H1;replace H:=Option.bind_eq_some_iff.mp H;obtain⟨⟨t428,t431⟩,A180,H⟩:=H;replace H:((spec_l1Terms.f kj2 l1).bind fun bt434=>(spec_OrdDivide.l0 kj2 l1 t428 t431 bt434.1 bt434.2 (([]:List Int)) (([]:List (List Int))) 0))=some (r1,r2,r3):=H;have A18:=Sd.mk A180;clear A180;replace H:=Option.bind_eq_some_iff.mp H;obtain⟨⟨t434,t437⟩,A190,H⟩:=H;replace H:(spec_OrdDivide.l0 kj2 l1 t428 t431 t434 t437 (([]:List Int)) (([]:List (List Int))) 0)=some (r1,r2,r3):=H;have A19:=Sd.mk A190;clear A190;obtain⟨y440,hy440⟩:∃ y_:List Int,y_=(([]:List Int)):=⟨_,rfl⟩;replace H:(spec_OrdDivide.l0 kj2 l1 t428 t431 t434 t437 y440 (([]:List (List Int))) 0)=some (r1,r2,r3):=hz hy440 H;have Ny440:=Sd.mk hy440;clear hy440;obtain⟨y443,hy443⟩:∃ y_:List (List Int),y_=(([]:List (List Int))):=⟨_,rfl⟩;replace H:(spec_OrdDivide.l0 kj2 l1 t428 t431 t434 t437 y440 y443 0)=some (r1,r2,r3):=hz hy443 H;have Ny443:=Sd.mk hy443;clear hy443;have HC20:=Sd.mk H;clear H
    go_upto_block 0 with (first|((with_reducible refine gate_callee (f:=52) rfl ?_);refine goesL_ (some 37) rfl rfl Try.func52 (by kernel_rfl) rfl #[.slice A0 l0.length c0] rfl az ?_;(with_reducible refine(spec_l1Terms.calls kj2 (fun k_=>k_<w.heap.size) _ _ l0 t428 t431 _ ?side1 A18.out).mono ?_);(case side1=>exact Kd.V_mk HC0.out (Kd.F_below (Kd.C_F (Kd.heap_int .i64) HR0.out) bz));rintro e w21 ⟨v429,v432,rfl,ho0,ho1,hb⟩;refine⟨_,rfl,?_⟩;have HO430:=Sd.mk (Kd.R_lower (Kd.R_mono (ok':=fun k_=>True) ho0 (fun _ hk_=>trivial)) (below_size bz));have HO433:=Sd.mk (Kd.N_lower (Kd.N_mono (ok':=fun k_=>some k_≠(v429:Value).ownBlock) ho1 (fun k_ hk_=>hk_.2)) (below_size bz));replace HB:=Sd.mk (below_step bz hb);(try clear hb);(try clear hb2);(try clear hk);(try clear hi);(try clear ho0);(try clear ho1))|((with_reducible refine gate_callee (f:=52) rfl ?_);refine goesL_ (some 42) rfl rfl Try.func52 (by kernel_rfl) rfl #[.slice A1 l1.length c1] rfl az ?_;(with_reducible refine(spec_l1Terms.calls kj2 (fun k_=>k_<w.heap.size) _ _ l1 t434 t437 _ ?side1 A19.out).mono ?_);(case side1=>exact Kd.V_mk HC1.out (Kd.F_below (Kd.C_F (Kd.heap_int .i64) HR1.out) bz));rintro e w22 ⟨v435,v438,rfl,ho0,ho1,hb⟩;refine⟨_,rfl,?_⟩;have HO436:=Sd.mk (Kd.R_lower (Kd.R_new' (Kd.R_mono (ok':=fun k_=>True) ho0 (fun _ hk_=>trivial)) (Kd.R_lt (Kd.Rz HO430.out))) (below_size bz));have HO439:=Sd.mk (Kd.N_lower (Kd.N_mono (ok':=fun k_=>some k_≠(v435:Value).ownBlock∧some k_≠(v429:Value).ownBlock∧some k_≠(v432:Value).ownBlock) ho1 (fun k_ hk_=>⟨hk_.2,Or.elim hk_.1 (fun hs_=>fun e_=>Nat.not_le.2 hs_ (Kd.R_base HO430.out k_ e_.symm)) (fun hn_=>(Kd.fresh' (Kd.R_lt (Kd.Rz HO430.out)) k_ hn_)),Or.elim hk_.1 (fun hs_=>fun e_=>Nat.not_le.2 hs_ (Kd.N_base HO433.out k_ e_.symm)) (fun hn_=>(Kd.fresh' (Kd.N_lt (Kd.Nz HO433.out)) k_ hn_))⟩)) (below_size bz));replace HO430:=Sd.mk (Kd.R_elder' (Kd.Rz HO430.out) (Kd.R_base ho0) hb);replace HO433:=Sd.mk (Kd.N_mono (Kd.N_told (Kd.N_told (Kd.N_old (Kd.Nz HO433.out) hb) (Kd.R_base ho0)) (Kd.N_base ho1)) (fun _ h_=>h_.1));replace HB:=Sd.mk (below_step bz hb);(try clear hb);(try clear hb2);(try clear hk);(try clear hi);(try clear ho0);(try clear ho1))|((with_reducible refine gate_dst (N:=45) rfl ?_);refine Kd.R_lit (Kd.int .i64) _ 3 ?hg (N:=45) ?hd (xs:=([]:List Int)) (inner:=[]) (ok:=fun _=>True) (okp:=fun _=>True) ?hr ?hp (fun _ hk=>hk) trivial (Below.refl _ _) (Nat.le_refl _) (by simp) ?_;(case hd=>rfl);(case hg=>rfl);(case hr=>first|(go_simp;done)|(go_simp;rfl));(case hp=>exact(Reps.none _ _));intro v441 w23 ho24 hb hg_ hnew_;clear hg_ hnew_;(first|rw[← Ny440.out] at ho24|(simp only[Int.reduceToNat] at ho24;rw[← Ny440.out] at ho24));replace HO433:=Sd.mk (Kd.N_elder' (Kd.Nz HO433.out) (Kd.R_base ho24) hb);replace HO439:=Sd.mk (Kd.N_elder' (Kd.Nz HO439.out) (Kd.R_base ho24) hb);have HO442:=Sd.mk (Kd.R_lower (Kd.R_new' (Kd.R_new' ho24 (Kd.R_lt (Kd.Rz HO430.out))) (Kd.R_lt (Kd.Rz HO436.out))) (below_size bz));replace HO430:=Sd.mk (Kd.R_elder' (Kd.Rz HO430.out) (Kd.R_base ho24) hb);replace HO436:=Sd.mk (Kd.R_elder' (Kd.Rz HO436.out) (Kd.R_base ho24) hb);replace HB:=Sd.mk (below_step bz hb);clear hb ho24)|((with_reducible refine gate_dst (N:=46) rfl ?_);refine Kd.N_lit (Kd.slice 3 (Kd.int .i64)) _ 22 ?hg (N':=46) ?hd (xs:=([]:List (List Int))) (inner:=[]) (ok:=(fun k_=>some k_≠(v429:Value).ownBlock∧some k_≠(v432:Value).ownBlock∧some k_≠(v435:Value).ownBlock∧some k_≠(v438:Value).ownBlock∧some k_≠(v441:Value).ownBlock)) (okp:=(fun k_=>some k_≠(v429:Value).ownBlock∧some k_≠(v432:Value).ownBlock∧some k_≠(v435:Value).ownBlock∧some k_≠(v438:Value).ownBlock∧some k_≠(v441:Value).ownBlock)) ?hr ?hp (fun _ hk=>hk) ((show ∀ k_,w23.heap.size≤k_→(fun k_=>some k_≠(v429:Value).ownBlock∧some k_≠(v432:Value).ownBlock∧some k_≠(v435:Value).ownBlock∧some k_≠(v438:Value).ownBlock∧some k_≠(v441:Value).ownBlock) k_ from fun k_ hk=>⟨Kd.fresh' (Kd.R_lt (Kd.Rz HO430.out)) k_ hk,Kd.fresh' (Kd.N_lt (Kd.Nz HO433.out)) k_ hk,Kd.fresh' (Kd.R_lt (Kd.Rz HO436.out)) k_ hk,Kd.fresh' (Kd.N_lt (Kd.Nz HO439.out)) k_ hk,Kd.fresh' (Kd.R_lt (Kd.Rz HO442.out)) k_ hk⟩) _ (Nat.le_refl _)) (Below.refl _ _) (Nat.le_refl _) (by simp) ?_;(case hd=>rfl);(case hg=>rfl);(case hr=>first|(go_simp;done)|(go_simp;rfl));(case hp=>exact(Reps.none _ _));intro v444 w25 ho26 hb hg_ hnew_;clear hg_ hnew_;(first|rw[← Ny443.out] at ho26|(simp only[Int.reduceToNat] at ho26;rw[← Ny443.out] at ho26));replace HO430:=Sd.mk (Kd.R_below (Kd.Rz HO430.out) hb);replace HO433:=Sd.mk (Kd.N_elder' (Kd.Nz HO433.out) (Kd.N_base ho26) hb);replace HO436:=Sd.mk (Kd.R_below (Kd.Rz HO436.out) hb);replace HO439:=Sd.mk (Kd.N_elder' (Kd.Nz HO439.out) (Kd.N_base ho26) hb);replace HO442:=Sd.mk (Kd.R_below (Kd.Rz HO442.out) hb);have HO445:=Sd.mk (Kd.N_lower ho26 (below_size bz));replace HB:=Sd.mk (below_step bz hb);clear hb ho26))
    (try simp only[Act.put,List.setIfInBounds_toArray,List.set_cons_zero,List.set_cons_succ])
    go_cut [11,12,13] (fun v11 v12 v13 wc=>∃ (kq:Nat) (x11_19:List Int) (x12_19:List (List Int)) (x13_19:Int),v13=.int .i64 x13_19∧Sd (spec_OrdDivide.j2 kq l1 t428 t431 t434 t437 x11_19 x12_19 x13_19=some (r1,r2,r3))∧Sd (kq≤kj2)∧Sd (Kd.R (Kd.int .i64) 3 wc w.heap.size (fun k_=>some k_≠(v435:Value).ownBlock∧some k_≠(v11:Value).ownBlock) v429 t428)∧Sd (Kd.N (Kd.slice 3 (Kd.int .i64)) 22 wc w.heap.size (fun k_=>some k_≠(v429:Value).ownBlock∧some k_≠(v435:Value).ownBlock∧some k_≠(v438:Value).ownBlock∧some k_≠(v11:Value).ownBlock∧some k_≠(v12:Value).ownBlock) v432 t431)∧Sd (Kd.R (Kd.int .i64) 3 wc w.heap.size (fun k_=>some k_≠(v429:Value).ownBlock∧some k_≠(v11:Value).ownBlock) v435 t434)∧Sd (Kd.N (Kd.slice 3 (Kd.int .i64)) 22 wc w.heap.size (fun k_=>some k_≠(v429:Value).ownBlock∧some k_≠(v432:Value).ownBlock∧some k_≠(v435:Value).ownBlock∧some k_≠(v11:Value).ownBlock∧some k_≠(v12:Value).ownBlock) v438 t437)∧Sd (Kd.R (Kd.int .i64) 3 wc w.heap.size (fun k_=>some k_≠(v429:Value).ownBlock∧some k_≠(v435:Value).ownBlock) v11 x11_19)∧Sd (Kd.N (Kd.slice 3 (Kd.int .i64)) 22 wc w.heap.size (fun k_=>some k_≠(v429:Value).ownBlock∧some k_≠(v432:Value).ownBlock∧some k_≠(v435:Value).ownBlock∧some k_≠(v438:Value).ownBlock∧some k_≠(v11:Value).ownBlock) v12 x12_19)∧Sd (Below w.heap.size w wc))
    case first =>
     have H:=HC20.out;clear HC20;have H':=Sd.mk H;clear H;go_wp2
     go_loopg [11,12,13] kj2 (fun kq v11 v12 v13 w'=>∃ (x11_2:List Int) (x12_2:List (List Int)) (x13_2:Int),v13=.int .i64 x13_2∧Sd (spec_OrdDivide.l0 kq l1 t428 t431 t434 t437 x11_2 x12_2 x13_2=some (r1,r2,r3))∧Sd (kq≤kj2)∧Sd (Kd.R (Kd.int .i64) 3 w' w.heap.size (fun k_=>some k_≠(v435:Value).ownBlock∧some k_≠(v11:Value).ownBlock) v429 t428)∧Sd (Kd.N (Kd.slice 3 (Kd.int .i64)) 22 w' w.heap.size (fun k_=>some k_≠(v429:Value).ownBlock∧some k_≠(v435:Value).ownBlock∧some k_≠(v438:Value).ownBlock∧some k_≠(v11:Value).ownBlock∧some k_≠(v12:Value).ownBlock) v432 t431)∧Sd (Kd.R (Kd.int .i64) 3 w' w.heap.size (fun k_=>some k_≠(v429:Value).ownBlock∧some k_≠(v11:Value).ownBlock) v435 t434)∧Sd (Kd.N (Kd.slice 3 (Kd.int .i64)) 22 w' w.heap.size (fun k_=>some k_≠(v429:Value).ownBlock∧some k_≠(v432:Value).ownBlock∧some k_≠(v435:Value).ownBlock∧some k_≠(v11:Value).ownBlock∧some k_≠(v12:Value).ownBlock) v438 t437)∧Sd (Kd.R (Kd.int .i64) 3 w' w.heap.size (fun k_=>some k_≠(v429:Value).ownBlock∧some k_≠(v435:Value).ownBlock) v11 x11_2)∧Sd (Kd.N (Kd.slice 3 (Kd.int .i64)) 22 w' w.heap.size (fun k_=>some k_≠(v429:Value).ownBlock∧some k_≠(v432:Value).ownBlock∧some k_≠(v435:Value).ownBlock∧some k_≠(v438:Value).ownBlock∧some k_≠(v11:Value).ownBlock) v12 x12_2)∧Sd (Below w.heap.size w w'))
     case atStart=>exact⟨(y440),(y443),(0),(by first|rfl|(simp;done)|(simp[*];done)),H',⟨Nat.le_refl _⟩,⟨Kd.Rz <| Kd.R_mono HO430.out (fun _ hk=>⟨hk.1.2,hk.2⟩)⟩,⟨Kd.Nz <| Kd.N_mono HO433.out (fun _ hk=>⟨hk.1.1.1.1,⟨hk.1.1.1.2,⟨hk.1.1.2,⟨hk.1.2,hk.2⟩⟩⟩⟩)⟩,⟨Kd.Rz <| Kd.R_mono HO436.out (fun _ hk=>⟨hk.1.2,hk.2⟩)⟩,⟨Kd.Nz <| Kd.N_mono HO439.out (fun _ hk=>⟨hk.1.1.2.1,⟨hk.1.1.2.2,⟨hk.1.1.1,⟨hk.1.2,hk.2⟩⟩⟩⟩)⟩,⟨Kd.Rz <| Kd.R_mono HO442.out (fun _ hk=>⟨hk.1.2,hk.2⟩)⟩,⟨by(with_reducible repeat (first|apply Kd.N_alloc|apply Kd.N_drewN|apply Kd.N_drew));exact HO445.out⟩,⟨bz⟩⟩
     case round =>
      clear H'
      try clear c1
      try clear c2
      try clear p2
      try clear c3
      try clear c5
      try clear c7
      try clear c13
      try clear p2
      obtain⟨x11_2,x12_2,x13_2,rfl,HA,HK2,HO_7,HO_8,HO_9,HO_10,HO_11,HO_12,HB⟩:=hrel
      cases gk with
      | zero=>exact absurd HA.out (by simp[spec_OrdDivide.l0])
      | succ k2 =>
       have H:=HA.out;clear HA;simp only[spec_OrdDivide.l0] at H
       by_cases c27:x13_2<(t428.length:Int)
       ·rw[if_pos c27] at H
        have c27b0:decide (x13_2<(t428.length:Int))=true:=decide_eq_true c27;clear c27
        (first|rw[c27b0]|(simp only[i64_w,i32_w];rw[c27b0])|skip)
        by_cases c28:0≤x13_2
        ·rw[if_pos c28] at H
         have c28b0:decide (0≤x13_2)=true:=decide_eq_true c28;clear c28
         by_cases c29:x13_2<(t431.length:Int)
         ·rw[if_pos c29] at H
          have c29b0:decide (x13_2<(t431.length:Int))=true:=decide_eq_true c29;clear c29
          by_cases c30:0<(t437.length:Int)
          ·rw[if_pos c30] at H
           have c30b0:decide (0<(t437.length:Int))=true:=decide_eq_true c30;have c30b1:decide (0<t437.length)=true:=decide_eq_true (by omega);clear c30;replace H:=Option.bind_eq_some_iff.mp H;obtain⟨t448,A310,H⟩:=H;replace H:(if t448>0 then(if x11_2.length<17592186044416 then((spec_l2Minus.f k2 (rd_L1 t431 x13_2) (rd_L1 t437 0)).bind fun t455=>(if x12_2.length<5864062014805 then(spec_OrdDivide.l0 k2 l1 t428 t431 t434 t437 (x11_2++[rd t428 x13_2]) (x12_2++[t455]) (wrap64 (x13_2+1))) else(none))) else(none)) else(spec_OrdDivide.j2 k2 l1 t428 t431 t434 t437 x11_2 x12_2 x13_2))=some (r1,r2,r3):=H;have A31:=Sd.mk A310;clear A310
           by_cases c32:t448>0
           ·rw[if_pos c32] at H
            have c32b0:decide (0<t448)=true:=decide_eq_true c32;clear c32
            by_cases c33:x11_2.length<17592186044416
            ·rw[if_pos c33] at H
             have LMc33:=Sd.mk c33;clear c33;obtain⟨y450,hy450⟩:∃ y_:List Int,y_=(x11_2++[rd t428 x13_2]):=⟨_,rfl⟩;replace H:((spec_l2Minus.f k2 (rd_L1 t431 x13_2) (rd_L1 t437 0)).bind fun t455=>(if x12_2.length<5864062014805 then(spec_OrdDivide.l0 k2 l1 t428 t431 t434 t437 y450 (x12_2++[t455]) (wrap64 (x13_2+1))) else(none)))=some (r1,r2,r3):=hz hy450 H;have Ny450:=Sd.mk hy450;clear hy450;replace H:=Option.bind_eq_some_iff.mp H;obtain⟨t455,A340,H⟩:=H;replace H:(if x12_2.length<5864062014805 then(spec_OrdDivide.l0 k2 l1 t428 t431 t434 t437 y450 (x12_2++[t455]) (wrap64 (x13_2+1))) else(none))=some (r1,r2,r3):=H;have A34:=Sd.mk A340;clear A340
             by_cases c35:x12_2.length<5864062014805
             ·rw[if_pos c35] at H
              have LMc35:=Sd.mk c35;clear c35;obtain⟨y458,hy458⟩:∃ y_:List (List Int),y_=(x12_2++[t455]):=⟨_,rfl⟩;replace H:(spec_OrdDivide.l0 k2 l1 t428 t431 t434 t437 y450 y458 (wrap64 (x13_2+1)))=some (r1,r2,r3):=hz hy458 H;have Ny458:=Sd.mk hy458;clear hy458;have H':=Sd.mk H;clear H
              try go_wp2
              have n0_:=Sd.mk (Kd.R_drew HO_7.out);have n1_:=Sd.mk (Kd.N_drew HO_8.out);have n2_:=Sd.mk (Kd.R_drew HO_9.out);have n3_:=Sd.mk (Kd.N_drew HO_10.out);have n4_:=Sd.mk (Kd.R_drew HO_11.out);have n5_:=Sd.mk (Kd.N_drew HO_12.out);have n6_:=Sd.mk (below_drew1 HB.out);clear HO_7;clear HO_8;clear HO_9;clear HO_10;clear HO_11;clear HO_12;clear HB;have HO_7:=n0_;have HO_8:=n1_;have HO_9:=n2_;have HO_10:=n3_;have HO_11:=n4_;have HO_12:=n5_;have HB:=n6_;clear n0_ n1_ n2_ n3_ n4_ n5_ n6_;obtain⟨Ao37,co37,eo37⟩:=Kd.R_slice HO_7.out
              (first|subst eo37|(injection eo37 with f1_ f2_ f3_;have f4_:=f1_.symm;have f5_:=f3_.symm;clear f1_ f2_ f3_;subst f4_;subst f5_))
              obtain⟨Ao38,co38,eo38⟩:=Kd.N_slice HO_8.out
              (first|subst eo38|(injection eo38 with f1_ f2_ f3_;have f4_:=f1_.symm;have f5_:=f3_.symm;clear f1_ f2_ f3_;subst f4_;subst f5_))
              have p446:0≤(x13_2:Int):=dz;have q446:x13_2<(t431.length:Int):=dz;obtain⟨ad446,A446_0,c446_0,e446,hx446_0,hl446_0,hi446_0⟩:=at_L1 (Kd.N_reads' HO_8.out).2.2 x13_2 p446 q446;cases e446;obtain⟨ce446,hce446,hMe446,hcc446⟩:=Kd.N_get HO_8.out [] x13_2 p446 (by first|exact q446|exact dz|(have e_:=(Kd.N_reads' HO_8.out).1;omega));obtain⟨ua446_0,uc446_0,rfl,ul446_0,ge446_0⟩:=Kd.FK_slice_open hMe446;have hv446_0:=hcc446 0 _ rfl;rw[Nat.add_zero,show ((Kd.slice 3 (Kd.int .i64))).sz=1 from rfl,Nat.mul_one] at hv446_0;replace hv446_0:=Option.some.inj (hv446_0.symm.trans hx446_0)
              injection hv446_0 with hva_ hvn_ hvc_
              rw[hva_] at ge446_0;rw[hvc_] at ul446_0;have HL446_0:=Sd.mk (show Kd.V (Kd.int .i64) 3 _ w.heap.size _ _ (rd_L1 t431 x13_2) from Kd.V_mk ul446_0 ge446_0);clear hva_ hvn_ hvc_ ge446_0 ul446_0;clear hcc446 hce446;have HR446_0:=Sd.mk hi446_0;have HC446_0:=Sd.mk hl446_0;clear hi446_0 hl446_0;replace p446:=eq_true p446;replace q446:=eq_true q446;obtain⟨Ao39,co39,eo39⟩:=Kd.N_slice HO_10.out
              (first|subst eo39|(injection eo39 with f1_ f2_ f3_;have f4_:=f1_.symm;have f5_:=f3_.symm;clear f1_ f2_ f3_;subst f4_;subst f5_))
              have p447:0≤(0:Int):=(by omega);have q447:0<(t437.length:Int):=dz;obtain⟨ad447,A447_0,c447_0,e447,hx447_0,hl447_0,hi447_0⟩:=at_L1 (Kd.N_reads' HO_10.out).2.2 0 p447 q447;cases e447;obtain⟨ce447,hce447,hMe447,hcc447⟩:=Kd.N_get HO_10.out [] 0 p447 (by first|exact q447|exact dz|(have e_:=(Kd.N_reads' HO_10.out).1;omega));obtain⟨ua447_0,uc447_0,rfl,ul447_0,ge447_0⟩:=Kd.FK_slice_open hMe447;have hv447_0:=hcc447 0 _ rfl;rw[Nat.add_zero,show ((Kd.slice 3 (Kd.int .i64))).sz=1 from rfl,Nat.mul_one] at hv447_0;replace hv447_0:=Option.some.inj (hv447_0.symm.trans hx447_0)
              injection hv447_0 with hva_ hvn_ hvc_
              rw[hva_] at ge447_0;rw[hvc_] at ul447_0;have HL447_0:=Sd.mk (show Kd.V (Kd.int .i64) 3 _ w.heap.size _ _ (rd_L1 t437 0) from Kd.V_mk ul447_0 ge447_0);clear hva_ hvn_ hvc_ ge447_0 ul447_0;clear hcc447 hce447;have qi447:(0<t437.length)=True:=eq_true (by omega)
              (try rw[show ((0:Int)).toNat=0 from rfl] at hx447_0)
              (try rw[Addr.add_zero'] at hx447_0)
              have HR447_0:=Sd.mk hi447_0;have HC447_0:=Sd.mk hl447_0;clear hi447_0 hl447_0;replace p447:=eq_true p447;replace q447:=eq_true q447;refine start_ (n:=15) (S:=fun w'=>w'.cell? (ad446.add (x13_2).toNat)=some (.slice A446_0 (rd_L1 t431 x13_2).length c446_0)∧w'.cell? ad447=some (.slice A447_0 (rd_L1 t437 0).length c447_0)) (ds:=[]) #[F,F,F,F,F,F,F,F,F,F,F,F,F,F,F] (by kernel_rfl) rfl rfl ⟨hx446_0,hx447_0⟩ (fun hHeld=>?_);refine with_tabW spec_OrdDivide.tab8 spec_OrdDivide.bits8 (fun HT_ HW_=>?_)
              generalize wr.drew=w36 at HO_7 HO_8 HO_9 HO_10 HO_11 HO_12 HB HL446_0 HL447_0 HR446_0 HR447_0 hx446_0 hx447_0 hHeld ⊢
              refine pq 0 (some 47) HT_.out rfl rfl ?_;refine pq 1 (some 48) HT_.out rfl rfl ?_;refine pq 2 (some 49) HT_.out rfl rfl ?_;refine pq 3 (some 50) HT_.out rfl rfl ?_;refine pq 4 (some 51) HT_.out rfl rfl ?_;refine pq 5 (some 52) HT_.out rfl rfl ?_;refine pq 6 (some 53) HT_.out rfl rfl ?_;refine pq 7 (some 54) HT_.out rfl rfl ?_;refine pq 9 (some 56) HT_.out rfl rfl ?_;refine pq 10 (some 57) HT_.out rfl rfl ?_;refine take_ (i:=8) (N:=some 55) (v:=?_) (a':=?_) #[T,T,T,T,T,T,T,T,T,T,T,F,F,F,F] rfl rfl (take_ofW HT_.out HW_.out (by kernel_rfl)) (fun _ _ _ h=>h) (Or.inl ⟨by rfl,?_⟩) hHeld ?_ ?_
              rotate_left;(· rintro w' ⟨s0,s1⟩;go_simp;with_reducible rfl);rotate_left;(· simp only[Act.put,s1,s2,s3,i64_w,i32_w];rfl)
              refine take_ (i:=11) (N:=some 58) (v:=?_) (a':=?_) #[T,T,T,T,T,T,T,T,T,T,T,T,F,F,F] rfl rfl (take_ofW HT_.out HW_.out (by kernel_rfl)) (fun _ _ _ h=>h) (Or.inl ⟨by rfl,?_⟩) hHeld ?_ ?_
              rotate_left;(· rintro w' ⟨s0,s1⟩;go_simp;with_reducible rfl);rotate_left;(· simp only[Act.put,s1,s2,s3,i64_w,i32_w];rfl)
              refine one_ (i:=12) (N:=some 59) #[T,T,T,T,T,T,T,T,T,T,T,T,T,F,F] rfl rfl (one_of HT_.out (by kernel_rfl)) (by decide) (fun K hK=>?_);refine goes_ Try.func53 (by kernel_rfl) rfl #[.slice A446_0 (rd_L1 t431 x13_2).length c446_0,.slice A447_0 (rd_L1 t437 0).length c447_0] (by rfl) rfl rfl az ?_
              with_reducible refine(spec_l1Compare.calls k2 _ _ (rd_L1 t431 x13_2) _ _ (rd_L1 t437 0) t448 _ ?side1 ?side2 ?side3 ?side4 A31.out).mono ?_
              (case side1=>exact(Kd.Cz HR446_0.out))
              (case side2=>exact HC446_0.out)
              (case side3=>exact(Kd.Cz HR447_0.out))
              (case side4=>exact HC447_0.out)
              rintro e w40 ⟨rfl,hb⟩;have HS0_:=(hb.cell (World.block_lt_of_cell? _ _ (hHeld.1))).trans (hHeld.1);have HS1_:=(hb.cell (World.block_lt_of_cell? _ _ (hHeld.2))).trans (hHeld.2);refine⟨_,rfl,?_⟩;have n0_:=Sd.mk (Kd.R_below (Kd.Rz HO_7.out) hb);have n1_:=Sd.mk (Kd.N_below (Kd.Nz HO_8.out) hb);have n2_:=Sd.mk (Kd.R_below (Kd.Rz HO_9.out) hb);have n3_:=Sd.mk (Kd.N_below (Kd.Nz HO_10.out) hb);have n4_:=Sd.mk (Kd.R_below (Kd.Rz HO_11.out) hb);have n5_:=Sd.mk (Kd.N_below (Kd.Nz HO_12.out) hb);have n6_:=Sd.mk (Kd.V_below (Kd.Vz HL446_0.out) hb);have n7_:=Sd.mk (Kd.V_below (Kd.Vz HL447_0.out) hb);have n8_:=Sd.mk (Kd.C_below (Kd.Cz HR446_0.out) hb);have n9_:=Sd.mk (Kd.C_below (Kd.Cz HR447_0.out) hb);have n10_:=Sd.mk (below_step bz hb);clear HO_7;clear HO_8;clear HO_9;clear HO_10;clear HO_11;clear HO_12;clear HL446_0;clear HL447_0;clear HR446_0;clear HR447_0;clear HB;have HO_7:=n0_;have HO_8:=n1_;have HO_9:=n2_;have HO_10:=n3_;have HO_11:=n4_;have HO_12:=n5_;have HL446_0:=n6_;have HL447_0:=n7_;have HR446_0:=n8_;have HR447_0:=n9_;have HB:=n10_;clear n0_ n1_ n2_ n3_ n4_ n5_ n6_ n7_ n8_ n9_ n10_
              (try clear hb)
              (try clear hb2)
              (try clear hk)
              (try clear hi)
              refine hK.out _ _ ⟨HS0_,HS1_⟩ (fun hHeld=>?_);clear hK K;refine norm_ (a':=?_) ?_ ?_
              rotate_left
              ·show Act.put _ (some 59) _=_
               simp only[Act.put,s1,s2,s3,i64_w,i32_w]
               rfl
              refine pq 13 (some 60) HT_.out rfl rfl ?_;refine pq 14 (some 61) HT_.out rfl rfl ?_;refine done_ (done_of HT_.out (by kernel_rfl)) ?_;have p449:0≤(x13_2:Int):=dz;have q449:x13_2<(t428.length:Int):=dz;obtain⟨ad449,e449,hx449_0⟩:=Kd.at_int (Kd.R_reads' HO_7.out).2.2 x13_2 p449 q449;cases e449;replace p449:=eq_true p449;replace q449:=eq_true q449
              try go_wp2_with (first|((with_reducible refine gate_builtin (b:=.append) (xs:=#[.tmp 62,.tmp 67]) rfl ?_);at_builtin;refine Kd.R_append (Kd.int .i64) (w0:=w) w.heap.size rfl (.tmp 62) (.tmp 67) 22 3 (.int .i64 0) 8 rfl Try.underlying22 info3 rfl (by decide) (by omega) u11 x11_2 (rd t428 x13_2) [.int .i64 (rd t428 x13_2)] (fun k_=>some k_≠(.slice (some ad449) t428.length co37:Value).ownBlock∧some k_≠(v435:Value).ownBlock) (fun _=>False) rfl rfl ?aP (fun _ hk=>hk.elim) ?aF ?aO ?aB ?aS ?aL ?_;(case aP=>exact rfl);(case aB=>exact bz);(case aF=>exact(fun k_ hk=>⟨Kd.fresh' (Kd.R_lt (Kd.Rz HO_7.out)) k_ hk,Kd.fresh' (Kd.R_lt (Kd.Rz HO_9.out)) k_ hk⟩));(case aO=>exact(Kd.Rz HO_11.out));(case aS=>exact(below_size bz));(case aL=>have:=LMc33.out;omega);intro v451 w41 ho hb hg hat;rw[← Ny450.out] at ho;replace HO_7:=Sd.mk (Kd.R_after (ok:=(fun k_=>some k_≠(v435:Value).ownBlock)) (Kd.Rz HO_7.out) hg hat);replace HO_8:=Sd.mk (Kd.N_afterv (ok:=(fun k_=>some k_≠(.slice (some ad449) t428.length co37:Value).ownBlock∧some k_≠(v435:Value).ownBlock∧some k_≠(.slice (some ad447) t437.length co39:Value).ownBlock∧some k_≠(u12:Value).ownBlock)) (Kd.Nz <| Kd.N_mono HO_8.out (fun _ hk=>⟨⟨hk.1,⟨hk.2.1,⟨hk.2.2.1,hk.2.2.2.2⟩⟩⟩,hk.2.2.2.1⟩)) hg hat);replace HO_9:=Sd.mk (Kd.R_after (ok:=(fun k_=>some k_≠(.slice (some ad449) t428.length co37:Value).ownBlock)) (Kd.Rz HO_9.out) hg hat);replace HO_10:=Sd.mk (Kd.N_afterv (ok:=(fun k_=>some k_≠(.slice (some ad449) t428.length co37:Value).ownBlock∧some k_≠(.slice (some ad446) t431.length co38:Value).ownBlock∧some k_≠(v435:Value).ownBlock∧some k_≠(u12:Value).ownBlock)) (Kd.Nz <| Kd.N_mono HO_10.out (fun _ hk=>⟨⟨hk.1,⟨hk.2.1,⟨hk.2.2.1,hk.2.2.2.2⟩⟩⟩,hk.2.2.2.1⟩)) hg hat);replace HO_12:=Sd.mk (Kd.N_afterv (ok:=(fun k_=>some k_≠(.slice (some ad449) t428.length co37:Value).ownBlock∧some k_≠(.slice (some ad446) t431.length co38:Value).ownBlock∧some k_≠(v435:Value).ownBlock∧some k_≠(.slice (some ad447) t437.length co39:Value).ownBlock)) (Kd.Nz <| Kd.N_mono HO_12.out (fun _ hk=>⟨⟨hk.1,⟨hk.2.1,⟨hk.2.2.1,hk.2.2.2.1⟩⟩⟩,hk.2.2.2.2⟩)) hg hat);replace HL446_0:=Sd.mk (Kd.V_afterv (ok:=(fun k_=>some k_≠(.slice (some ad449) t428.length co37:Value).ownBlock∧some k_≠(.slice (some ad446) t431.length co38:Value).ownBlock∧some k_≠(v435:Value).ownBlock∧some k_≠(.slice (some ad447) t437.length co39:Value).ownBlock∧some k_≠(u12:Value).ownBlock)) (Kd.Vz <| Kd.V_mono HL446_0.out (fun _ hk=>⟨⟨hk.1.1,⟨hk.2,⟨hk.1.2.1,⟨hk.1.2.2.1,hk.1.2.2.2.2⟩⟩⟩⟩,hk.1.2.2.2.1⟩)) hg hat);replace HL447_0:=Sd.mk (Kd.V_afterv (ok:=(fun k_=>some k_≠(.slice (some ad449) t428.length co37:Value).ownBlock∧some k_≠(.slice (some ad446) t431.length co38:Value).ownBlock∧some k_≠(v435:Value).ownBlock∧some k_≠(.slice (some ad447) t437.length co39:Value).ownBlock∧some k_≠(u12:Value).ownBlock)) (Kd.Vz <| Kd.V_mono HL447_0.out (fun _ hk=>⟨⟨hk.1.1,⟨hk.1.2.1,⟨hk.1.2.2.1,⟨hk.2,hk.1.2.2.2.2⟩⟩⟩⟩,hk.1.2.2.2.1⟩)) hg hat);replace HB:=Sd.mk (hb);have HO452:=Sd.mk (ho);clear HO_11;clear ho hb hg hat))
              have n0_:=Sd.mk (Kd.R_drew HO_7.out);have n1_:=Sd.mk (Kd.N_drew HO_8.out);have n2_:=Sd.mk (Kd.R_drew HO_9.out);have n3_:=Sd.mk (Kd.N_drew HO_10.out);have n4_:=Sd.mk (Kd.N_drew HO_12.out);have n5_:=Sd.mk (Kd.V_drew HL446_0.out);have n6_:=Sd.mk (Kd.V_drew HL447_0.out);have n7_:=Sd.mk (Kd.R_drew HO452.out);have n8_:=Sd.mk (below_drew1 HB.out);clear HO_7;clear HO_8;clear HO_9;clear HO_10;clear HO_12;clear HL446_0;clear HL447_0;clear HO452;clear HB;have HO_7:=n0_;have HO_8:=n1_;have HO_9:=n2_;have HO_10:=n3_;have HO_12:=n4_;have HL446_0:=n5_;have HL447_0:=n6_;have HO452:=n7_;have HB:=n8_;clear n0_ n1_ n2_ n3_ n4_ n5_ n6_ n7_ n8_;have p453:0≤(x13_2:Int):=dz;have q453:x13_2<(t431.length:Int):=dz;obtain⟨ad453,A453_0,c453_0,e453,hx453_0,hl453_0,hi453_0⟩:=at_L1 (Kd.N_reads' HO_8.out).2.2 x13_2 p453 q453;obtain rfl:ad446=ad453:=(by injection e453);obtain⟨ce453,hce453,hMe453,hcc453⟩:=Kd.N_get HO_8.out [] x13_2 p453 (by first|exact q453|exact dz|(have e_:=(Kd.N_reads' HO_8.out).1;omega));obtain⟨ua453_0,uc453_0,rfl,ul453_0,ge453_0⟩:=Kd.FK_slice_open hMe453;have hv453_0:=hcc453 0 _ rfl;rw[Nat.add_zero,show ((Kd.slice 3 (Kd.int .i64))).sz=1 from rfl,Nat.mul_one] at hv453_0;replace hv453_0:=Option.some.inj (hv453_0.symm.trans hx453_0)
              injection hv453_0 with hva_ hvn_ hvc_
              rw[hva_] at ge453_0;rw[hvc_] at ul453_0;have HL453_0:=Sd.mk (show Kd.V (Kd.int .i64) 3 _ w.heap.size _ _ (rd_L1 t431 x13_2) from Kd.V_mk ul453_0 ge453_0);clear hva_ hvn_ hvc_ ge453_0 ul453_0;clear hcc453 hce453
              (try (have he_:=Option.some.inj (hx453_0.symm.trans (show _=some (Value.slice A446_0 _ c446_0) from by assumption));injection he_ with ha_ hn_ hc_;clear hn_;subst ha_;subst hc_))
              have HR453_0:=Sd.mk hi453_0;have HC453_0:=Sd.mk hl453_0;clear hi453_0 hl453_0;replace p453:=eq_true p453;replace q453:=eq_true q453;have p454:0≤(0:Int):=(by omega);have q454:0<(t437.length:Int):=dz;obtain⟨ad454,A454_0,c454_0,e454,hx454_0,hl454_0,hi454_0⟩:=at_L1 (Kd.N_reads' HO_10.out).2.2 0 p454 q454;obtain rfl:ad447=ad454:=(by injection e454);obtain⟨ce454,hce454,hMe454,hcc454⟩:=Kd.N_get HO_10.out [] 0 p454 (by first|exact q454|exact dz|(have e_:=(Kd.N_reads' HO_10.out).1;omega));obtain⟨ua454_0,uc454_0,rfl,ul454_0,ge454_0⟩:=Kd.FK_slice_open hMe454;have hv454_0:=hcc454 0 _ rfl;rw[Nat.add_zero,show ((Kd.slice 3 (Kd.int .i64))).sz=1 from rfl,Nat.mul_one] at hv454_0;replace hv454_0:=Option.some.inj (hv454_0.symm.trans hx454_0)
              injection hv454_0 with hva_ hvn_ hvc_
              rw[hva_] at ge454_0;rw[hvc_] at ul454_0;have HL454_0:=Sd.mk (show Kd.V (Kd.int .i64) 3 _ w.heap.size _ _ (rd_L1 t437 0) from Kd.V_mk ul454_0 ge454_0);clear hva_ hvn_ hvc_ ge454_0 ul454_0;clear hcc454 hce454;have qi454:(0<t437.length)=True:=eq_true (by omega)
              (try rw[show ((0:Int)).toNat=0 from rfl] at hx454_0)
              (try rw[Addr.add_zero'] at hx454_0)
              (try (have he_:=Option.some.inj (hx454_0.symm.trans (show _=some (Value.slice A447_0 _ c447_0) from by assumption));injection he_ with ha_ hn_ hc_;clear hn_;subst ha_;subst hc_))
              have HR454_0:=Sd.mk hi454_0;have HC454_0:=Sd.mk hl454_0;clear hi454_0 hl454_0;replace p454:=eq_true p454;replace q454:=eq_true q454;refine start_ (n:=12) (S:=fun w'=>w'.cell? (ad446.add (x13_2).toNat)=some (.slice A453_0 (rd_L1 t431 x13_2).length c453_0)∧w'.cell? ad447=some (.slice A454_0 (rd_L1 t437 0).length c454_0)) (ds:=[9,10]) #[F,F,F,F,F,F,F,F,F,F,F,F] (by kernel_rfl) rfl rfl ⟨hx453_0,hx454_0⟩ (fun hHeld=>?_);refine with_tabW spec_OrdDivide.tab10 spec_OrdDivide.bits10 (fun HT_ HW_=>?_)
              generalize w41.drew=w42 at HO_7 HO_8 HO_9 HO_10 HO_12 HL446_0 HL447_0 HO452 HB HL453_0 HL454_0 HR453_0 HR454_0 hx453_0 hx454_0 hHeld ⊢
              refine pq 0 (some 69) HT_.out rfl rfl ?_;refine pq 1 (some 70) HT_.out rfl rfl ?_;refine pq 2 (some 71) HT_.out rfl rfl ?_;refine pq 3 (some 72) HT_.out rfl rfl ?_;refine pq 5 (some 74) HT_.out rfl rfl ?_;refine pq 6 (some 75) HT_.out rfl rfl ?_;refine take_ (i:=4) (N:=some 73) (v:=?_) (a':=?_) #[T,T,T,T,T,T,T,F,F,F,F,F] rfl rfl (take_ofW HT_.out HW_.out (by kernel_rfl)) (fun _ _ _ h=>h) (Or.inl ⟨by rfl,?_⟩) hHeld ?_ ?_
              rotate_left;(· rintro w' ⟨s0,s1⟩;go_simp;with_reducible rfl);rotate_left;(· simp only[Act.put,s1,s2,s3,i64_w,i32_w];rfl)
              refine take_ (i:=7) (N:=some 76) (v:=?_) (a':=?_) #[T,T,T,T,T,T,T,T,F,F,F,F] rfl rfl (take_ofW HT_.out HW_.out (by kernel_rfl)) (fun _ _ _ h=>h) (Or.inl ⟨by rfl,?_⟩) hHeld ?_ ?_
              rotate_left;(· rintro w' ⟨s0,s1⟩;go_simp;with_reducible rfl);rotate_left;(· simp only[Act.put,s1,s2,s3,i64_w,i32_w];rfl)
              refine one_ (i:=8) (N:=some 77) #[T,T,T,T,T,T,T,T,T,F,F,F] rfl rfl (one_of HT_.out (by kernel_rfl)) (by decide) (fun K hK=>?_);refine goes_ Try.func49 (by kernel_rfl) rfl #[.slice A453_0 (rd_L1 t431 x13_2).length c453_0,.slice A454_0 (rd_L1 t437 0).length c454_0] (by rfl) rfl rfl az ?_
              with_reducible refine(spec_l2Minus.calls k2 _ _ (rd_L1 t431 x13_2) _ _ (rd_L1 t437 0) t455 _ ?side1 ?side2 ?side3 ?side4 A34.out).mono ?_
              (case side1=>exact(Kd.Cz HR453_0.out))
              (case side2=>exact HC453_0.out)
              (case side3=>exact(Kd.Cz HR454_0.out))
              (case side4=>exact HC454_0.out)
              rintro e w43 ⟨v456,rfl,ho0,hb⟩;have HS0_:=(hb.cell (World.block_lt_of_cell? _ _ (hHeld.1))).trans (hHeld.1);have HS1_:=(hb.cell (World.block_lt_of_cell? _ _ (hHeld.2))).trans (hHeld.2);refine⟨_,rfl,?_⟩;have n0_:=Sd.mk (Kd.R_elder' (Kd.Rz HO_7.out) (Kd.R_base ho0) hb);have n1_:=Sd.mk (Kd.N_elder' (Kd.Nz HO_8.out) (Kd.R_base ho0) hb);have n2_:=Sd.mk (Kd.R_elder' (Kd.Rz HO_9.out) (Kd.R_base ho0) hb);have n3_:=Sd.mk (Kd.N_elder' (Kd.Nz HO_10.out) (Kd.R_base ho0) hb);have n4_:=Sd.mk (Kd.N_elder' (Kd.Nz HO_12.out) (Kd.R_base ho0) hb);have n5_:=Sd.mk (Kd.V_elder' (Kd.Vz HL446_0.out) (Kd.R_base ho0) hb);have n6_:=Sd.mk (Kd.V_elder' (Kd.Vz HL447_0.out) (Kd.R_base ho0) hb);have n7_:=Sd.mk (Kd.R_elder' (Kd.Rz HO452.out) (Kd.R_base ho0) hb);have n8_:=Sd.mk (Kd.V_elder' (Kd.Vz HL453_0.out) (Kd.R_base ho0) hb);have n9_:=Sd.mk (Kd.V_elder' (Kd.Vz HL454_0.out) (Kd.R_base ho0) hb);have n10_:=Sd.mk (Kd.R_lower (Kd.R_new' (Kd.R_new' (Kd.R_new' ho0 (Kd.R_lt (Kd.Rz HO_7.out))) (Kd.R_lt (Kd.Rz HO_9.out))) (Kd.R_lt (Kd.Rz HO452.out))) (below_size bz));have n11_:=Sd.mk (Kd.C_below (Kd.Cz HR453_0.out) hb);have n12_:=Sd.mk (Kd.C_below (Kd.Cz HR454_0.out) hb);have n13_:=Sd.mk (below_step bz hb);clear HO_7;clear HO_8;clear HO_9;clear HO_10;clear HO_12;clear HL446_0;clear HL447_0;clear HO452;clear HL453_0;clear HL454_0;clear HR453_0;clear HR454_0;clear HB;have HO_7:=n0_;have HO_8:=n1_;have HO_9:=n2_;have HO_10:=n3_;have HO_12:=n4_;have HL446_0:=n5_;have HL447_0:=n6_;have HO452:=n7_;have HL453_0:=n8_;have HL454_0:=n9_;have HO457:=n10_;have HR453_0:=n11_;have HR454_0:=n12_;have HB:=n13_;clear n0_ n1_ n2_ n3_ n4_ n5_ n6_ n7_ n8_ n9_ n10_ n11_ n12_ n13_
              (try clear hb)
              (try clear hb2)
              (try clear hk)
              (try clear hi)
              (try clear ho0)
              obtain⟨Ao45,co45,eo45⟩:=Kd.R_slice HO457.out
              (first|subst eo45|(injection eo45 with f1_ f2_ f3_;have f4_:=f1_.symm;have f5_:=f3_.symm;clear f1_ f2_ f3_;subst f4_;subst f5_))
              refine hK.out _ _ ⟨HS0_,HS1_⟩ (fun hHeld=>?_);clear hK K;refine norm_ (a':=?_) ?_ ?_
              rotate_left
              ·show Act.put _ (some 77) _=_
               simp only[Act.put,s1,s2,s3,i64_w,i32_w]
               rfl
              refine last_ (i:=9) (N:=some 78) #[T,T,T,T,T,T,T,T,T,T,F,F] rfl rfl (one_of HT_.out (by kernel_rfl)) (by decide) (fun K hK=>?_);refine value_ (w1:=?_) (v:=?_) (by rfl) rfl ?_ ?_
              rotate_left 2
              ·go_simp
               constructor
               ·rfl
               ·rfl
              refine hK.out _ _ ?_;clear hK K;refine norm_ (a':=?_) ?_ ?_
              rotate_left
              ·show Act.put _ (some 78) _=_
               simp only[Act.put,s1,s2,s3,i64_w,i32_w]
               rfl
              refine last_ (i:=10) (N:=some 79) #[T,T,T,T,T,T,T,T,T,T,T,F] rfl rfl (one_of HT_.out (by kernel_rfl)) (by decide) (fun K hK=>?_);refine Kd.N_append_step (Kd.slice 3 (Kd.int .i64)) (w0:=w) w.heap.size (by rfl) (.tmp 69) (.tmp 78) 52 22 (.slice none 0 0) 24 rfl Try.underlying52 info22 rfl (by decide) (by omega) u12 x12_2 t455 [.slice Ao45 t455.length co45] (fun k_=>some k_≠(.slice (some ad449) t428.length co37:Value).ownBlock∧some k_≠(.slice (some ad446) t431.length co38:Value).ownBlock∧some k_≠(v435:Value).ownBlock∧some k_≠(.slice (some ad447) t437.length co39:Value).ownBlock∧some k_≠(v451:Value).ownBlock) (fun k_=>((fun k_=>some k_≠(.slice (some ad449) t428.length co37:Value).ownBlock∧some k_≠(.slice (some ad446) t431.length co38:Value).ownBlock∧some k_≠(v435:Value).ownBlock∧some k_≠(.slice (some ad447) t437.length co39:Value).ownBlock∧some k_≠(v451:Value).ownBlock)) k_∧some k_≠(u12:Value).ownBlock) rfl rfl ?aP (fun _ hk=>hk) ?aF ?aO ?aB ?aS ?aL ?_
              (case aP=>exact(Kd.FK_slice_mk (Kd.R_reads' (Kd.R_mono (ok':=(fun k_=>((fun k_=>some k_≠(.slice (some ad449) t428.length co37:Value).ownBlock∧some k_≠(.slice (some ad446) t431.length co38:Value).ownBlock∧some k_≠(v435:Value).ownBlock∧some k_≠(.slice (some ad447) t437.length co39:Value).ownBlock∧some k_≠(v451:Value).ownBlock)) k_∧some k_≠(u12:Value).ownBlock)) (Kd.R_apart' (Kd.R_apart' (Kd.R_apart' (HO457.out) (Kd.N_typed HO_8.out) (by decide)) (Kd.N_typed HO_10.out) (by decide)) (Kd.N_typed HO_12.out) (by decide)) (fun k_ hk=>⟨⟨hk.1.1.1.1.1.2,⟨hk.1.1.2,⟨hk.1.1.1.1.2,⟨hk.1.2,hk.1.1.1.2⟩⟩⟩⟩,hk.2⟩))).2.1 (Kd.R_F (Kd.R_mono (ok':=(fun k_=>((fun k_=>some k_≠(.slice (some ad449) t428.length co37:Value).ownBlock∧some k_≠(.slice (some ad446) t431.length co38:Value).ownBlock∧some k_≠(v435:Value).ownBlock∧some k_≠(.slice (some ad447) t437.length co39:Value).ownBlock∧some k_≠(v451:Value).ownBlock)) k_∧some k_≠(u12:Value).ownBlock)) (Kd.R_apart' (Kd.R_apart' (Kd.R_apart' (HO457.out) (Kd.N_typed HO_8.out) (by decide)) (Kd.N_typed HO_10.out) (by decide)) (Kd.N_typed HO_12.out) (by decide)) (fun k_ hk=>⟨⟨hk.1.1.1.1.1.2,⟨hk.1.1.2,⟨hk.1.1.1.1.2,⟨hk.1.2,hk.1.1.1.2⟩⟩⟩⟩,hk.2⟩)))))
              (case aB=>exact bz)
              (case aF=>exact(fun k_ hk=>⟨Kd.fresh' (Kd.R_lt (Kd.Rz HO_7.out)) k_ hk,Kd.fresh' (Kd.N_lt (Kd.Nz HO_8.out)) k_ hk,Kd.fresh' (Kd.R_lt (Kd.Rz HO_9.out)) k_ hk,Kd.fresh' (Kd.N_lt (Kd.Nz HO_10.out)) k_ hk,Kd.fresh' (Kd.R_lt (Kd.Rz HO452.out)) k_ hk⟩))
              (case aO=>exact(Kd.Nz <| Kd.N_mono HO_12.out (fun _ hk=>⟨hk.1.1.1,⟨hk.1.1.2.1,⟨hk.1.1.2.2.1,⟨hk.1.1.2.2.2,hk.1.2⟩⟩⟩⟩)))
              (case aS=>exact(below_size bz))
              (case aL=>have:=LMc35.out;omega)
              intro v459 w44 ho hb hg hat;rw[← Ny458.out] at ho;have n0_:=Sd.mk (Kd.R_over' (Kd.Rz HO_7.out) (Kd.N_typed (Kd.Nz HO_12.out)) (by decide) hg);have n1_:=Sd.mk (Kd.N_afterv (ok:=(fun k_=>some k_≠(.slice (some ad449) t428.length co37:Value).ownBlock∧some k_≠(v435:Value).ownBlock∧some k_≠(.slice (some ad447) t437.length co39:Value).ownBlock∧some k_≠(v451:Value).ownBlock∧some k_≠(.slice Ao45 t455.length co45:Value).ownBlock)) (Kd.Nz <| Kd.N_mono HO_8.out (fun _ hk=>⟨⟨hk.1.1.1,⟨hk.1.1.2.1,⟨hk.1.1.2.2.1,⟨hk.1.2,hk.2⟩⟩⟩⟩,hk.1.1.2.2.2⟩)) hg hat);have n2_:=Sd.mk (Kd.R_over' (Kd.Rz HO_9.out) (Kd.N_typed (Kd.Nz HO_12.out)) (by decide) hg);have n3_:=Sd.mk (Kd.N_afterv (ok:=(fun k_=>some k_≠(.slice (some ad449) t428.length co37:Value).ownBlock∧some k_≠(.slice (some ad446) t431.length co38:Value).ownBlock∧some k_≠(v435:Value).ownBlock∧some k_≠(v451:Value).ownBlock∧some k_≠(.slice Ao45 t455.length co45:Value).ownBlock)) (Kd.Nz <| Kd.N_mono HO_10.out (fun _ hk=>⟨⟨hk.1.1.1,⟨hk.1.1.2.1,⟨hk.1.1.2.2.1,⟨hk.1.2,hk.2⟩⟩⟩⟩,hk.1.1.2.2.2⟩)) hg hat);have n4_:=Sd.mk (Kd.V_afterv (ok:=(fun k_=>some k_≠(.slice (some ad449) t428.length co37:Value).ownBlock∧some k_≠(.slice (some ad446) t431.length co38:Value).ownBlock∧some k_≠(v435:Value).ownBlock∧some k_≠(.slice (some ad447) t437.length co39:Value).ownBlock∧some k_≠(v451:Value).ownBlock∧some k_≠(.slice Ao45 t455.length co45:Value).ownBlock)) (Kd.Vz <| Kd.V_mono HL446_0.out (fun _ hk=>⟨⟨hk.1.1.1,⟨hk.1.1.2.1,⟨hk.1.1.2.2.1,⟨hk.1.1.2.2.2.1,⟨hk.1.2,hk.2⟩⟩⟩⟩⟩,hk.1.1.2.2.2.2⟩)) hg hat);have n5_:=Sd.mk (Kd.V_afterv (ok:=(fun k_=>some k_≠(.slice (some ad449) t428.length co37:Value).ownBlock∧some k_≠(.slice (some ad446) t431.length co38:Value).ownBlock∧some k_≠(v435:Value).ownBlock∧some k_≠(.slice (some ad447) t437.length co39:Value).ownBlock∧some k_≠(v451:Value).ownBlock∧some k_≠(.slice Ao45 t455.length co45:Value).ownBlock)) (Kd.Vz <| Kd.V_mono HL447_0.out (fun _ hk=>⟨⟨hk.1.1.1,⟨hk.1.1.2.1,⟨hk.1.1.2.2.1,⟨hk.1.1.2.2.2.1,⟨hk.1.2,hk.2⟩⟩⟩⟩⟩,hk.1.1.2.2.2.2⟩)) hg hat);have n6_:=Sd.mk (Kd.R_over' (Kd.Rz HO452.out) (Kd.N_typed (Kd.Nz HO_12.out)) (by decide) hg);have n7_:=Sd.mk (Kd.V_afterv (ok:=(fun k_=>some k_≠(.slice (some ad449) t428.length co37:Value).ownBlock∧some k_≠(.slice (some ad446) t431.length co38:Value).ownBlock∧some k_≠(v435:Value).ownBlock∧some k_≠(.slice (some ad447) t437.length co39:Value).ownBlock∧some k_≠(v451:Value).ownBlock∧some k_≠(.slice Ao45 t455.length co45:Value).ownBlock)) (Kd.Vz <| Kd.V_mono HL453_0.out (fun _ hk=>⟨⟨hk.1.1.1.1,⟨hk.1.2,⟨hk.1.1.1.2.1,⟨hk.1.1.1.2.2.1,⟨hk.1.1.2,hk.2⟩⟩⟩⟩⟩,hk.1.1.1.2.2.2⟩)) hg hat);have n8_:=Sd.mk (Kd.V_afterv (ok:=(fun k_=>some k_≠(.slice (some ad449) t428.length co37:Value).ownBlock∧some k_≠(.slice (some ad446) t431.length co38:Value).ownBlock∧some k_≠(v435:Value).ownBlock∧some k_≠(.slice (some ad447) t437.length co39:Value).ownBlock∧some k_≠(v451:Value).ownBlock∧some k_≠(.slice Ao45 t455.length co45:Value).ownBlock)) (Kd.Vz <| Kd.V_mono HL454_0.out (fun _ hk=>⟨⟨hk.1.1.1.1,⟨hk.1.1.1.2.1,⟨hk.1.1.1.2.2.1,⟨hk.1.2,⟨hk.1.1.2,hk.2⟩⟩⟩⟩⟩,hk.1.1.1.2.2.2⟩)) hg hat);have n9_:=Sd.mk (hb);have n10_:=Sd.mk (ho);clear HO_7;clear HO_8;clear HO_9;clear HO_10;clear HL446_0;clear HL447_0;clear HO452;clear HL453_0;clear HL454_0;clear HB;clear HO_12;clear HO457;have HO_7:=n0_;have HO_8:=n1_;have HO_9:=n2_;have HO_10:=n3_;have HL446_0:=n4_;have HL447_0:=n5_;have HO452:=n6_;have HL453_0:=n7_;have HL454_0:=n8_;have HB:=n9_;have HO460:=n10_;clear n0_ n1_ n2_ n3_ n4_ n5_ n6_ n7_ n8_ n9_ n10_;clear ho hb hg hat;refine hK.out _ _ ?_;clear hK K;refine norm_ (a':=?_) ?_ ?_
              rotate_left
              ·show Act.put _ (some 79) _=_
               simp only[Act.put,s1,s2,s3,i64_w,i32_w]
               rfl
              refine pq 11 (some 12) HT_.out rfl rfl ?_;refine done_ (done_of HT_.out (by kernel_rfl)) ?_
              try go_wp2
              go_roundg k2
              case measure=>have:=HJ2.out;have:=HK2.out;omega
              case rel=>exact⟨(y450),(y458),(wrap64 (x13_2+1)),(by first|rfl|(simp;done)|(simp[*];done)),H',⟨by have:=HJ2.out;have:=HK2.out;omega⟩,⟨Kd.Rz <| Kd.R_mono HO_7.out (fun _ hk=>⟨hk.1.1,hk.1.2⟩)⟩,⟨Kd.Nz <| Kd.N_mono HO_8.out (fun _ hk=>⟨hk.1.1,⟨hk.1.2.1,⟨hk.1.2.2.1,⟨hk.1.2.2.2.1,hk.2⟩⟩⟩⟩)⟩,⟨Kd.Rz <| Kd.R_mono HO_9.out (fun _ hk=>⟨hk.1.1,hk.1.2⟩)⟩,⟨Kd.Nz <| Kd.N_mono HO_10.out (fun _ hk=>⟨hk.1.1,⟨hk.1.2.1,⟨hk.1.2.2.1,⟨hk.1.2.2.2.1,hk.2⟩⟩⟩⟩)⟩,⟨Kd.Rz <| Kd.R_mono HO452.out (fun _ hk=>⟨hk.1.1,hk.1.2⟩)⟩,⟨by(with_reducible repeat (first|apply Kd.N_alloc|apply Kd.N_drewN|apply Kd.N_drew));exact HO460.out⟩,⟨bz⟩⟩
             ·rw[if_neg c35] at H
              exact absurd H (by simp)
            ·rw[if_neg c33] at H
             exact absurd H (by simp)
           ·rw[if_neg c32] at H
            have c32b0:decide (0<t448)=false:=decide_eq_false c32;clear c32;have H':=Sd.mk H;clear H
            try go_wp2
            have n0_:=Sd.mk (Kd.R_drew HO_7.out);have n1_:=Sd.mk (Kd.N_drew HO_8.out);have n2_:=Sd.mk (Kd.R_drew HO_9.out);have n3_:=Sd.mk (Kd.N_drew HO_10.out);have n4_:=Sd.mk (Kd.R_drew HO_11.out);have n5_:=Sd.mk (Kd.N_drew HO_12.out);have n6_:=Sd.mk (below_drew1 HB.out);clear HO_7;clear HO_8;clear HO_9;clear HO_10;clear HO_11;clear HO_12;clear HB;have HO_7:=n0_;have HO_8:=n1_;have HO_9:=n2_;have HO_10:=n3_;have HO_11:=n4_;have HO_12:=n5_;have HB:=n6_;clear n0_ n1_ n2_ n3_ n4_ n5_ n6_;obtain⟨Ao47,co47,eo47⟩:=Kd.R_slice HO_7.out
            (first|subst eo47|(injection eo47 with f1_ f2_ f3_;have f4_:=f1_.symm;have f5_:=f3_.symm;clear f1_ f2_ f3_;subst f4_;subst f5_))
            obtain⟨Ao48,co48,eo48⟩:=Kd.N_slice HO_8.out
            (first|subst eo48|(injection eo48 with f1_ f2_ f3_;have f4_:=f1_.symm;have f5_:=f3_.symm;clear f1_ f2_ f3_;subst f4_;subst f5_))
            have p446:0≤(x13_2:Int):=dz;have q446:x13_2<(t431.length:Int):=dz;obtain⟨ad446,A446_0,c446_0,e446,hx446_0,hl446_0,hi446_0⟩:=at_L1 (Kd.N_reads' HO_8.out).2.2 x13_2 p446 q446;cases e446;obtain⟨ce446,hce446,hMe446,hcc446⟩:=Kd.N_get HO_8.out [] x13_2 p446 (by first|exact q446|exact dz|(have e_:=(Kd.N_reads' HO_8.out).1;omega));obtain⟨ua446_0,uc446_0,rfl,ul446_0,ge446_0⟩:=Kd.FK_slice_open hMe446;have hv446_0:=hcc446 0 _ rfl;rw[Nat.add_zero,show ((Kd.slice 3 (Kd.int .i64))).sz=1 from rfl,Nat.mul_one] at hv446_0;replace hv446_0:=Option.some.inj (hv446_0.symm.trans hx446_0)
            injection hv446_0 with hva_ hvn_ hvc_
            rw[hva_] at ge446_0;rw[hvc_] at ul446_0;have HL446_0:=Sd.mk (show Kd.V (Kd.int .i64) 3 _ w.heap.size _ _ (rd_L1 t431 x13_2) from Kd.V_mk ul446_0 ge446_0);clear hva_ hvn_ hvc_ ge446_0 ul446_0;clear hcc446 hce446;have HR446_0:=Sd.mk hi446_0;have HC446_0:=Sd.mk hl446_0;clear hi446_0 hl446_0;replace p446:=eq_true p446;replace q446:=eq_true q446;obtain⟨Ao49,co49,eo49⟩:=Kd.N_slice HO_10.out
            (first|subst eo49|(injection eo49 with f1_ f2_ f3_;have f4_:=f1_.symm;have f5_:=f3_.symm;clear f1_ f2_ f3_;subst f4_;subst f5_))
            have p447:0≤(0:Int):=(by omega);have q447:0<(t437.length:Int):=dz;obtain⟨ad447,A447_0,c447_0,e447,hx447_0,hl447_0,hi447_0⟩:=at_L1 (Kd.N_reads' HO_10.out).2.2 0 p447 q447;cases e447;obtain⟨ce447,hce447,hMe447,hcc447⟩:=Kd.N_get HO_10.out [] 0 p447 (by first|exact q447|exact dz|(have e_:=(Kd.N_reads' HO_10.out).1;omega));obtain⟨ua447_0,uc447_0,rfl,ul447_0,ge447_0⟩:=Kd.FK_slice_open hMe447;have hv447_0:=hcc447 0 _ rfl;rw[Nat.add_zero,show ((Kd.slice 3 (Kd.int .i64))).sz=1 from rfl,Nat.mul_one] at hv447_0;replace hv447_0:=Option.some.inj (hv447_0.symm.trans hx447_0)
            injection hv447_0 with hva_ hvn_ hvc_
            rw[hva_] at ge447_0;rw[hvc_] at ul447_0;have HL447_0:=Sd.mk (show Kd.V (Kd.int .i64) 3 _ w.heap.size _ _ (rd_L1 t437 0) from Kd.V_mk ul447_0 ge447_0);clear hva_ hvn_ hvc_ ge447_0 ul447_0;clear hcc447 hce447;have qi447:(0<t437.length)=True:=eq_true (by omega)
            (try rw[show ((0:Int)).toNat=0 from rfl] at hx447_0)
            (try rw[Addr.add_zero'] at hx447_0)
            have HR447_0:=Sd.mk hi447_0;have HC447_0:=Sd.mk hl447_0;clear hi447_0 hl447_0;replace p447:=eq_true p447;replace q447:=eq_true q447;refine start_ (n:=15) (S:=fun w'=>w'.cell? (ad446.add (x13_2).toNat)=some (.slice A446_0 (rd_L1 t431 x13_2).length c446_0)∧w'.cell? ad447=some (.slice A447_0 (rd_L1 t437 0).length c447_0)) (ds:=[]) #[F,F,F,F,F,F,F,F,F,F,F,F,F,F,F] (by kernel_rfl) rfl rfl ⟨hx446_0,hx447_0⟩ (fun hHeld=>?_);refine with_tabW spec_OrdDivide.tab8 spec_OrdDivide.bits8 (fun HT_ HW_=>?_)
            generalize wr.drew=w46 at HO_7 HO_8 HO_9 HO_10 HO_11 HO_12 HB HL446_0 HL447_0 HR446_0 HR447_0 hx446_0 hx447_0 hHeld ⊢
            refine pq 0 (some 47) HT_.out rfl rfl ?_;refine pq 1 (some 48) HT_.out rfl rfl ?_;refine pq 2 (some 49) HT_.out rfl rfl ?_;refine pq 3 (some 50) HT_.out rfl rfl ?_;refine pq 4 (some 51) HT_.out rfl rfl ?_;refine pq 5 (some 52) HT_.out rfl rfl ?_;refine pq 6 (some 53) HT_.out rfl rfl ?_;refine pq 7 (some 54) HT_.out rfl rfl ?_;refine pq 9 (some 56) HT_.out rfl rfl ?_;refine pq 10 (some 57) HT_.out rfl rfl ?_;refine take_ (i:=8) (N:=some 55) (v:=?_) (a':=?_) #[T,T,T,T,T,T,T,T,T,T,T,F,F,F,F] rfl rfl (take_ofW HT_.out HW_.out (by kernel_rfl)) (fun _ _ _ h=>h) (Or.inl ⟨by rfl,?_⟩) hHeld ?_ ?_
            rotate_left;(· rintro w' ⟨s0,s1⟩;go_simp;with_reducible rfl);rotate_left;(· simp only[Act.put,s1,s2,s3,i64_w,i32_w];rfl)
            refine take_ (i:=11) (N:=some 58) (v:=?_) (a':=?_) #[T,T,T,T,T,T,T,T,T,T,T,T,F,F,F] rfl rfl (take_ofW HT_.out HW_.out (by kernel_rfl)) (fun _ _ _ h=>h) (Or.inl ⟨by rfl,?_⟩) hHeld ?_ ?_
            rotate_left;(· rintro w' ⟨s0,s1⟩;go_simp;with_reducible rfl);rotate_left;(· simp only[Act.put,s1,s2,s3,i64_w,i32_w];rfl)
            refine one_ (i:=12) (N:=some 59) #[T,T,T,T,T,T,T,T,T,T,T,T,T,F,F] rfl rfl (one_of HT_.out (by kernel_rfl)) (by decide) (fun K hK=>?_);refine goes_ Try.func53 (by kernel_rfl) rfl #[.slice A446_0 (rd_L1 t431 x13_2).length c446_0,.slice A447_0 (rd_L1 t437 0).length c447_0] (by rfl) rfl rfl az ?_
            with_reducible refine(spec_l1Compare.calls k2 _ _ (rd_L1 t431 x13_2) _ _ (rd_L1 t437 0) t448 _ ?side1 ?side2 ?side3 ?side4 A31.out).mono ?_
            (case side1=>exact(Kd.Cz HR446_0.out))
            (case side2=>exact HC446_0.out)
            (case side3=>exact(Kd.Cz HR447_0.out))
            (case side4=>exact HC447_0.out)
            rintro e w50 ⟨rfl,hb⟩;have HS0_:=(hb.cell (World.block_lt_of_cell? _ _ (hHeld.1))).trans (hHeld.1);have HS1_:=(hb.cell (World.block_lt_of_cell? _ _ (hHeld.2))).trans (hHeld.2);refine⟨_,rfl,?_⟩;have n0_:=Sd.mk (Kd.R_below (Kd.Rz HO_7.out) hb);have n1_:=Sd.mk (Kd.N_below (Kd.Nz HO_8.out) hb);have n2_:=Sd.mk (Kd.R_below (Kd.Rz HO_9.out) hb);have n3_:=Sd.mk (Kd.N_below (Kd.Nz HO_10.out) hb);have n4_:=Sd.mk (Kd.R_below (Kd.Rz HO_11.out) hb);have n5_:=Sd.mk (Kd.N_below (Kd.Nz HO_12.out) hb);have n6_:=Sd.mk (Kd.V_below (Kd.Vz HL446_0.out) hb);have n7_:=Sd.mk (Kd.V_below (Kd.Vz HL447_0.out) hb);have n8_:=Sd.mk (Kd.C_below (Kd.Cz HR446_0.out) hb);have n9_:=Sd.mk (Kd.C_below (Kd.Cz HR447_0.out) hb);have n10_:=Sd.mk (below_step bz hb);clear HO_7;clear HO_8;clear HO_9;clear HO_10;clear HO_11;clear HO_12;clear HL446_0;clear HL447_0;clear HR446_0;clear HR447_0;clear HB;have HO_7:=n0_;have HO_8:=n1_;have HO_9:=n2_;have HO_10:=n3_;have HO_11:=n4_;have HO_12:=n5_;have HL446_0:=n6_;have HL447_0:=n7_;have HR446_0:=n8_;have HR447_0:=n9_;have HB:=n10_;clear n0_ n1_ n2_ n3_ n4_ n5_ n6_ n7_ n8_ n9_ n10_
            (try clear hb)
            (try clear hb2)
            (try clear hk)
            (try clear hi)
            refine hK.out _ _ ⟨HS0_,HS1_⟩ (fun hHeld=>?_);clear hK K;refine norm_ (a':=?_) ?_ ?_
            rotate_left
            ·show Act.put _ (some 59) _=_
             simp only[Act.put,s1,s2,s3,i64_w,i32_w]
             rfl
            refine pq 13 (some 60) HT_.out rfl rfl ?_;refine pq 14 (some 61) HT_.out rfl rfl ?_;refine done_ (done_of HT_.out (by kernel_rfl)) ?_
            try go_wp2
            go_meet
            case rel=>exact⟨_,(x11_2),(x12_2),(x13_2),(by first|rfl|(simp;done)|(simp[*];done)),H',⟨by have:=HJ2.out;have:=HK2.out;first|omega|exact Nat.le_refl _⟩,⟨by(with_reducible repeat (first|apply Kd.R_alloc|apply Kd.R_drewN|apply Kd.R_drew));exact HO_7.out⟩,⟨by(with_reducible repeat (first|apply Kd.N_alloc|apply Kd.N_drewN|apply Kd.N_drew));exact HO_8.out⟩,⟨by(with_reducible repeat (first|apply Kd.R_alloc|apply Kd.R_drewN|apply Kd.R_drew));exact HO_9.out⟩,⟨by(with_reducible repeat (first|apply Kd.N_alloc|apply Kd.N_drewN|apply Kd.N_drew));exact HO_10.out⟩,⟨by(with_reducible repeat (first|apply Kd.R_alloc|apply Kd.R_drewN|apply Kd.R_drew));exact HO_11.out⟩,⟨by(with_reducible repeat (first|apply Kd.N_alloc|apply Kd.N_drewN|apply Kd.N_drew));exact HO_12.out⟩,⟨bz⟩⟩
          ·rw[if_neg c30] at H
           exact absurd H (by simp)
         ·rw[if_neg c29] at H
          exact absurd H (by simp)
        ·rw[if_neg c28] at H
         exact absurd H (by simp)
       ·rw[if_neg c27] at H
        have c27b0:decide (x13_2<(t428.length:Int))=false:=decide_eq_false c27;clear c27
        (first|rw[c27b0]|(simp only[i64_w,i32_w];rw[c27b0])|skip)
        have H':=Sd.mk H;clear H
        try go_wp2
        have n0_:=Sd.mk (Kd.R_drew HO_7.out);have n1_:=Sd.mk (Kd.N_drew HO_8.out);have n2_:=Sd.mk (Kd.R_drew HO_9.out);have n3_:=Sd.mk (Kd.N_drew HO_10.out);have n4_:=Sd.mk (Kd.R_drew HO_11.out);have n5_:=Sd.mk (Kd.N_drew HO_12.out);have n6_:=Sd.mk (below_drew1 HB.out);clear HO_7;clear HO_8;clear HO_9;clear HO_10;clear HO_11;clear HO_12;clear HB;have HO_7:=n0_;have HO_8:=n1_;have HO_9:=n2_;have HO_10:=n3_;have HO_11:=n4_;have HO_12:=n5_;have HB:=n6_;clear n0_ n1_ n2_ n3_ n4_ n5_ n6_;obtain⟨Ao52,co52,eo52⟩:=Kd.R_slice HO_7.out
        (first|subst eo52|(injection eo52 with f1_ f2_ f3_;have f4_:=f1_.symm;have f5_:=f3_.symm;clear f1_ f2_ f3_;subst f4_;subst f5_))
        refine start_ (n:=15) (S:=fun w'=>True) (ds:=[]) #[F,F,F,F,F,F,F,F,F,F,F,F,F,F,F] (by kernel_rfl) rfl rfl trivial (fun hHeld=>?_);refine with_tabW spec_OrdDivide.tab8 spec_OrdDivide.bits8 (fun HT_ HW_=>?_)
        generalize wr.drew=w51 at HO_7 HO_8 HO_9 HO_10 HO_11 HO_12 HB hHeld ⊢
        refine pq 0 (some 47) HT_.out rfl rfl ?_;refine pq 1 (some 48) HT_.out rfl rfl ?_;refine pq 2 (some 49) HT_.out rfl rfl ?_;refine pq 3 (some 50) HT_.out rfl rfl ?_;refine pq 4 (some 51) HT_.out rfl rfl ?_;refine pu 5 (some 52) HT_.out rfl rfl ?_;refine pu 6 (some 53) HT_.out rfl rfl ?_;refine pu 7 (some 54) HT_.out rfl rfl ?_;refine pu 8 (some 55) HT_.out rfl rfl ?_;refine pu 9 (some 56) HT_.out rfl rfl ?_;refine pu 10 (some 57) HT_.out rfl rfl ?_;refine pu 11 (some 58) HT_.out rfl rfl ?_;refine pu 12 (some 59) HT_.out rfl rfl ?_;refine pu 13 (some 60) HT_.out rfl rfl ?_;refine pq 14 (some 61) HT_.out rfl rfl ?_;refine done_ (done_of HT_.out (by kernel_rfl)) ?_
        try go_wp2
        go_meet
        case rel=>exact⟨_,(x11_2),(x12_2),(x13_2),(by first|rfl|(simp;done)|(simp[*];done)),H',⟨by have:=HJ2.out;have:=HK2.out;first|omega|exact Nat.le_refl _⟩,⟨by(with_reducible repeat (first|apply Kd.R_alloc|apply Kd.R_drewN|apply Kd.R_drew));exact HO_7.out⟩,⟨by(with_reducible repeat (first|apply Kd.N_alloc|apply Kd.N_drewN|apply Kd.N_drew));exact HO_8.out⟩,⟨by(with_reducible repeat (first|apply Kd.R_alloc|apply Kd.R_drewN|apply Kd.R_drew));exact HO_9.out⟩,⟨by(with_reducible repeat (first|apply Kd.N_alloc|apply Kd.N_drewN|apply Kd.N_drew));exact HO_10.out⟩,⟨by(with_reducible repeat (first|apply Kd.R_alloc|apply Kd.R_drewN|apply Kd.R_drew));exact HO_11.out⟩,⟨by(with_reducible repeat (first|apply Kd.N_alloc|apply Kd.N_drewN|apply Kd.N_drew));exact HO_12.out⟩,⟨bz⟩⟩
    case rest =>
     clear HC20
     try clear c2
     try clear p2
     try clear c3
     try clear c4
     try clear p4
     try clear q4
     try clear hx4
     try clear qi4
     try clear c5
     try clear p6
     try clear c27
     try clear c27b0
     try clear c28
     try clear c29
     try clear c30
     try clear c32
     try clear c32b0
     try clear c33
     try clear c35
     try clear c44
     try clear p44
     try clear q44
     try clear hx44
     try clear qi44
     try clear c45
     try clear p45
     try clear q45
     try clear hx45
     try clear c49
     try clear hx446_0
     try clear hx447_0
     try clear hx453_0
     try clear hx454_0
     try clear p446
     try clear p447
     try clear p454
     try clear q446
     try clear q447
     try clear q454
     obtain⟨kq,x11_19,x12_19,x13_19,rfl,HA,HJ19,HO_7,HO_8,HO_9,HO_10,HO_11,HO_12,HB⟩:=hcut
     cases kq with
     | zero=>exact absurd HA.out (by simp[spec_OrdDivide.j2])
     | succ kj19 =>
      have H:=HA.out;clear HA;simp only[spec_OrdDivide.j2] at H
      by_cases c53:0≤x13_19
      ·rw[if_pos c53] at H
       have c53b0:=eq_true c53;have c53b1:decide (0≤x13_19)=true:=decide_eq_true c53;clear c53
       by_cases c54:x13_19≤(t428.length:Int)
       ·rw[if_pos c54] at H
        have c54b0:=eq_true c54;have c54b1:decide (x13_19≤(t428.length:Int))=true:=decide_eq_true c54;clear c54;obtain⟨y461,hy461⟩:∃ y_:List Int,y_=(t428.drop (x13_19:Int).toNat):=⟨_,rfl⟩;replace H:(if x13_19≤(t431.length:Int) then((spec_l1Make.f kj19 y461 (t431.drop (x13_19:Int).toNat)).bind fun t471=>(if x13_19<(t428.length:Int) then(if x13_19<(t431.length:Int) then(if 0<(t437.length:Int) then((spec_l1Same.f kj19 (rd_L1 t431 x13_19) (rd_L1 t437 0)).bind fun t476=>(spec_OrdDivide.j3 kj19 l1 t428 t434 x11_19 x12_19 x13_19 t471 t476)) else(none)) else(none)) else(spec_OrdDivide.j3 kj19 l1 t428 t434 x11_19 x12_19 x13_19 t471 false))) else(none))=some (r1,r2,r3):=hz hy461 H;have Ny461:=Sd.mk hy461;clear hy461;have c55b0:=eq_true (dz:0≤x13_19)
        by_cases c56:x13_19≤(t431.length:Int)
        ·rw[if_pos c56] at H
         have c56b0:=eq_true c56;have c56b1:decide (x13_19≤(t431.length:Int))=true:=decide_eq_true c56;clear c56;obtain⟨y466,hy466⟩:∃ y_:List (List Int),y_=(t431.drop (x13_19:Int).toNat):=⟨_,rfl⟩;replace H:((spec_l1Make.f kj19 y461 y466).bind fun t471=>(if x13_19<(t428.length:Int) then(if x13_19<(t431.length:Int) then(if 0<(t437.length:Int) then((spec_l1Same.f kj19 (rd_L1 t431 x13_19) (rd_L1 t437 0)).bind fun t476=>(spec_OrdDivide.j3 kj19 l1 t428 t434 x11_19 x12_19 x13_19 t471 t476)) else(none)) else(none)) else(spec_OrdDivide.j3 kj19 l1 t428 t434 x11_19 x12_19 x13_19 t471 false)))=some (r1,r2,r3):=hz hy466 H;have Ny466:=Sd.mk hy466;clear hy466;replace H:=Option.bind_eq_some_iff.mp H;obtain⟨t471,A570,H⟩:=H;replace H:(if x13_19<(t428.length:Int) then(if x13_19<(t431.length:Int) then(if 0<(t437.length:Int) then((spec_l1Same.f kj19 (rd_L1 t431 x13_19) (rd_L1 t437 0)).bind fun t476=>(spec_OrdDivide.j3 kj19 l1 t428 t434 x11_19 x12_19 x13_19 t471 t476)) else(none)) else(none)) else(spec_OrdDivide.j3 kj19 l1 t428 t434 x11_19 x12_19 x13_19 t471 false))=some (r1,r2,r3):=H;have A57:=Sd.mk A570;clear A570;have HC58:=Sd.mk H;clear H
         try go_wp2
         have n0_:=Sd.mk (Kd.R_drew HO_7.out);have n1_:=Sd.mk (Kd.N_drew HO_8.out);have n2_:=Sd.mk (Kd.R_drew HO_9.out);have n3_:=Sd.mk (Kd.N_drew HO_10.out);have n4_:=Sd.mk (Kd.R_drew HO_11.out);have n5_:=Sd.mk (Kd.N_drew HO_12.out);have n6_:=Sd.mk (below_drew1 HB.out);clear HO_7;clear HO_8;clear HO_9;clear HO_10;clear HO_11;clear HO_12;clear HB;have HO_7:=n0_;have HO_8:=n1_;have HO_9:=n2_;have HO_10:=n3_;have HO_11:=n4_;have HO_12:=n5_;have HB:=n6_;clear n0_ n1_ n2_ n3_ n4_ n5_ n6_;obtain⟨Ao61,co61,eo61⟩:=Kd.R_slice HO_7.out
         (first|subst eo61|(injection eo61 with f1_ f2_ f3_;have f4_:=f1_.symm;have f5_:=f3_.symm;clear f1_ f2_ f3_;subst f4_;subst f5_))
         have q60:(x13_19:Int)≤((t428.length:Int):Int):=dz;obtain⟨i060,hi060,_,hsz60,_⟩:=info_parts info3;have hroom60:t428.length≤co61:=(Kd.R_reads' HO_7.out).2.1;have hC60:Kd.F (Kd.int .i64) _ _ Ao61 t428.length t428:=(Kd.V_at (base:=w.heap.size) (Kd.R_V (Kd.R_apart' (Kd.R_apart' (Kd.R_apart' (HO_7.out) (Kd.N_typed HO_8.out) (by decide)) (Kd.N_typed HO_10.out) (by decide)) (Kd.N_typed HO_12.out) (by decide)))).2.2;have q060:(0:Int)≤(x13_19:Int):=dz;have hcut60:=cut_from (P:=Try.prog) 22 3 .i64 Try.underlying22 hi060 1 hsz60 Ao61 t428.length co61 x13_19 q060 q60;have hr60:=Kd.F_cut (m:=(x13_19:Int).toNat) (c:=co61) hC60 (by omega) hroom60;obtain⟨A60,hA60⟩:∃ Aq_,Aq_=(if co61=(x13_19:Int).toNat then Ao61 else(Ao61:Option Addr).map (·.add ((x13_19:Int).toNat*1))):=⟨_,rfl⟩;obtain⟨c60,hc60⟩:∃ cq_,cq_=co61-(x13_19:Int).toNat:=⟨_,rfl⟩;have hy60:y461.length=t428.length-(x13_19:Int).toNat:=(by rw[Ny461.out,List.length_drop]<;>omega);rw[show (t428).drop (x13_19:Int).toNat=y461 from Ny461.out.symm] at hr60;replace hr60:Kd.F (Kd.int .i64) _ _ A60 y461.length y461:=(by rw[hA60];exact hr60);rw[← hy60,← hA60,← hc60] at hcut60;have HO465:=Sd.mk (show Kd.V (Kd.int .i64) 3 _ w.heap.size _ (.slice A60 y461.length c60) y461 from Kd.V_mk (by rw[hy60,hc60];exact Nat.sub_le_sub_right hroom60 _) hr60);have HC465:=Sd.mk (show y461.length≤c60 from by rw[hy60,hc60];exact Nat.sub_le_sub_right hroom60 _);clear hr60 hC60 hroom60 hi060 hsz60 hc60;have KY60:=Sd.mk hy60;have KA60:=Sd.mk hA60;clear hy60 hA60;replace q60:=eq_true q60;obtain⟨Ao63,co63,eo63⟩:=Kd.N_slice HO_8.out
         (first|subst eo63|(injection eo63 with f1_ f2_ f3_;have f4_:=f1_.symm;have f5_:=f3_.symm;clear f1_ f2_ f3_;subst f4_;subst f5_))
         have q62:(x13_19:Int)≤((t431.length:Int):Int):=dz;obtain⟨i062,hi062,_,hsz62,_⟩:=info_parts info22;have hroom62:t431.length≤co63:=(Kd.N_reads' HO_8.out).2.1;have hC62:Kd.F (Kd.slice 3 (Kd.int .i64)) _ _ Ao63 t431.length t431:=(Kd.V_at (base:=w.heap.size) (Kd.N_V HO_8.out)).2.2;have q062:(0:Int)≤(x13_19:Int):=dz;have hcut62:=cut_from (P:=Try.prog) 52 22 .i64 Try.underlying52 hi062 1 hsz62 Ao63 t431.length co63 x13_19 q062 q62;have hr62:=Kd.F_cut (m:=(x13_19:Int).toNat) (c:=co63) hC62 (by omega) hroom62;obtain⟨A62,hA62⟩:∃ Aq_,Aq_=(if co63=(x13_19:Int).toNat then Ao63 else(Ao63:Option Addr).map (·.add ((x13_19:Int).toNat*1))):=⟨_,rfl⟩;obtain⟨c62,hc62⟩:∃ cq_,cq_=co63-(x13_19:Int).toNat:=⟨_,rfl⟩;have hy62:y466.length=t431.length-(x13_19:Int).toNat:=(by rw[Ny466.out,List.length_drop]<;>omega);rw[show (t431).drop (x13_19:Int).toNat=y466 from Ny466.out.symm] at hr62;replace hr62:Kd.F (Kd.slice 3 (Kd.int .i64)) _ _ A62 y466.length y466:=(by rw[hA62];exact hr62);rw[← hy62,← hA62,← hc62] at hcut62;have HO470:=Sd.mk (show Kd.V (Kd.slice 3 (Kd.int .i64)) 22 _ w.heap.size _ (.slice A62 y466.length c62) y466 from Kd.V_mk (by rw[hy62,hc62];exact Nat.sub_le_sub_right hroom62 _) hr62);have HC470:=Sd.mk (show y466.length≤c62 from by rw[hy62,hc62];exact Nat.sub_le_sub_right hroom62 _);clear hr62 hC62 hroom62 hi062 hsz62 hc62;have KY62:=Sd.mk hy62;have KA62:=Sd.mk hA62;clear hy62 hA62;replace q62:=eq_true q62;refine start_ (n:=8) (S:=fun w'=>True) (ds:=[]) #[F,F,F,F,F,F,F,F] (by kernel_rfl) rfl rfl trivial (fun hHeld=>?_);refine with_tabW spec_OrdDivide.tab12 spec_OrdDivide.bits12 (fun HT_ HW_=>?_)
         generalize wc.drew=w59 at HO_7 HO_8 HO_9 HO_10 HO_11 HO_12 HB HO465 HO470 hHeld ⊢
         refine pq 0 (some 82) HT_.out rfl rfl ?_;refine pq 1 (some 83) HT_.out rfl rfl ?_;refine pq 2 (some 84) HT_.out rfl rfl ?_;refine pq 3 (some 85) HT_.out rfl rfl ?_;refine pq 4 (some 86) HT_.out rfl rfl ?_;refine pq 5 (some 87) HT_.out rfl rfl ?_;refine one_ (i:=6) (N:=some 88) #[T,T,T,T,T,T,T,F] rfl rfl (one_of HT_.out (by kernel_rfl)) (by decide) (fun K hK=>?_);refine goes_ Try.func54 (by kernel_rfl) rfl #[.slice A60 y461.length c60,.slice A62 y466.length c62] (by rfl) rfl rfl az ?_
         with_reducible refine(spec_l1Make.calls kj19 _ _ y461 _ _ y466 t471 _ ?side1 ?side2 ?side3 ?side4 A57.out).mono ?_
         (case side1=>exact Kd.Cz (Kd.V_reads' HO465.out).2.2)
         (case side2=>exact(Kd.V_reads' HO465.out).2.1)
         (case side3=>exact Kd.Cz (Kd.V_reads' HO470.out).2.2)
         (case side4=>exact(Kd.V_reads' HO470.out).2.1)
         rintro e w64 ⟨v472,rfl,ho0,hb⟩;refine⟨_,rfl,?_⟩;have n0_:=Sd.mk (Kd.R_elder' (Kd.Rz HO_7.out) (Kd.R_base ho0) hb);have n1_:=Sd.mk (Kd.N_elder' (Kd.Nz HO_8.out) (Kd.R_base ho0) hb);have n2_:=Sd.mk (Kd.R_elder' (Kd.Rz HO_9.out) (Kd.R_base ho0) hb);have n3_:=Sd.mk (Kd.N_elder' (Kd.Nz HO_10.out) (Kd.R_base ho0) hb);have n4_:=Sd.mk (Kd.R_elder' (Kd.Rz HO_11.out) (Kd.R_base ho0) hb);have n5_:=Sd.mk (Kd.N_elder' (Kd.Nz HO_12.out) (Kd.R_base ho0) hb);have n6_:=Sd.mk (Kd.V_elder' (Kd.Vz HO465.out) (Kd.R_base ho0) hb);have n7_:=Sd.mk (Kd.V_elder' (Kd.Vz HO470.out) (Kd.R_base ho0) hb);have n8_:=Sd.mk (Kd.R_lower (Kd.R_new' (Kd.R_new' (Kd.R_new' ho0 (Kd.R_lt (Kd.Rz HO_7.out))) (Kd.R_lt (Kd.Rz HO_9.out))) (Kd.R_lt (Kd.Rz HO_11.out))) (below_size bz));have n9_:=Sd.mk (below_step bz hb);clear HO_7;clear HO_8;clear HO_9;clear HO_10;clear HO_11;clear HO_12;clear HO465;clear HO470;clear HB;have HO_7:=n0_;have HO_8:=n1_;have HO_9:=n2_;have HO_10:=n3_;have HO_11:=n4_;have HO_12:=n5_;have HO465:=n6_;have HO470:=n7_;have HO473:=n8_;have HB:=n9_;clear n0_ n1_ n2_ n3_ n4_ n5_ n6_ n7_ n8_ n9_
         (try clear hb)
         (try clear hb2)
         (try clear hk)
         (try clear hi)
         (try clear ho0)
         refine hK.out _ _ trivial (fun hHeld=>?_);clear hK K;refine norm_ (a':=?_) ?_ ?_
         rotate_left
         ·show Act.put _ (some 88) _=_
          simp only[Act.put,s1,s2,s3,i64_w,i32_w]
          rfl
         refine pq 7 (some 14) HT_.out rfl rfl ?_;refine done_ (done_of HT_.out (by kernel_rfl)) ?_
         go_upto_region 13 with (fail)
         go_cut [102] (fun v102 wc=>∃ (kq:Nat) (x102_57:Bool),v102=.bool x102_57∧Sd (spec_OrdDivide.j3 kq l1 t428 t434 x11_19 x12_19 x13_19 t471 x102_57=some (r1,r2,r3))∧Sd (kq≤kj19)∧Sd (Kd.R (Kd.int .i64) 3 wc w.heap.size (fun k_=>some k_≠(v435:Value).ownBlock∧some k_≠(u11:Value).ownBlock∧some k_≠(v472:Value).ownBlock) (.slice Ao61 t428.length co61) t428)∧Sd (Kd.R (Kd.int .i64) 3 wc w.heap.size (fun k_=>some k_≠((.slice Ao61 t428.length co61):Value).ownBlock∧some k_≠(u11:Value).ownBlock∧some k_≠(v472:Value).ownBlock) v435 t434)∧Sd (Kd.R (Kd.int .i64) 3 wc w.heap.size (fun k_=>some k_≠((.slice Ao61 t428.length co61):Value).ownBlock∧some k_≠(v435:Value).ownBlock∧some k_≠(v472:Value).ownBlock) u11 x11_19)∧Sd (Kd.N (Kd.slice 3 (Kd.int .i64)) 22 wc w.heap.size (fun k_=>some k_≠((.slice Ao61 t428.length co61):Value).ownBlock∧some k_≠(v435:Value).ownBlock∧some k_≠(u11:Value).ownBlock∧some k_≠(v472:Value).ownBlock) u12 x12_19)∧Sd (Kd.R (Kd.int .i64) 3 wc w.heap.size (fun k_=>some k_≠((.slice Ao61 t428.length co61):Value).ownBlock∧some k_≠(v435:Value).ownBlock∧some k_≠(u11:Value).ownBlock) v472 t471)∧Sd (Below w.heap.size w wc))
         case first =>
          have H:=HC58.out;clear HC58
          by_cases c65:x13_19<(t428.length:Int)
          ·rw[if_pos c65] at H
           have c65b0:decide (x13_19<(t428.length:Int))=true:=decide_eq_true c65;clear c65
           (first|rw[c65b0]|(simp only[i64_w,i32_w];rw[c65b0])|skip)
           by_cases c66:x13_19<(t431.length:Int)
           ·rw[if_pos c66] at H
            have c66b0:decide (x13_19<(t431.length:Int))=true:=decide_eq_true c66;clear c66
            by_cases c67:0<(t437.length:Int)
            ·rw[if_pos c67] at H
             have c67b0:decide (0<(t437.length:Int))=true:=decide_eq_true c67;have c67b1:decide (0<t437.length)=true:=decide_eq_true (by omega);clear c67;replace H:=Option.bind_eq_some_iff.mp H;obtain⟨t476,A680,H⟩:=H;replace H:(spec_OrdDivide.j3 kj19 l1 t428 t434 x11_19 x12_19 x13_19 t471 t476)=some (r1,r2,r3):=H;have A68:=Sd.mk A680;clear A680;have H':=Sd.mk H;clear H
             try go_wp2
             have n0_:=Sd.mk (Kd.R_drew HO_7.out);have n1_:=Sd.mk (Kd.N_drew HO_8.out);have n2_:=Sd.mk (Kd.R_drew HO_9.out);have n3_:=Sd.mk (Kd.N_drew HO_10.out);have n4_:=Sd.mk (Kd.R_drew HO_11.out);have n5_:=Sd.mk (Kd.N_drew HO_12.out);have n6_:=Sd.mk (Kd.V_drew HO465.out);have n7_:=Sd.mk (Kd.V_drew HO470.out);have n8_:=Sd.mk (Kd.R_drew HO473.out);have n9_:=Sd.mk (below_drew1 HB.out);clear HO_7;clear HO_8;clear HO_9;clear HO_10;clear HO_11;clear HO_12;clear HO465;clear HO470;clear HO473;clear HB;have HO_7:=n0_;have HO_8:=n1_;have HO_9:=n2_;have HO_10:=n3_;have HO_11:=n4_;have HO_12:=n5_;have HO465:=n6_;have HO470:=n7_;have HO473:=n8_;have HB:=n9_;clear n0_ n1_ n2_ n3_ n4_ n5_ n6_ n7_ n8_ n9_;have p474:0≤(x13_19:Int):=dz;have q474:x13_19<(t431.length:Int):=dz;obtain⟨ad474,A474_0,c474_0,e474,hx474_0,hl474_0,hi474_0⟩:=at_L1 (Kd.N_reads' HO_8.out).2.2 x13_19 p474 q474;cases e474;obtain⟨ce474,hce474,hMe474,hcc474⟩:=Kd.N_get HO_8.out [] x13_19 p474 (by first|exact q474|exact dz|(have e_:=(Kd.N_reads' HO_8.out).1;omega));obtain⟨ua474_0,uc474_0,rfl,ul474_0,ge474_0⟩:=Kd.FK_slice_open hMe474;have hv474_0:=hcc474 0 _ rfl;rw[Nat.add_zero,show ((Kd.slice 3 (Kd.int .i64))).sz=1 from rfl,Nat.mul_one] at hv474_0;replace hv474_0:=Option.some.inj (hv474_0.symm.trans hx474_0)
             injection hv474_0 with hva_ hvn_ hvc_
             rw[hva_] at ge474_0;rw[hvc_] at ul474_0;have HL474_0:=Sd.mk (show Kd.V (Kd.int .i64) 3 _ w.heap.size _ _ (rd_L1 t431 x13_19) from Kd.V_mk ul474_0 ge474_0);clear hva_ hvn_ hvc_ ge474_0 ul474_0;clear hcc474 hce474;have HR474_0:=Sd.mk hi474_0;have HC474_0:=Sd.mk hl474_0;clear hi474_0 hl474_0;replace p474:=eq_true p474;replace q474:=eq_true q474;obtain⟨Ao70,co70,eo70⟩:=Kd.N_slice HO_10.out
             (first|subst eo70|(injection eo70 with f1_ f2_ f3_;have f4_:=f1_.symm;have f5_:=f3_.symm;clear f1_ f2_ f3_;subst f4_;subst f5_))
             have p475:0≤(0:Int):=(by omega);have q475:0<(t437.length:Int):=dz;obtain⟨ad475,A475_0,c475_0,e475,hx475_0,hl475_0,hi475_0⟩:=at_L1 (Kd.N_reads' HO_10.out).2.2 0 p475 q475;cases e475;obtain⟨ce475,hce475,hMe475,hcc475⟩:=Kd.N_get HO_10.out [] 0 p475 (by first|exact q475|exact dz|(have e_:=(Kd.N_reads' HO_10.out).1;omega));obtain⟨ua475_0,uc475_0,rfl,ul475_0,ge475_0⟩:=Kd.FK_slice_open hMe475;have hv475_0:=hcc475 0 _ rfl;rw[Nat.add_zero,show ((Kd.slice 3 (Kd.int .i64))).sz=1 from rfl,Nat.mul_one] at hv475_0;replace hv475_0:=Option.some.inj (hv475_0.symm.trans hx475_0)
             injection hv475_0 with hva_ hvn_ hvc_
             rw[hva_] at ge475_0;rw[hvc_] at ul475_0;have HL475_0:=Sd.mk (show Kd.V (Kd.int .i64) 3 _ w.heap.size _ _ (rd_L1 t437 0) from Kd.V_mk ul475_0 ge475_0);clear hva_ hvn_ hvc_ ge475_0 ul475_0;clear hcc475 hce475;have qi475:(0<t437.length)=True:=eq_true (by omega)
             (try rw[show ((0:Int)).toNat=0 from rfl] at hx475_0)
             (try rw[Addr.add_zero'] at hx475_0)
             have HR475_0:=Sd.mk hi475_0;have HC475_0:=Sd.mk hl475_0;clear hi475_0 hl475_0;replace p475:=eq_true p475;replace q475:=eq_true q475;refine start_ (n:=14) (S:=fun w'=>w'.cell? (ad474.add (x13_19).toNat)=some (.slice A474_0 (rd_L1 t431 x13_19).length c474_0)∧w'.cell? ad475=some (.slice A475_0 (rd_L1 t437 0).length c475_0)) (ds:=[]) #[F,F,F,F,F,F,F,F,F,F,F,F,F,F] (by kernel_rfl) rfl rfl ⟨hx474_0,hx475_0⟩ (fun hHeld=>?_);refine with_tabW spec_OrdDivide.tab13 spec_OrdDivide.bits13 (fun HT_ HW_=>?_)
             generalize w64.drew=w69 at HO_7 HO_8 HO_9 HO_10 HO_11 HO_12 HO465 HO470 HO473 HB HL474_0 HL475_0 HR474_0 HR475_0 hx474_0 hx475_0 hHeld ⊢
             refine pq 0 (some 89) HT_.out rfl rfl ?_;refine pq 1 (some 90) HT_.out rfl rfl ?_;refine pq 2 (some 91) HT_.out rfl rfl ?_;refine pq 3 (some 92) HT_.out rfl rfl ?_;refine pq 4 (some 93) HT_.out rfl rfl ?_;refine pq 5 (some 94) HT_.out rfl rfl ?_;refine pq 6 (some 95) HT_.out rfl rfl ?_;refine pq 7 (some 96) HT_.out rfl rfl ?_;refine pq 9 (some 98) HT_.out rfl rfl ?_;refine pq 10 (some 99) HT_.out rfl rfl ?_;refine take_ (i:=8) (N:=some 97) (v:=?_) (a':=?_) #[T,T,T,T,T,T,T,T,T,T,T,F,F,F] rfl rfl (take_ofW HT_.out HW_.out (by kernel_rfl)) (fun _ _ _ h=>h) (Or.inl ⟨by rfl,?_⟩) hHeld ?_ ?_
             rotate_left;(· rintro w' ⟨s0,s1⟩;go_simp;with_reducible rfl);rotate_left;(· simp only[Act.put,s1,s2,s3,i64_w,i32_w];rfl)
             refine take_ (i:=11) (N:=some 100) (v:=?_) (a':=?_) #[T,T,T,T,T,T,T,T,T,T,T,T,F,F] rfl rfl (take_ofW HT_.out HW_.out (by kernel_rfl)) (fun _ _ _ h=>h) (Or.inl ⟨by rfl,?_⟩) hHeld ?_ ?_
             rotate_left;(· rintro w' ⟨s0,s1⟩;go_simp;with_reducible rfl);rotate_left;(· simp only[Act.put,s1,s2,s3,i64_w,i32_w];rfl)
             refine one_ (i:=12) (N:=some 101) #[T,T,T,T,T,T,T,T,T,T,T,T,T,F] rfl rfl (one_of HT_.out (by kernel_rfl)) (by decide) (fun K hK=>?_);refine goes_ Try.func61 (by kernel_rfl) rfl #[.slice A474_0 (rd_L1 t431 x13_19).length c474_0,.slice A475_0 (rd_L1 t437 0).length c475_0] (by rfl) rfl rfl az ?_
             with_reducible refine(spec_l1Same.calls kj19 _ _ (rd_L1 t431 x13_19) _ _ (rd_L1 t437 0) t476 _ ?side1 ?side2 ?side3 ?side4 A68.out).mono ?_
             (case side1=>exact(Kd.Cz HR474_0.out))
             (case side2=>exact HC474_0.out)
             (case side3=>exact(Kd.Cz HR475_0.out))
             (case side4=>exact HC475_0.out)
             rintro e w' ⟨rfl,⟨nd,rfl⟩⟩;refine⟨_,rfl,?_⟩;refine hK.out _ _ ⟨hHeld.1,hHeld.2⟩ (fun hHeld=>?_);clear hK K;refine norm_ (a':=?_) ?_ ?_
             rotate_left
             ·show Act.put _ (some 101) _=_
              simp only[Act.put,s1,s2,s3,i64_w,i32_w]
              rfl
             refine pq 13 (some 102) HT_.out rfl rfl ?_;refine done_ (done_of HT_.out (by kernel_rfl)) ?_
             try go_wp2
             go_meet
             case rel=>exact⟨_,(t476),(by first|rfl|(simp;done)|(simp[*];done)),H',⟨by have:=HJ2.out;have:=HJ19.out;first|omega|exact Nat.le_refl _⟩,⟨Kd.Rz <| Kd.R_mono HO_7.out (fun _ hk=>⟨hk.1.1,⟨hk.1.2,hk.2⟩⟩)⟩,⟨Kd.Rz <| Kd.R_mono HO_9.out (fun _ hk=>⟨hk.1.1,⟨hk.1.2,hk.2⟩⟩)⟩,⟨Kd.Rz <| Kd.R_mono HO_11.out (fun _ hk=>⟨hk.1.1,⟨hk.1.2,hk.2⟩⟩)⟩,⟨Kd.Nz <| Kd.N_mono HO_12.out (fun _ hk=>⟨hk.1.1,⟨hk.1.2.2.1,⟨hk.1.2.2.2.2,hk.2⟩⟩⟩)⟩,⟨Kd.Rz <| Kd.R_mono HO473.out (fun _ hk=>⟨hk.1.1.2,⟨hk.1.2,hk.2⟩⟩)⟩,⟨bz⟩⟩
            ·rw[if_neg c67] at H
             exact absurd H (by simp)
           ·rw[if_neg c66] at H
            exact absurd H (by simp)
          ·rw[if_neg c65] at H
           have c65b0:decide (x13_19<(t428.length:Int))=false:=decide_eq_false c65;clear c65
           (first|rw[c65b0]|(simp only[i64_w,i32_w];rw[c65b0])|skip)
           have H':=Sd.mk H;clear H
           try go_wp2
           have n0_:=Sd.mk (Kd.R_drew HO_7.out);have n1_:=Sd.mk (Kd.N_drew HO_8.out);have n2_:=Sd.mk (Kd.R_drew HO_9.out);have n3_:=Sd.mk (Kd.N_drew HO_10.out);have n4_:=Sd.mk (Kd.R_drew HO_11.out);have n5_:=Sd.mk (Kd.N_drew HO_12.out);have n6_:=Sd.mk (Kd.V_drew HO465.out);have n7_:=Sd.mk (Kd.V_drew HO470.out);have n8_:=Sd.mk (Kd.R_drew HO473.out);have n9_:=Sd.mk (below_drew1 HB.out);clear HO_7;clear HO_8;clear HO_9;clear HO_10;clear HO_11;clear HO_12;clear HO465;clear HO470;clear HO473;clear HB;have HO_7:=n0_;have HO_8:=n1_;have HO_9:=n2_;have HO_10:=n3_;have HO_11:=n4_;have HO_12:=n5_;have HO465:=n6_;have HO470:=n7_;have HO473:=n8_;have HB:=n9_;clear n0_ n1_ n2_ n3_ n4_ n5_ n6_ n7_ n8_ n9_;refine start_ (n:=14) (S:=fun w'=>True) (ds:=[]) #[F,F,F,F,F,F,F,F,F,F,F,F,F,F] (by kernel_rfl) rfl rfl trivial (fun hHeld=>?_);refine with_tabW spec_OrdDivide.tab13 spec_OrdDivide.bits13 (fun HT_ HW_=>?_)
           generalize w64.drew=w71 at HO_7 HO_8 HO_9 HO_10 HO_11 HO_12 HO465 HO470 HO473 HB hHeld ⊢
           refine pq 0 (some 89) HT_.out rfl rfl ?_;refine pq 1 (some 90) HT_.out rfl rfl ?_;refine pq 2 (some 91) HT_.out rfl rfl ?_;refine pq 3 (some 92) HT_.out rfl rfl ?_;refine pq 4 (some 93) HT_.out rfl rfl ?_;refine pu 5 (some 94) HT_.out rfl rfl ?_;refine pu 6 (some 95) HT_.out rfl rfl ?_;refine pu 7 (some 96) HT_.out rfl rfl ?_;refine pu 8 (some 97) HT_.out rfl rfl ?_;refine pu 9 (some 98) HT_.out rfl rfl ?_;refine pu 10 (some 99) HT_.out rfl rfl ?_;refine pu 11 (some 100) HT_.out rfl rfl ?_;refine pu 12 (some 101) HT_.out rfl rfl ?_;refine pq 13 (some 102) HT_.out rfl rfl ?_;refine done_ (done_of HT_.out (by kernel_rfl)) ?_
           try go_wp2
           go_meet
           case rel=>exact⟨_,(false),(by first|rfl|(simp;done)|(simp[*];done)),H',⟨by have:=HJ2.out;have:=HJ19.out;first|omega|exact Nat.le_refl _⟩,⟨Kd.Rz <| Kd.R_mono HO_7.out (fun _ hk=>⟨hk.1.1,⟨hk.1.2,hk.2⟩⟩)⟩,⟨Kd.Rz <| Kd.R_mono HO_9.out (fun _ hk=>⟨hk.1.1,⟨hk.1.2,hk.2⟩⟩)⟩,⟨Kd.Rz <| Kd.R_mono HO_11.out (fun _ hk=>⟨hk.1.1,⟨hk.1.2,hk.2⟩⟩)⟩,⟨Kd.Nz <| Kd.N_mono HO_12.out (fun _ hk=>⟨hk.1.1,⟨hk.1.2.2.1,⟨hk.1.2.2.2.2,hk.2⟩⟩⟩)⟩,⟨Kd.Rz <| Kd.R_mono HO473.out (fun _ hk=>⟨hk.1.1.2,⟨hk.1.2,hk.2⟩⟩)⟩,⟨bz⟩⟩
         case rest =>
          clear HC58
          try clear c1
          try clear c2
          try clear p2
          try clear c3
          try clear c4
          try clear p4
          try clear q4
          try clear hx4
          try clear qi4
          try clear c5
          try clear c6
          try clear q6
          try clear c29
          try clear c30
          try clear c32
          try clear c32b0
          try clear c33
          try clear c35
          try clear c44
          try clear p44
          try clear q44
          try clear hx44
          try clear qi44
          try clear c45
          try clear p45
          try clear q45
          try clear hx45
          try clear c47
          try clear p47
          try clear q47
          try clear hx47
          try clear qi47
          try clear c49
          try clear c53
          try clear c53b0
          try clear c53b1
          try clear c54
          try clear c54b0
          try clear c54b1
          try clear c55
          try clear c55b0
          try clear c56
          try clear c56b0
          try clear c56b1
          try clear c60
          try clear q60
          try clear c61
          try clear c62
          try clear q62
          try clear c65
          try clear c65b0
          try clear c66
          try clear c66b0
          try clear c67
          try clear c67b0
          try clear c67b1
          try clear hx446_0
          try clear hx447_0
          try clear hx453_0
          try clear hx454_0
          try clear hx474_0
          try clear hx475_0
          try clear p44
          try clear p446
          try clear p447
          try clear p45
          try clear p454
          try clear p474
          try clear p475
          try clear q060
          try clear q062
          try clear q44
          try clear q446
          try clear q447
          try clear q45
          try clear q454
          try clear q474
          try clear q475
          try clear q60
          try clear q62
          obtain⟨kq,x102_57,rfl,HA,HJ57,HO_7,HO_9,HO_11,HO_12,HO_14,HB⟩:=hcut
          cases kq with
          | zero=>exact absurd HA.out (by simp[spec_OrdDivide.j3])
          | succ kj57 =>
           have H:=HA.out;clear HA;simp only[spec_OrdDivide.j3] at H;have HC72:=Sd.mk H;clear H
           go_upto_if 102 with (fail)
           go_cut [11,12,14] (fun v11 v12 v14 wc=>∃ (kq:Nat) (x11_71:List Int) (x12_71:List (List Int)) (x14_71:List Int),Sd (spec_OrdDivide.j6 kq x11_71 x12_71 x14_71=some (r1,r2,r3))∧Sd (kq≤kj57)∧Sd (Kd.R (Kd.int .i64) 3 wc w.heap.size (fun k_=>some k_≠(v14:Value).ownBlock) v11 x11_71)∧Sd (Kd.N (Kd.slice 3 (Kd.int .i64)) 22 wc w.heap.size (fun k_=>some k_≠(v11:Value).ownBlock∧some k_≠(v14:Value).ownBlock) v12 x12_71)∧Sd (Kd.R (Kd.int .i64) 3 wc w.heap.size (fun k_=>some k_≠(v11:Value).ownBlock) v14 x14_71)∧Sd (Below w.heap.size w wc))
           case first =>
            have H:=HC72.out;clear HC72
            by_cases c73:x102_57=true
            ·subst c73
             have H1:(if 0≤x13_19 then(if x13_19<(t428.length:Int) then(if 0<(t434.length:Int) then(if(rd t434 0)=0 then(none) else(if(wrap64 (Int.tdiv (rd t428 x13_19) (rd t434 0)))>0 then((spec_l2Times.f kj57 l1 (([1,wrap64 (Int.tdiv (rd t428 x13_19) (rd t434 0)),0]:List Int))).bind fun t482=>((spec_l1Compare.f kj57 t482 t471).bind fun t485=>(spec_OrdDivide.j4 kj57 l1 x11_19 x12_19 t471 (wrap64 (Int.tdiv (rd t428 x13_19) (rd t434 0))) (decide (t485>0))))) else(spec_OrdDivide.j4 kj57 l1 x11_19 x12_19 t471 (wrap64 (Int.tdiv (rd t428 x13_19) (rd t434 0))) false))) else(none)) else(none)) else(none))=some (r1,r2,r3):=by rw[if_pos rfl] at H;exact H
             clear H;have H:=H1;clear H1
             by_cases c74:0≤x13_19
             ·rw[if_pos c74] at H
              have c74b0:decide (0≤x13_19)=true:=decide_eq_true c74;clear c74
              (first|rw[c74b0]|(simp only[i64_w,i32_w];rw[c74b0])|skip)
              by_cases c75:x13_19<(t428.length:Int)
              ·rw[if_pos c75] at H
               have c75b0:decide (x13_19<(t428.length:Int))=true:=decide_eq_true c75;clear c75
               by_cases c76:0<(t434.length:Int)
               ·rw[if_pos c76] at H
                have c76b0:decide (0<(t434.length:Int))=true:=decide_eq_true c76;have c76b1:decide (0<t434.length)=true:=decide_eq_true (by omega);clear c76
                by_cases c77:(rd t434 0)=0
                ·rw[if_pos c77] at H
                 exact absurd H (by simp)
                ·rw[if_neg c77] at H
                 have c77b0:((rd t434 0) == 0)=false:=beq_eq_false_iff_ne.mpr c77;have c77b1:((rd t434 0) != 0)=true:=bne_iff_ne.mpr c77;have HC78:=Sd.mk H;clear H
                 try go_wp2
                 have n0_:=Sd.mk (Kd.R_drew HO_7.out);have n1_:=Sd.mk (Kd.R_drew HO_9.out);have n2_:=Sd.mk (Kd.R_drew HO_11.out);have n3_:=Sd.mk (Kd.N_drew HO_12.out);have n4_:=Sd.mk (Kd.R_drew HO_14.out);have n5_:=Sd.mk (below_drew1 HB.out);clear HO_7;clear HO_9;clear HO_11;clear HO_12;clear HO_14;clear HB;have HO_7:=n0_;have HO_9:=n1_;have HO_11:=n2_;have HO_12:=n3_;have HO_14:=n4_;have HB:=n5_;clear n0_ n1_ n2_ n3_ n4_ n5_;have p477:0≤(x13_19:Int):=dz;have q477:x13_19<(t428.length:Int):=dz;obtain⟨ad477,e477,hx477_0⟩:=Kd.at_int (Kd.R_reads' HO_7.out).2.2 x13_19 p477 q477;cases e477;replace p477:=eq_true p477;replace q477:=eq_true q477;obtain⟨Ao80,co80,eo80⟩:=Kd.R_slice HO_9.out
                 (first|subst eo80|(injection eo80 with f1_ f2_ f3_;have f4_:=f1_.symm;have f5_:=f3_.symm;clear f1_ f2_ f3_;subst f4_;subst f5_))
                 have p478:0≤(0:Int):=(by omega);have q478:0<(t434.length:Int):=dz;obtain⟨ad478,e478,hx478_0⟩:=Kd.at_int (Kd.R_reads' HO_9.out).2.2 0 p478 q478;cases e478;have qi478:(0<t434.length)=True:=eq_true (by omega)
                 (try rw[show ((0:Int)).toNat=0 from rfl] at hx478_0)
                 (try rw[Addr.add_zero'] at hx478_0)
                 replace p478:=eq_true p478;replace q478:=eq_true q478;refine start_ (n:=9) (S:=fun w'=>w'.cell? (ad477.add (x13_19).toNat)=some (.int .i64 (rd t428 x13_19))∧w'.cell? ad478=some (.int .i64 (rd t434 0))) (ds:=[]) #[F,F,F,F,F,F,F,F,F] (by kernel_rfl) rfl rfl ⟨hx477_0,hx478_0⟩ (fun hHeld=>?_);refine with_tabW spec_OrdDivide.tab14 spec_OrdDivide.bits14 (fun HT_ HW_=>?_)
                 generalize wc.drew=w79 at HO_7 HO_9 HO_11 HO_12 HO_14 HB hx477_0 hx478_0 hHeld ⊢
                 refine pq 0 (some 103) HT_.out rfl rfl ?_;refine pq 1 (some 104) HT_.out rfl rfl ?_;refine pq 2 (some 105) HT_.out rfl rfl ?_;refine pq 4 (some 107) HT_.out rfl rfl ?_;refine pq 5 (some 108) HT_.out rfl rfl ?_;refine take_ (i:=3) (N:=some 106) (v:=?_) (a':=?_) #[T,T,T,T,T,T,F,F,F] rfl rfl (take_ofW HT_.out HW_.out (by kernel_rfl)) (fun _ _ _ h=>h) (Or.inl ⟨by rfl,?_⟩) hHeld ?_ ?_
                 rotate_left;(· rintro w' ⟨s0,s1⟩;go_simp;with_reducible rfl);rotate_left;(· simp only[Act.put,s1,s2,s3,i64_w,i32_w];rfl)
                 refine take_ (i:=6) (N:=some 109) (v:=?_) (a':=?_) #[T,T,T,T,T,T,T,F,F] rfl rfl (take_ofW HT_.out HW_.out (by kernel_rfl)) (fun _ _ _ h=>h) (Or.inl ⟨by rfl,?_⟩) hHeld ?_ ?_
                 rotate_left;(· rintro w' ⟨s0,s1⟩;go_simp;with_reducible rfl);rotate_left;(· simp only[Act.put,s1,s2,s3,i64_w,i32_w];rfl)
                 refine pq 7 (some 110) HT_.out rfl rfl ?_;refine pq 8 (some 15) HT_.out rfl rfl ?_;refine done_ (done_of HT_.out (by kernel_rfl)) ?_
                 go_upto_region 15 with (fail)
                 go_cut [121] (fun v121 wc=>∃ (kq:Nat) (x121_77:Bool),v121=.bool x121_77∧Sd (spec_OrdDivide.j4 kq l1 x11_19 x12_19 t471 (wrap64 (Int.tdiv (rd t428 x13_19) (rd t434 0))) x121_77=some (r1,r2,r3))∧Sd (kq≤kj57)∧Sd (Kd.R (Kd.int .i64) 3 wc w.heap.size (fun k_=>some k_≠(v472:Value).ownBlock) u11 x11_19)∧Sd (Kd.N (Kd.slice 3 (Kd.int .i64)) 22 wc w.heap.size (fun k_=>some k_≠(u11:Value).ownBlock∧some k_≠(v472:Value).ownBlock) u12 x12_19)∧Sd (Kd.R (Kd.int .i64) 3 wc w.heap.size (fun k_=>some k_≠(u11:Value).ownBlock) v472 t471)∧Sd (Below w.heap.size w wc))
                 case first =>
                  have H:=HC78.out;clear HC78
                  by_cases c81:(wrap64 (Int.tdiv (rd t428 x13_19) (rd t434 0)))>0
                  ·rw[if_pos c81] at H
                   have c81b0:decide (0<(wrap64 (Int.tdiv (rd t428 x13_19) (rd t434 0))))=true:=decide_eq_true c81;clear c81
                   (first|rw[c81b0]|(simp only[i64_w,i32_w];rw[c81b0])|skip)
                   obtain⟨y479,hy479⟩:∃ y_:List Int,y_=(([1,wrap64 (Int.tdiv (rd t428 x13_19) (rd t434 0)),0]:List Int)):=⟨_,rfl⟩;replace H:((spec_l2Times.f kj57 l1 y479).bind fun t482=>((spec_l1Compare.f kj57 t482 t471).bind fun t485=>(spec_OrdDivide.j4 kj57 l1 x11_19 x12_19 t471 (wrap64 (Int.tdiv (rd t428 x13_19) (rd t434 0))) (decide (t485>0)))))=some (r1,r2,r3):=hz hy479 H;have Ny479:=Sd.mk hy479;clear hy479;replace H:=Option.bind_eq_some_iff.mp H;obtain⟨t482,A820,H⟩:=H;replace H:((spec_l1Compare.f kj57 t482 t471).bind fun t485=>(spec_OrdDivide.j4 kj57 l1 x11_19 x12_19 t471 (wrap64 (Int.tdiv (rd t428 x13_19) (rd t434 0))) (decide (t485>0))))=some (r1,r2,r3):=H;have A82:=Sd.mk A820;clear A820;replace H:=Option.bind_eq_some_iff.mp H;obtain⟨t485,A830,H⟩:=H;replace H:(spec_OrdDivide.j4 kj57 l1 x11_19 x12_19 t471 (wrap64 (Int.tdiv (rd t428 x13_19) (rd t434 0))) (decide (t485>0)))=some (r1,r2,r3):=H;have A83:=Sd.mk A830;clear A830;have H':=Sd.mk H;clear H;go_wp2_with (first|((with_reducible refine gate_dst (N:=116) rfl ?_);refine Kd.R_lit_g (Kd.int .i64) _ 3 ?hg (N:=116) ?hd (xs:=([1,wrap64 (Int.tdiv (rd t428 x13_19) (rd t434 0)),0]:List Int)) (inner:=[.int .i64 1,.int .i64 (wrap64 (Int.tdiv (rd t428 x13_19) (rd t434 0))),.int .i64 0]) (ok:=fun _=>True) (okp:=fun _=>True) ?hr ?hp (fun _ hk=>hk) trivial (Below.refl _ _) (Nat.le_refl _) (by simp) ?_;(case hd=>rfl);(case hg=>rfl);(case hr=>first|(go_simp;done)|(go_simp;rfl));(case hp=>exact(Reps.one (show Kd.M (Kd.int .i64) _ _ _ 1 [.int .i64 1] from rfl) (Reps.one (show Kd.M (Kd.int .i64) _ _ _ (wrap64 (Int.tdiv (rd t428 x13_19) (rd t434 0))) [.int .i64 (wrap64 (Int.tdiv (rd t428 x13_19) (rd t434 0)))] from rfl) (Reps.one (show Kd.M (Kd.int .i64) _ _ _ 0 [.int .i64 0] from rfl) (Reps.none _ _)))));intro v480 w84 ho85 hb hg_ hnew_;clear hg_ hnew_;(first|rw[← Ny479.out] at ho85|(simp only[Int.reduceToNat] at ho85;rw[← Ny479.out] at ho85));replace HO_12:=Sd.mk (Kd.N_elder' (Kd.Nz HO_12.out) (Kd.R_base ho85) hb);have HO481:=Sd.mk (Kd.R_lower (Kd.R_new' (Kd.R_new' (Kd.R_new' (Kd.R_new' ho85 (Kd.R_lt (Kd.Rz HO_7.out))) (Kd.R_lt (Kd.Rz HO_9.out))) (Kd.R_lt (Kd.Rz HO_11.out))) (Kd.R_lt (Kd.Rz HO_14.out))) (below_size bz));replace HO_7:=Sd.mk (Kd.R_elder' (Kd.Rz HO_7.out) (Kd.R_base ho85) hb);replace HO_9:=Sd.mk (Kd.R_elder' (Kd.Rz HO_9.out) (Kd.R_base ho85) hb);replace HO_11:=Sd.mk (Kd.R_elder' (Kd.Rz HO_11.out) (Kd.R_base ho85) hb);replace HO_14:=Sd.mk (Kd.R_elder' (Kd.Rz HO_14.out) (Kd.R_base ho85) hb);replace HB:=Sd.mk (below_step bz hb);clear hb ho85;obtain⟨Ao86,co86,eo86⟩:=Kd.R_slice HO481.out;subst eo86)|(go_at_call 56;(with_reducible refine(spec_l2Times.calls kj57 _ _ l1 _ _ y479 t482 _ ?side1 ?side2 ?side3 ?side4 A82.out).mono ?_);(case side1=>exact Kd.Cz (Kd.C_below HR1.out HB.out));(case side2=>exact HC1.out);(case side3=>exact Kd.Cz (Kd.R_reads' HO481.out).2.2);(case side4=>exact(Kd.R_reads' HO481.out).2.1);rintro e w87 ⟨v483,rfl,ho0,hb⟩;replace HO_12:=Sd.mk (Kd.N_elder' (Kd.Nz HO_12.out) (Kd.R_base ho0) hb);have HO484:=Sd.mk (Kd.R_lower (Kd.R_new' (Kd.R_new' (Kd.R_new' (Kd.R_new' (Kd.R_new' ho0 (Kd.R_lt (Kd.Rz HO_7.out))) (Kd.R_lt (Kd.Rz HO_9.out))) (Kd.R_lt (Kd.Rz HO_11.out))) (Kd.R_lt (Kd.Rz HO_14.out))) (Kd.R_lt (Kd.Rz HO481.out))) (below_size bz));replace HO_7:=Sd.mk (Kd.R_elder' (Kd.Rz HO_7.out) (Kd.R_base ho0) hb);replace HO_9:=Sd.mk (Kd.R_elder' (Kd.Rz HO_9.out) (Kd.R_base ho0) hb);replace HO_11:=Sd.mk (Kd.R_elder' (Kd.Rz HO_11.out) (Kd.R_base ho0) hb);replace HO_14:=Sd.mk (Kd.R_elder' (Kd.Rz HO_14.out) (Kd.R_base ho0) hb);replace HO481:=Sd.mk (Kd.R_elder' (Kd.Rz HO481.out) (Kd.R_base ho0) hb);replace HB:=Sd.mk (below_step bz hb);(try clear hb);(try clear hb2);(try clear hk);(try clear hi);(try clear ho0);obtain⟨Ao88,co88,eo88⟩:=Kd.R_slice HO484.out;subst eo88;obtain⟨Ao89,co89,eo89⟩:=Kd.R_slice HO_14.out;subst eo89)|(go_at_call 53;(with_reducible refine(spec_l1Compare.calls kj57 _ _ t482 _ _ t471 t485 _ ?side1 ?side2 ?side3 ?side4 A83.out).mono ?_);(case side1=>exact Kd.Cz (Kd.R_reads' HO484.out).2.2);(case side2=>exact(Kd.R_reads' HO484.out).2.1);(case side3=>exact Kd.Cz (Kd.R_reads' HO_14.out).2.2);(case side4=>exact(Kd.R_reads' HO_14.out).2.1);rintro e w90 ⟨rfl,hb⟩;replace HO_7:=Sd.mk (Kd.R_below (Kd.Rz HO_7.out) hb);replace HO_9:=Sd.mk (Kd.R_below (Kd.Rz HO_9.out) hb);replace HO_11:=Sd.mk (Kd.R_below (Kd.Rz HO_11.out) hb);replace HO_12:=Sd.mk (Kd.N_below (Kd.Nz HO_12.out) hb);replace HO_14:=Sd.mk (Kd.R_below (Kd.Rz HO_14.out) hb);replace HO481:=Sd.mk (Kd.R_below (Kd.Rz HO481.out) hb);replace HO484:=Sd.mk (Kd.R_below (Kd.Rz HO484.out) hb);replace HB:=Sd.mk (below_step bz hb);(try clear hb);(try clear hb2);(try clear hk);(try clear hi)));go_meet
                   case rel=>exact⟨_,(decide (t485>0)),(by first|rfl|(simp;done)|(simp[*];done)),H',⟨by have:=HJ2.out;have:=HJ19.out;have:=HJ57.out;first|omega|exact Nat.le_refl _⟩,⟨Kd.Rz <| Kd.R_mono HO_11.out (fun _ hk=>hk.1.1.2.2)⟩,⟨Kd.Nz <| Kd.N_mono HO_12.out (fun _ hk=>⟨hk.1.1.2.2.1,hk.1.1.2.2.2⟩)⟩,⟨Kd.Rz <| Kd.R_mono HO_14.out (fun _ hk=>hk.1.1.2.2)⟩,⟨bz⟩⟩
                  ·rw[if_neg c81] at H
                   have c81b0:decide (0<(wrap64 (Int.tdiv (rd t428 x13_19) (rd t434 0))))=false:=decide_eq_false c81;clear c81
                   (first|rw[c81b0]|(simp only[i64_w,i32_w];rw[c81b0])|skip)
                   have H':=Sd.mk H;clear H;go_wp2;go_meet
                   case rel=>exact⟨_,(false),(by first|rfl|(simp;done)|(simp[*];done)),H',⟨by have:=HJ2.out;have:=HJ19.out;have:=HJ57.out;first|omega|exact Nat.le_refl _⟩,⟨Kd.Rz <| Kd.R_mono HO_11.out (fun _ hk=>hk.2.2)⟩,⟨Kd.Nz <| Kd.N_mono HO_12.out (fun _ hk=>⟨hk.2.2.1,hk.2.2.2⟩)⟩,⟨Kd.Rz <| Kd.R_mono HO_14.out (fun _ hk=>hk.2.2)⟩,⟨bz⟩⟩
                 case rest =>
                  clear HC78
                  try clear c1
                  try clear c2
                  try clear p2
                  try clear c3
                  try clear c4
                  try clear p4
                  try clear q4
                  try clear hx4
                  try clear qi4
                  try clear c5
                  try clear c6
                  try clear p6
                  try clear q6
                  try clear c7
                  try clear c8
                  try clear c29
                  try clear c30
                  try clear c32
                  try clear c32b0
                  try clear c33
                  try clear c35
                  try clear c44
                  try clear p44
                  try clear q44
                  try clear hx44
                  try clear qi44
                  try clear c45
                  try clear p45
                  try clear q45
                  try clear hx45
                  try clear c47
                  try clear p47
                  try clear q47
                  try clear hx47
                  try clear qi47
                  try clear c49
                  try clear c53
                  try clear c53b0
                  try clear c53b1
                  try clear c54
                  try clear c54b0
                  try clear c54b1
                  try clear c55
                  try clear c55b0
                  try clear c56
                  try clear c56b0
                  try clear c56b1
                  try clear c60
                  try clear q60
                  try clear c61
                  try clear c62
                  try clear q62
                  try clear p64
                  try clear c65
                  try clear c65b0
                  try clear c66
                  try clear c66b0
                  try clear c67
                  try clear c67b0
                  try clear c67b1
                  try clear c73
                  try clear c74
                  try clear c74b0
                  try clear c75
                  try clear c75b0
                  try clear c76
                  try clear c76b0
                  try clear c76b1
                  try clear c77
                  try clear c77b0
                  try clear c77b1
                  try clear c81
                  try clear c81b0
                  try clear hx446_0
                  try clear hx447_0
                  try clear hx453_0
                  try clear hx454_0
                  try clear hx474_0
                  try clear hx475_0
                  try clear hx477_0
                  try clear hx478_0
                  try clear p2
                  try clear p4
                  try clear p44
                  try clear p446
                  try clear p447
                  try clear p45
                  try clear p454
                  try clear p47
                  try clear p474
                  try clear p475
                  try clear p477
                  try clear p478
                  try clear q060
                  try clear q062
                  try clear q4
                  try clear q44
                  try clear q446
                  try clear q447
                  try clear q45
                  try clear q454
                  try clear q47
                  try clear q474
                  try clear q475
                  try clear q477
                  try clear q478
                  try clear q6
                  try clear q60
                  try clear q62
                  obtain⟨kq,x121_77,rfl,HA,HJ77,HO_11,HO_12,HO_14,HB⟩:=hcut
                  cases kq with
                  | zero=>exact absurd HA.out (by simp[spec_OrdDivide.j4])
                  | succ kj77 =>
                   have H:=HA.out;clear HA;simp only[spec_OrdDivide.j4] at H;have HC91:=Sd.mk H;clear H
                   go_upto_if 121 with (fail)
                   go_cut [15] (fun v15 wc=>∃ (kq:Nat) (x15_90:Int),v15=.int .i64 x15_90∧Sd (spec_OrdDivide.j5 kq l1 x11_19 x12_19 t471 x15_90=some (r1,r2,r3))∧Sd (kq≤kj77)∧Sd (Kd.R (Kd.int .i64) 3 wc w.heap.size (fun k_=>some k_≠(v472:Value).ownBlock) u11 x11_19)∧Sd (Kd.N (Kd.slice 3 (Kd.int .i64)) 22 wc w.heap.size (fun k_=>some k_≠(u11:Value).ownBlock∧some k_≠(v472:Value).ownBlock) u12 x12_19)∧Sd (Kd.R (Kd.int .i64) 3 wc w.heap.size (fun k_=>some k_≠(u11:Value).ownBlock) v472 t471)∧Sd (Below w.heap.size w wc))
                   case first =>
                    have H:=HC91.out;clear HC91
                    by_cases c92:x121_77=true
                    ·subst c92
                     have H1:(spec_OrdDivide.j5 kj77 l1 x11_19 x12_19 t471 (wrap64 ((wrap64 (Int.tdiv (rd t428 x13_19) (rd t434 0)))-1)))=some (r1,r2,r3):=by rw[if_pos rfl] at H;exact H
                     clear H;have H:=H1;clear H1;have H':=Sd.mk H;clear H;go_wp2;go_meet
                     case rel=>exact⟨_,(wrap64 ((wrap64 (Int.tdiv (rd t428 x13_19) (rd t434 0)))-1)),(by first|rfl|(simp;done)|(simp[*];done)),H',⟨by have:=HJ2.out;have:=HJ19.out;have:=HJ57.out;have:=HJ77.out;first|omega|exact Nat.le_refl _⟩,⟨by(with_reducible repeat (first|apply Kd.R_alloc|apply Kd.R_drewN|apply Kd.R_drew));exact HO_11.out⟩,⟨by(with_reducible repeat (first|apply Kd.N_alloc|apply Kd.N_drewN|apply Kd.N_drew));exact HO_12.out⟩,⟨by(with_reducible repeat (first|apply Kd.R_alloc|apply Kd.R_drewN|apply Kd.R_drew));exact HO_14.out⟩,⟨bz⟩⟩
                    ·replace c92:=Bool.eq_false_iff.mpr c92
                     subst c92
                     have H1:(spec_OrdDivide.j5 kj77 l1 x11_19 x12_19 t471 (wrap64 (Int.tdiv (rd t428 x13_19) (rd t434 0))))=some (r1,r2,r3):=by rw[if_neg (show ¬ (false=true) by decide)] at H;exact H
                     clear H;have H:=H1;clear H1;have H':=Sd.mk H;clear H;go_wp2;go_meet
                     case rel=>exact⟨_,((wrap64 (Int.tdiv (rd t428 x13_19) (rd t434 0)))),(by first|rfl|(simp;done)|(simp[*];done)),H',⟨by have:=HJ2.out;have:=HJ19.out;have:=HJ57.out;have:=HJ77.out;first|omega|exact Nat.le_refl _⟩,⟨by(with_reducible repeat (first|apply Kd.R_alloc|apply Kd.R_drewN|apply Kd.R_drew));exact HO_11.out⟩,⟨by(with_reducible repeat (first|apply Kd.N_alloc|apply Kd.N_drewN|apply Kd.N_drew));exact HO_12.out⟩,⟨by(with_reducible repeat (first|apply Kd.R_alloc|apply Kd.R_drewN|apply Kd.R_drew));exact HO_14.out⟩,⟨bz⟩⟩
                   case rest =>
                    clear HC91
                    try clear c1
                    try clear c2
                    try clear p2
                    try clear c3
                    try clear c4
                    try clear p4
                    try clear q4
                    try clear hx4
                    try clear qi4
                    try clear c5
                    try clear c6
                    try clear p6
                    try clear q6
                    try clear c7
                    try clear c8
                    try clear c9
                    try clear c29
                    try clear c30
                    try clear c32
                    try clear c32b0
                    try clear c33
                    try clear c35
                    try clear c44
                    try clear p44
                    try clear q44
                    try clear hx44
                    try clear qi44
                    try clear c45
                    try clear p45
                    try clear q45
                    try clear hx45
                    try clear c47
                    try clear p47
                    try clear q47
                    try clear hx47
                    try clear qi47
                    try clear c49
                    try clear c53
                    try clear c53b0
                    try clear c53b1
                    try clear c54
                    try clear c54b0
                    try clear c54b1
                    try clear c55
                    try clear c55b0
                    try clear c56
                    try clear c56b0
                    try clear c56b1
                    try clear c60
                    try clear q60
                    try clear c61
                    try clear c62
                    try clear q62
                    try clear p64
                    try clear c65
                    try clear c65b0
                    try clear c66
                    try clear c66b0
                    try clear c67
                    try clear c67b0
                    try clear c67b1
                    try clear c73
                    try clear c74
                    try clear c74b0
                    try clear c75
                    try clear c75b0
                    try clear c76
                    try clear c76b0
                    try clear c76b1
                    try clear c77
                    try clear c77b0
                    try clear c77b1
                    try clear c81
                    try clear c81b0
                    try clear c92
                    try clear hx446_0
                    try clear hx447_0
                    try clear hx453_0
                    try clear hx454_0
                    try clear hx474_0
                    try clear hx475_0
                    try clear hx477_0
                    try clear hx478_0
                    try clear p2
                    try clear p4
                    try clear p44
                    try clear p446
                    try clear p447
                    try clear p45
                    try clear p454
                    try clear p47
                    try clear p474
                    try clear p475
                    try clear p477
                    try clear p478
                    try clear p6
                    try clear p64
                    try clear q060
                    try clear q062
                    try clear q4
                    try clear q44
                    try clear q446
                    try clear q447
                    try clear q45
                    try clear q454
                    try clear q47
                    try clear q474
                    try clear q475
                    try clear q477
                    try clear q478
                    try clear q6
                    try clear q60
                    try clear q62
                    obtain⟨kq,x15_90,rfl,HA,HJ90,HO_11,HO_12,HO_14,HB⟩:=hcut
                    cases kq with
                    | zero=>exact absurd HA.out (by simp[spec_OrdDivide.j5])
                    | succ kj90 =>
                     have H:=HA.out;clear HA;simp only[spec_OrdDivide.j5] at H
                     by_cases c93:x15_90>0
                     ·rw[if_pos c93] at H
                      have c93b0:decide (0<x15_90)=true:=decide_eq_true c93;clear c93
                      by_cases c94:x11_19.length<17592186044416
                      ·rw[if_pos c94] at H
                       have LMc94:=Sd.mk c94;clear c94;obtain⟨y486,hy486⟩:∃ y_:List Int,y_=(x11_19++[x15_90]):=⟨_,rfl⟩;replace H:(if x12_19.length<5864062014805 then((spec_l2Times.f kj90 l1 (([1,x15_90,0]:List Int))).bind fun t498=>((spec_l2Minus.f kj90 t471 t498).bind fun t501=>(spec_OrdDivide.j6 kj90 y486 (x12_19++[(([0]:List Int))]) t501))) else(none))=some (r1,r2,r3):=hz hy486 H;have Ny486:=Sd.mk hy486;clear hy486;obtain⟨y489,hy489⟩:∃ y_:List Int,y_=(([0]:List Int)):=⟨_,rfl⟩;replace H:(if x12_19.length<5864062014805 then((spec_l2Times.f kj90 l1 (([1,x15_90,0]:List Int))).bind fun t498=>((spec_l2Minus.f kj90 t471 t498).bind fun t501=>(spec_OrdDivide.j6 kj90 y486 (x12_19++[y489]) t501))) else(none))=some (r1,r2,r3):=hz hy489 H;have Ny489:=Sd.mk hy489;clear hy489
                       by_cases c95:x12_19.length<5864062014805
                       ·rw[if_pos c95] at H
                        have LMc95:=Sd.mk c95;clear c95;obtain⟨y492,hy492⟩:∃ y_:List (List Int),y_=(x12_19++[y489]):=⟨_,rfl⟩;replace H:((spec_l2Times.f kj90 l1 (([1,x15_90,0]:List Int))).bind fun t498=>((spec_l2Minus.f kj90 t471 t498).bind fun t501=>(spec_OrdDivide.j6 kj90 y486 y492 t501)))=some (r1,r2,r3):=hz hy492 H;have Ny492:=Sd.mk hy492;clear hy492;obtain⟨y495,hy495⟩:∃ y_:List Int,y_=(([1,x15_90,0]:List Int)):=⟨_,rfl⟩;replace H:((spec_l2Times.f kj90 l1 y495).bind fun t498=>((spec_l2Minus.f kj90 t471 t498).bind fun t501=>(spec_OrdDivide.j6 kj90 y486 y492 t501)))=some (r1,r2,r3):=hz hy495 H;have Ny495:=Sd.mk hy495;clear hy495;replace H:=Option.bind_eq_some_iff.mp H;obtain⟨t498,A960,H⟩:=H;replace H:((spec_l2Minus.f kj90 t471 t498).bind fun t501=>(spec_OrdDivide.j6 kj90 y486 y492 t501))=some (r1,r2,r3):=H;have A96:=Sd.mk A960;clear A960;replace H:=Option.bind_eq_some_iff.mp H;obtain⟨t501,A970,H⟩:=H;replace H:(spec_OrdDivide.j6 kj90 y486 y492 t501)=some (r1,r2,r3):=H;have A97:=Sd.mk A970;clear A970;have H':=Sd.mk H;clear H;go_wp2_with (first|((with_reducible refine gate_builtin (b:=.append) (xs:=#[.tmp 126,.tmp 128]) rfl ?_);at_builtin;refine Kd.R_append (Kd.int .i64) (w0:=w) w.heap.size rfl (.tmp 126) (.tmp 128) 22 3 (.int .i64 0) 8 rfl Try.underlying22 info3 rfl (by decide) (by omega) u11 x11_19 x15_90 [.int .i64 x15_90] (fun k_=>some k_≠(v472:Value).ownBlock) (fun _=>False) rfl rfl ?aP (fun _ hk=>hk.elim) ?aF ?aO ?aB ?aS ?aL ?_;(case aP=>exact rfl);(case aB=>exact bz);(case aF=>exact(fun k_ hk=>Kd.fresh' (Kd.R_lt (Kd.Rz HO_14.out)) k_ hk));(case aO=>exact(Kd.Rz HO_11.out));(case aS=>exact(below_size bz));(case aL=>have:=LMc94.out;omega);intro v487 w98 ho hb hg hat;rw[← Ny486.out] at ho;replace HO_12:=Sd.mk (Kd.N_afterv (ok:=(fun k_=>some k_≠(v472:Value).ownBlock)) (Kd.Nz <| Kd.N_mono HO_12.out (fun _ hk=>⟨hk.2,hk.1⟩)) hg hat);replace HO_14:=Sd.mk (Kd.R_after (ok:=(fun _=>True)) (Kd.Rz <| Kd.R_mono HO_14.out (fun _ hk=>⟨trivial,hk⟩)) hg hat);replace HB:=Sd.mk (hb);have HO488:=Sd.mk (ho);clear HO_11;clear ho hb hg hat)|((with_reducible refine gate_dst (N:=131) rfl ?_);refine Kd.R_lit (Kd.int .i64) _ 3 ?hg (N:=131) ?hd (xs:=([0]:List Int)) (inner:=[.int .i64 0]) (ok:=fun _=>True) (okp:=fun _=>True) ?hr ?hp (fun _ hk=>hk) trivial (Below.refl _ _) (Nat.le_refl _) (by simp) ?_;(case hd=>rfl);(case hg=>rfl);(case hr=>first|(go_simp;done)|(go_simp;rfl));(case hp=>exact(Reps.one (show Kd.M (Kd.int .i64) _ _ _ 0 [.int .i64 0] from rfl) (Reps.none _ _)));intro v490 w99 ho100 hb hg_ hnew_;clear hg_ hnew_;(first|rw[← Ny489.out] at ho100|(simp only[Int.reduceToNat] at ho100;rw[← Ny489.out] at ho100));replace HO_12:=Sd.mk (Kd.N_elder' (Kd.Nz HO_12.out) (Kd.R_base ho100) hb);have HO491:=Sd.mk (Kd.R_lower (Kd.R_new' (Kd.R_new' ho100 (Kd.R_lt (Kd.Rz HO_14.out))) (Kd.R_lt (Kd.Rz HO488.out))) (below_size bz));replace HO_14:=Sd.mk (Kd.R_elder' (Kd.Rz HO_14.out) (Kd.R_base ho100) hb);replace HO488:=Sd.mk (Kd.R_elder' (Kd.Rz HO488.out) (Kd.R_base ho100) hb);replace HB:=Sd.mk (below_step bz hb);clear hb ho100;obtain⟨Ao102,co102,eo102⟩:=Kd.R_slice HO491.out;subst eo102)|((with_reducible refine gate_builtin (b:=.append) (xs:=#[.tmp 130,.tmp 132]) rfl ?_);at_builtin;refine Kd.N_append (Kd.slice 3 (Kd.int .i64)) (w0:=w) w.heap.size rfl (.tmp 130) (.tmp 132) 52 22 (.slice none 0 0) 24 rfl Try.underlying52 info22 rfl (by decide) (by omega) u12 x12_19 y489 [.slice Ao102 y489.length co102] (fun k_=>some k_≠(v472:Value).ownBlock∧some k_≠(v487:Value).ownBlock) (fun k_=>((fun k_=>some k_≠(v472:Value).ownBlock∧some k_≠(v487:Value).ownBlock)) k_∧some k_≠(u12:Value).ownBlock) rfl rfl ?aP (fun _ hk=>hk) ?aF ?aO ?aB ?aS ?aL ?_;(case aP=>exact(Kd.FK_slice_mk (Kd.R_reads' (Kd.R_mono (ok':=(fun k_=>((fun k_=>some k_≠(v472:Value).ownBlock∧some k_≠(v487:Value).ownBlock)) k_∧some k_≠(u12:Value).ownBlock)) (Kd.R_apart' (HO491.out) (Kd.N_typed HO_12.out) (by decide)) (fun k_ hk=>⟨⟨hk.1.1.2,hk.1.2⟩,hk.2⟩))).2.1 (Kd.R_F (Kd.R_mono (ok':=(fun k_=>((fun k_=>some k_≠(v472:Value).ownBlock∧some k_≠(v487:Value).ownBlock)) k_∧some k_≠(u12:Value).ownBlock)) (Kd.R_apart' (HO491.out) (Kd.N_typed HO_12.out) (by decide)) (fun k_ hk=>⟨⟨hk.1.1.2,hk.1.2⟩,hk.2⟩)))));(case aB=>exact bz);(case aF=>exact(fun k_ hk=>⟨Kd.fresh' (Kd.R_lt (Kd.Rz HO_14.out)) k_ hk,Kd.fresh' (Kd.R_lt (Kd.Rz HO488.out)) k_ hk⟩));(case aO=>exact(Kd.Nz <| Kd.N_mono HO_12.out (fun _ hk=>⟨hk.1.1,hk.1.2⟩)));(case aS=>exact(below_size bz));(case aL=>have:=LMc95.out;omega);intro v493 w101 ho hb hg hat;rw[← Ny492.out] at ho;replace HO_14:=Sd.mk (Kd.R_over' (Kd.Rz HO_14.out) (Kd.N_typed (Kd.Nz HO_12.out)) (by decide) hg);replace HO488:=Sd.mk (Kd.R_over' (Kd.Rz HO488.out) (Kd.N_typed (Kd.Nz HO_12.out)) (by decide) hg);replace HB:=Sd.mk (hb);have HO494:=Sd.mk (ho);clear HO_12 HO491;clear ho hb hg hat)|((with_reducible refine gate_dst (N:=137) rfl ?_);refine Kd.R_lit (Kd.int .i64) _ 3 ?hg (N:=137) ?hd (xs:=([1,x15_90,0]:List Int)) (inner:=[.int .i64 1,.int .i64 x15_90,.int .i64 0]) (ok:=fun _=>True) (okp:=fun _=>True) ?hr ?hp (fun _ hk=>hk) trivial (Below.refl _ _) (Nat.le_refl _) (by simp) ?_;(case hd=>rfl);(case hg=>rfl);(case hr=>first|(go_simp;done)|(go_simp;rfl));(case hp=>exact(Reps.one (show Kd.M (Kd.int .i64) _ _ _ 1 [.int .i64 1] from rfl) (Reps.one (show Kd.M (Kd.int .i64) _ _ _ x15_90 [.int .i64 x15_90] from rfl) (Reps.one (show Kd.M (Kd.int .i64) _ _ _ 0 [.int .i64 0] from rfl) (Reps.none _ _)))));intro v496 w103 ho104 hb hg_ hnew_;clear hg_ hnew_;(first|rw[← Ny495.out] at ho104|(simp only[Int.reduceToNat] at ho104;rw[← Ny495.out] at ho104));replace HO494:=Sd.mk (Kd.N_elder' (Kd.Nz HO494.out) (Kd.R_base ho104) hb);have HO497:=Sd.mk (Kd.R_lower (Kd.R_new' (Kd.R_new' ho104 (Kd.R_lt (Kd.Rz HO_14.out))) (Kd.R_lt (Kd.Rz HO488.out))) (below_size bz));replace HO_14:=Sd.mk (Kd.R_elder' (Kd.Rz HO_14.out) (Kd.R_base ho104) hb);replace HO488:=Sd.mk (Kd.R_elder' (Kd.Rz HO488.out) (Kd.R_base ho104) hb);replace HB:=Sd.mk (below_step bz hb);clear hb ho104;obtain⟨Ao105,co105,eo105⟩:=Kd.R_slice HO497.out;subst eo105)|((with_reducible refine gate_callee (f:=56) rfl ?_);refine goesL_ (some 138) rfl rfl Try.func56 (by kernel_rfl) rfl #[.slice A1 l1.length c1,.slice Ao105 y495.length co105] rfl az ?_;(with_reducible refine(spec_l2Times.calls kj90 _ _ l1 _ _ y495 t498 _ ?side1 ?side2 ?side3 ?side4 A96.out).mono ?_);(case side1=>exact Kd.Cz (Kd.C_below HR1.out HB.out));(case side2=>exact HC1.out);(case side3=>exact Kd.Cz (Kd.R_reads' HO497.out).2.2);(case side4=>exact(Kd.R_reads' HO497.out).2.1);rintro e w106 ⟨v499,rfl,ho0,hb⟩;refine⟨_,rfl,?_⟩;replace HO494:=Sd.mk (Kd.N_elder' (Kd.Nz HO494.out) (Kd.R_base ho0) hb);have HO500:=Sd.mk (Kd.R_lower (Kd.R_new' (Kd.R_new' (Kd.R_new' ho0 (Kd.R_lt (Kd.Rz HO_14.out))) (Kd.R_lt (Kd.Rz HO488.out))) (Kd.R_lt (Kd.Rz HO497.out))) (below_size bz));replace HO_14:=Sd.mk (Kd.R_elder' (Kd.Rz HO_14.out) (Kd.R_base ho0) hb);replace HO488:=Sd.mk (Kd.R_elder' (Kd.Rz HO488.out) (Kd.R_base ho0) hb);replace HO497:=Sd.mk (Kd.R_elder' (Kd.Rz HO497.out) (Kd.R_base ho0) hb);replace HB:=Sd.mk (below_step bz hb);(try clear hb);(try clear hb2);(try clear hk);(try clear hi);(try clear ho0);obtain⟨Ao107,co107,eo107⟩:=Kd.R_slice HO_14.out;subst eo107;obtain⟨Ao108,co108,eo108⟩:=Kd.R_slice HO500.out;subst eo108)|((with_reducible refine gate_callee (f:=49) rfl ?_);refine goesL_ (some 139) rfl rfl Try.func49 (by kernel_rfl) rfl #[.slice Ao107 t471.length co107,.slice Ao108 t498.length co108] rfl az ?_;(with_reducible refine(spec_l2Minus.calls kj90 _ _ t471 _ _ t498 t501 _ ?side1 ?side2 ?side3 ?side4 A97.out).mono ?_);(case side1=>exact Kd.Cz (Kd.R_reads' HO_14.out).2.2);(case side2=>exact(Kd.R_reads' HO_14.out).2.1);(case side3=>exact Kd.Cz (Kd.R_reads' HO500.out).2.2);(case side4=>exact(Kd.R_reads' HO500.out).2.1);rintro e w109 ⟨v502,rfl,ho0,hb⟩;refine⟨_,rfl,?_⟩;replace HO494:=Sd.mk (Kd.N_elder' (Kd.Nz HO494.out) (Kd.R_base ho0) hb);have HO503:=Sd.mk (Kd.R_lower (Kd.R_new' (Kd.R_new' (Kd.R_new' (Kd.R_new' ho0 (Kd.R_lt (Kd.Rz HO_14.out))) (Kd.R_lt (Kd.Rz HO488.out))) (Kd.R_lt (Kd.Rz HO497.out))) (Kd.R_lt (Kd.Rz HO500.out))) (below_size bz));replace HO_14:=Sd.mk (Kd.R_elder' (Kd.Rz HO_14.out) (Kd.R_base ho0) hb);replace HO488:=Sd.mk (Kd.R_elder' (Kd.Rz HO488.out) (Kd.R_base ho0) hb);replace HO497:=Sd.mk (Kd.R_elder' (Kd.Rz HO497.out) (Kd.R_base ho0) hb);replace HO500:=Sd.mk (Kd.R_elder' (Kd.Rz HO500.out) (Kd.R_base ho0) hb);replace HB:=Sd.mk (below_step bz hb);(try clear hb);(try clear hb2);(try clear hk);(try clear hi);(try clear ho0)));go_meet
                        case rel=>exact⟨_,(y486),(y492),(t501),H',⟨by have:=HJ2.out;have:=HJ19.out;have:=HJ57.out;have:=HJ77.out;have:=HJ90.out;first|omega|exact Nat.le_refl _⟩,⟨Kd.Rz <| Kd.R_mono HO488.out (fun _ hk=>hk.2)⟩,⟨Kd.Nz <| Kd.N_mono HO494.out (fun _ hk=>⟨hk.1.1.1.2,hk.2⟩)⟩,⟨Kd.Rz <| Kd.R_mono HO503.out (fun _ hk=>hk.1.1.2)⟩,⟨bz⟩⟩
                       ·rw[if_neg c95] at H
                        exact absurd H (by simp)
                      ·rw[if_neg c94] at H
                       exact absurd H (by simp)
                     ·rw[if_neg c93] at H
                      have c93b0:decide (0<x15_90)=false:=decide_eq_false c93;clear c93;have H':=Sd.mk H;clear H;go_wp2;go_meet
                      case rel=>exact⟨_,(x11_19),(x12_19),(t471),H',⟨by have:=HJ2.out;have:=HJ19.out;have:=HJ57.out;have:=HJ77.out;have:=HJ90.out;first|omega|exact Nat.le_refl _⟩,⟨by(with_reducible repeat (first|apply Kd.R_alloc|apply Kd.R_drewN|apply Kd.R_drew));exact HO_11.out⟩,⟨by(with_reducible repeat (first|apply Kd.N_alloc|apply Kd.N_drewN|apply Kd.N_drew));exact HO_12.out⟩,⟨by(with_reducible repeat (first|apply Kd.R_alloc|apply Kd.R_drewN|apply Kd.R_drew));exact HO_14.out⟩,⟨bz⟩⟩
               ·rw[if_neg c76] at H
                exact absurd H (by simp)
              ·rw[if_neg c75] at H
               exact absurd H (by simp)
             ·rw[if_neg c74] at H
              exact absurd H (by simp)
            ·replace c73:=Bool.eq_false_iff.mpr c73
             subst c73
             have H1:(spec_OrdDivide.j6 kj57 x11_19 x12_19 t471)=some (r1,r2,r3):=by rw[if_neg (show ¬ (false=true) by decide)] at H;exact H
             clear H;have H:=H1;clear H1;have H':=Sd.mk H;clear H;go_wp2;go_meet
             case rel=>exact⟨_,(x11_19),(x12_19),(t471),H',⟨by have:=HJ2.out;have:=HJ19.out;have:=HJ57.out;first|omega|exact Nat.le_refl _⟩,⟨Kd.Rz <| Kd.R_mono HO_11.out (fun _ hk=>hk.2.2)⟩,⟨Kd.Nz <| Kd.N_mono HO_12.out (fun _ hk=>⟨hk.2.2.1,hk.2.2.2⟩)⟩,⟨Kd.Rz <| Kd.R_mono HO_14.out (fun _ hk=>hk.2.2)⟩,⟨bz⟩⟩
           case rest =>
            clear HC72
            try clear c1
            try clear c2
            try clear p2
            try clear c3
            try clear c4
            try clear p4
            try clear q4
            try clear hx4
            try clear qi4
            try clear c5
            try clear c6
            try clear p6
            try clear q6
            try clear c7
            try clear c8
            try clear c9
            try clear c29
            try clear c30
            try clear c32
            try clear c32b0
            try clear c33
            try clear c35
            try clear c44
            try clear p44
            try clear q44
            try clear hx44
            try clear qi44
            try clear c45
            try clear p45
            try clear q45
            try clear hx45
            try clear c47
            try clear p47
            try clear q47
            try clear hx47
            try clear qi47
            try clear c49
            try clear c53
            try clear c53b0
            try clear c53b1
            try clear c54
            try clear c54b0
            try clear c54b1
            try clear c55
            try clear c55b0
            try clear c56
            try clear c56b0
            try clear c56b1
            try clear c60
            try clear q60
            try clear c61
            try clear c62
            try clear q62
            try clear p64
            try clear c65
            try clear c65b0
            try clear c66
            try clear c66b0
            try clear c67
            try clear c67b0
            try clear c67b1
            try clear c73
            try clear c74
            try clear c74b0
            try clear c75
            try clear c75b0
            try clear c76
            try clear c76b0
            try clear c76b1
            try clear c77
            try clear c77b0
            try clear c77b1
            try clear c81
            try clear c81b0
            try clear c92
            try clear c93
            try clear c93b0
            try clear c94
            try clear c95
            try clear hx446_0
            try clear hx447_0
            try clear hx453_0
            try clear hx454_0
            try clear hx474_0
            try clear hx475_0
            try clear hx477_0
            try clear hx478_0
            try clear p2
            try clear p4
            try clear p44
            try clear p446
            try clear p447
            try clear p45
            try clear p454
            try clear p47
            try clear p474
            try clear p475
            try clear p477
            try clear p478
            try clear p6
            try clear p64
            try clear q060
            try clear q062
            try clear q4
            try clear q44
            try clear q446
            try clear q447
            try clear q45
            try clear q454
            try clear q47
            try clear q474
            try clear q475
            try clear q477
            try clear q478
            try clear q6
            try clear q60
            try clear q62
            obtain⟨kq,x11_71,x12_71,x14_71,HA,HJ71,HO_11,HO_12,HO_14,HB⟩:=hcut
            cases kq with
            | zero=>exact absurd HA.out (by simp[spec_OrdDivide.j6])
            | succ kj71 =>
             have H:=HA.out;clear HA;simp only[spec_OrdDivide.j6] at H;replace H:=Option.bind_eq_some_iff.mp H;obtain⟨t504,A1100,H⟩:=H;replace H:((spec_l2Fit.f kj71 t504).bind fun bt507=>((spec_l2Fit.f kj71 x14_71).bind fun bt511=>(if bt507.2=true then(if bt511.2=true then(some (bt507.1,bt511.1,true)) else(some ((([]:List Int)),(([]:List Int)),false))) else(some ((([]:List Int)),(([]:List Int)),false)))))=some (r1,r2,r3):=H;have A110:=Sd.mk A1100;clear A1100;replace H:=Option.bind_eq_some_iff.mp H;obtain⟨⟨t507,t510⟩,A1110,H⟩:=H;replace H:((spec_l2Fit.f kj71 x14_71).bind fun bt511=>(if t510=true then(if bt511.2=true then(some (t507,bt511.1,true)) else(some ((([]:List Int)),(([]:List Int)),false))) else(some ((([]:List Int)),(([]:List Int)),false))))=some (r1,r2,r3):=H;have A111:=Sd.mk A1110;clear A1110;replace H:=Option.bind_eq_some_iff.mp H;obtain⟨⟨t511,t514⟩,A1120,H⟩:=H;replace H:(if t510=true then(if t514=true then(some (t507,t511,true)) else(some ((([]:List Int)),(([]:List Int)),false))) else(some ((([]:List Int)),(([]:List Int)),false)))=some (r1,r2,r3):=H;have A112:=Sd.mk A1120;clear A1120
             by_cases c113:t510=true
             ·subst c113
              have H1:(if t514=true then(some (t507,t511,true)) else(some ((([]:List Int)),(([]:List Int)),false)))=some (r1,r2,r3):=by rw[if_pos rfl] at H;exact H
              clear H;have H:=H1;clear H1
              by_cases c114:t514=true
              ·subst c114
               have H1:(some (t507,t511,true))=some (r1,r2,r3):=by rw[if_pos rfl] at H;exact H
               clear H;have H:=H1;clear H1;simp only[Option.some.injEq,Prod.mk.injEq] at H;obtain⟨rfl,rfl,rfl⟩:=H;obtain⟨Ao115,co115,eo115⟩:=Kd.R_slice HO_11.out;subst eo115;obtain⟨Ao116,co116,eo116⟩:=Kd.N_slice HO_12.out;subst eo116;go_wp2_with (first|((with_reducible refine gate_callee (f:=54) rfl ?_);refine goesL_ (some 143) rfl rfl Try.func54 (by kernel_rfl) rfl #[.slice Ao115 x11_71.length co115,.slice Ao116 x12_71.length co116] rfl az ?_;(with_reducible refine(spec_l1Make.calls kj71 _ _ x11_71 _ _ x12_71 t504 _ ?side1 ?side2 ?side3 ?side4 A110.out).mono ?_);(case side1=>exact Kd.Cz (Kd.R_reads' HO_11.out).2.2);(case side2=>exact(Kd.R_reads' HO_11.out).2.1);(case side3=>exact Kd.Cz (Kd.N_reads' HO_12.out).2.2);(case side4=>exact(Kd.N_reads' HO_12.out).2.1);rintro e w117 ⟨v505,rfl,ho0,hb⟩;refine⟨_,rfl,?_⟩;replace HO_12:=Sd.mk (Kd.N_elder' (Kd.Nz HO_12.out) (Kd.R_base ho0) hb);have HO506:=Sd.mk (Kd.R_lower (Kd.R_new' (Kd.R_new' ho0 (Kd.R_lt (Kd.Rz HO_11.out))) (Kd.R_lt (Kd.Rz HO_14.out))) (below_size bz));replace HO_11:=Sd.mk (Kd.R_elder' (Kd.Rz HO_11.out) (Kd.R_base ho0) hb);replace HO_14:=Sd.mk (Kd.R_elder' (Kd.Rz HO_14.out) (Kd.R_base ho0) hb);replace HB:=Sd.mk (below_step bz hb);(try clear hb);(try clear hb2);(try clear hk);(try clear hi);(try clear ho0);obtain⟨Ao118,co118,eo118⟩:=Kd.R_slice HO506.out;subst eo118)|((with_reducible refine gate_callee (f:=43) rfl ?_);refine goesL_ (some 144) rfl rfl Try.func43 (by kernel_rfl) rfl #[.slice Ao118 t504.length co118] rfl az ?_;(with_reducible refine(spec_l2Fit.calls kj71 (fun k_=>some k_=(.slice Ao118 t504.length co118:Value).ownBlock) (.slice Ao118 t504.length co118) t504 t507 true w _ ?side1 ?side2 A111.out).mono ?_);(case side1=>repeat (first|(with_reducible first|exact HB.out|apply below_alloc|apply pw_below_drewN|apply below_drew1)|exact HB.out));(case side2=>exact Kd.R_tight rfl HO506.out);rintro e w119 ⟨v508,rfl,ho0,hb,hkp⟩;refine⟨_,rfl,?_⟩;replace HO_12:=Sd.mk (Kd.N_mono (ok':=fun k_=>some k_≠(.slice Ao115 x11_71.length co115:Value).ownBlock∧some k_≠(u14:Value).ownBlock∧some k_≠(v508:Value).ownBlock) (Kd.N_keptB (HO_12.out) hkp (fun k_ hk_ hs_=>(hk_.2) hs_)) (fun k_ hk_=>⟨hk_.1.1.1,hk_.1.1.2,fun e_=>Or.elim (ho0.1 k_ e_.symm) (fun hs_=>hk_.2.1 hs_) (fun hn_=>Nat.not_le.2 hk_.2.2 hn_)⟩));have HO509:=Sd.mk (Kd.R_mono (ok':=fun k_=>some k_≠(.slice Ao115 x11_71.length co115:Value).ownBlock∧some k_≠(u14:Value).ownBlock) ho0 (fun k_ hk_=>⟨Or.elim hk_ (fun hs_=>fun e_=>(((HO_11.out).1 k_ e_.symm).2) hs_) (fun hn_=>(Kd.fresh' (Kd.R_lt (Kd.Rz HO_11.out)) k_ hn_)),Or.elim hk_ (fun hs_=>fun e_=>(((HO_14.out).1 k_ e_.symm).2) hs_) (fun hn_=>(Kd.fresh' (Kd.R_lt (Kd.Rz HO_14.out)) k_ hn_))⟩));replace HO_11:=Sd.mk (Kd.R_mono (ok':=fun k_=>some k_≠(u14:Value).ownBlock∧some k_≠(v508:Value).ownBlock) (Kd.R_keptB (HO_11.out) hkp (fun k_ hk_ hs_=>(hk_.2) hs_)) (fun k_ hk_=>⟨hk_.1.1,fun e_=>Or.elim (ho0.1 k_ e_.symm) (fun hs_=>hk_.2.1 hs_) (fun hn_=>Nat.not_le.2 hk_.2.2 hn_)⟩));replace HO_14:=Sd.mk (Kd.R_mono (ok':=fun k_=>some k_≠(.slice Ao115 x11_71.length co115:Value).ownBlock∧some k_≠(v508:Value).ownBlock) (Kd.R_keptB (HO_14.out) hkp (fun k_ hk_ hs_=>(hk_.2) hs_)) (fun k_ hk_=>⟨hk_.1.1,fun e_=>Or.elim (ho0.1 k_ e_.symm) (fun hs_=>hk_.2.1 hs_) (fun hn_=>Nat.not_le.2 hk_.2.2 hn_)⟩));replace HB:=Sd.mk (hb);clear HO506;(try clear hb);(try clear hkp);(try clear ho0);obtain⟨Ao120,co120,eo120⟩:=Kd.R_slice HO_14.out;subst eo120)|((with_reducible refine gate_callee (f:=43) rfl ?_);refine goesL_ (some 149) rfl rfl Try.func43 (by kernel_rfl) rfl #[.slice Ao120 x14_71.length co120] rfl az ?_;(with_reducible refine(spec_l2Fit.calls kj71 (fun k_=>some k_=(.slice Ao120 x14_71.length co120:Value).ownBlock) (.slice Ao120 x14_71.length co120) x14_71 t511 true w _ ?side1 ?side2 A112.out).mono ?_);(case side1=>repeat (first|(with_reducible first|exact HB.out|apply below_alloc|apply pw_below_drewN|apply below_drew1)|exact HB.out));(case side2=>exact Kd.R_tight rfl HO_14.out);rintro e w121 ⟨v512,rfl,ho0,hb,hkp⟩;refine⟨_,rfl,?_⟩;replace HO_12:=Sd.mk (Kd.N_mono (ok':=fun k_=>some k_≠(.slice Ao115 x11_71.length co115:Value).ownBlock∧some k_≠(v508:Value).ownBlock∧some k_≠(v512:Value).ownBlock) (Kd.N_keptB (HO_12.out) hkp (fun k_ hk_ hs_=>(hk_.2.1) hs_)) (fun k_ hk_=>⟨hk_.1.1,hk_.1.2.2,fun e_=>Or.elim (ho0.1 k_ e_.symm) (fun hs_=>hk_.2.1 hs_) (fun hn_=>Nat.not_le.2 hk_.2.2 hn_)⟩));have HO513:=Sd.mk (Kd.R_mono (ok':=fun k_=>some k_≠(.slice Ao115 x11_71.length co115:Value).ownBlock∧some k_≠(v508:Value).ownBlock) ho0 (fun k_ hk_=>⟨Or.elim hk_ (fun hs_=>fun e_=>(((HO_11.out).1 k_ e_.symm).1) hs_) (fun hn_=>(Kd.fresh' (Kd.R_lt (Kd.Rz HO_11.out)) k_ hn_)),Or.elim hk_ (fun hs_=>fun e_=>(((HO509.out).1 k_ e_.symm).2) hs_) (fun hn_=>(Kd.fresh' (Kd.R_lt (Kd.Rz HO509.out)) k_ hn_))⟩));replace HO_11:=Sd.mk (Kd.R_mono (ok':=fun k_=>some k_≠(v508:Value).ownBlock∧some k_≠(v512:Value).ownBlock) (Kd.R_keptB (HO_11.out) hkp (fun k_ hk_ hs_=>(hk_.1) hs_)) (fun k_ hk_=>⟨hk_.1.2,fun e_=>Or.elim (ho0.1 k_ e_.symm) (fun hs_=>hk_.2.1 hs_) (fun hn_=>Nat.not_le.2 hk_.2.2 hn_)⟩));replace HO509:=Sd.mk (Kd.R_mono (ok':=fun k_=>some k_≠(.slice Ao115 x11_71.length co115:Value).ownBlock∧some k_≠(v512:Value).ownBlock) (Kd.R_keptB (HO509.out) hkp (fun k_ hk_ hs_=>(hk_.2) hs_)) (fun k_ hk_=>⟨hk_.1.1,fun e_=>Or.elim (ho0.1 k_ e_.symm) (fun hs_=>hk_.2.1 hs_) (fun hn_=>Nat.not_le.2 hk_.2.2 hn_)⟩));replace HB:=Sd.mk (hb);clear HO_14;(try clear hb);(try clear hkp);(try clear ho0)));go_ret3;exact⟨_,_,by first|rfl|(simp[errW_none,errW_some]<;>rfl)|(simp[*,errW_none,errW_some]<;>rfl),Kd.Rz <| Kd.R_mono HO509.out (fun _ hk=>hk.2),Kd.Rz <| Kd.R_mono HO513.out (fun _ hk=>hk.2),bz⟩
              ·replace c114:=Bool.eq_false_iff.mpr c114
               subst c114
               have H1:(some ((([]:List Int)),(([]:List Int)),false))=some (r1,r2,r3):=by rw[if_neg (show ¬ (false=true) by decide)] at H;exact H
               clear H;have H:=H1;clear H1;obtain⟨y515,hy515⟩:∃ y_:List Int,y_=(([]:List Int)):=⟨_,rfl⟩;replace H:(some (y515,(([]:List Int)),false))=some (r1,r2,r3):=hz hy515 H;have Ny515:=Sd.mk hy515;clear hy515;obtain⟨y518,hy518⟩:∃ y_:List Int,y_=(([]:List Int)):=⟨_,rfl⟩;replace H:(some (y515,y518,false))=some (r1,r2,r3):=hz hy518 H;have Ny518:=Sd.mk hy518;clear hy518;simp only[Option.some.injEq,Prod.mk.injEq] at H;obtain⟨rfl,rfl,rfl⟩:=H;obtain⟨Ao122,co122,eo122⟩:=Kd.R_slice HO_11.out;subst eo122;obtain⟨Ao123,co123,eo123⟩:=Kd.N_slice HO_12.out;subst eo123;go_wp2_with (first|((with_reducible refine gate_callee (f:=54) rfl ?_);refine goesL_ (some 143) rfl rfl Try.func54 (by kernel_rfl) rfl #[.slice Ao122 x11_71.length co122,.slice Ao123 x12_71.length co123] rfl az ?_;(with_reducible refine(spec_l1Make.calls kj71 _ _ x11_71 _ _ x12_71 t504 _ ?side1 ?side2 ?side3 ?side4 A110.out).mono ?_);(case side1=>exact Kd.Cz (Kd.R_reads' HO_11.out).2.2);(case side2=>exact(Kd.R_reads' HO_11.out).2.1);(case side3=>exact Kd.Cz (Kd.N_reads' HO_12.out).2.2);(case side4=>exact(Kd.N_reads' HO_12.out).2.1);rintro e w124 ⟨v505,rfl,ho0,hb⟩;refine⟨_,rfl,?_⟩;replace HO_12:=Sd.mk (Kd.N_elder' (Kd.Nz HO_12.out) (Kd.R_base ho0) hb);have HO506:=Sd.mk (Kd.R_lower (Kd.R_new' (Kd.R_new' ho0 (Kd.R_lt (Kd.Rz HO_11.out))) (Kd.R_lt (Kd.Rz HO_14.out))) (below_size bz));replace HO_11:=Sd.mk (Kd.R_elder' (Kd.Rz HO_11.out) (Kd.R_base ho0) hb);replace HO_14:=Sd.mk (Kd.R_elder' (Kd.Rz HO_14.out) (Kd.R_base ho0) hb);replace HB:=Sd.mk (below_step bz hb);(try clear hb);(try clear hb2);(try clear hk);(try clear hi);(try clear ho0);obtain⟨Ao125,co125,eo125⟩:=Kd.R_slice HO506.out;subst eo125)|((with_reducible refine gate_callee (f:=43) rfl ?_);refine goesL_ (some 144) rfl rfl Try.func43 (by kernel_rfl) rfl #[.slice Ao125 t504.length co125] rfl az ?_;(with_reducible refine(spec_l2Fit.calls kj71 (fun k_=>some k_=(.slice Ao125 t504.length co125:Value).ownBlock) (.slice Ao125 t504.length co125) t504 t507 true w _ ?side1 ?side2 A111.out).mono ?_);(case side1=>repeat (first|(with_reducible first|exact HB.out|apply below_alloc|apply pw_below_drewN|apply below_drew1)|exact HB.out));(case side2=>exact Kd.R_tight rfl HO506.out);rintro e w126 ⟨v508,rfl,ho0,hb,hkp⟩;refine⟨_,rfl,?_⟩;replace HO_12:=Sd.mk (Kd.N_mono (ok':=fun k_=>some k_≠(.slice Ao122 x11_71.length co122:Value).ownBlock∧some k_≠(u14:Value).ownBlock∧some k_≠(v508:Value).ownBlock) (Kd.N_keptB (HO_12.out) hkp (fun k_ hk_ hs_=>(hk_.2) hs_)) (fun k_ hk_=>⟨hk_.1.1.1,hk_.1.1.2,fun e_=>Or.elim (ho0.1 k_ e_.symm) (fun hs_=>hk_.2.1 hs_) (fun hn_=>Nat.not_le.2 hk_.2.2 hn_)⟩));have HO509:=Sd.mk (Kd.R_mono (ok':=fun k_=>some k_≠(.slice Ao122 x11_71.length co122:Value).ownBlock∧some k_≠(u14:Value).ownBlock) ho0 (fun k_ hk_=>⟨Or.elim hk_ (fun hs_=>fun e_=>(((HO_11.out).1 k_ e_.symm).2) hs_) (fun hn_=>(Kd.fresh' (Kd.R_lt (Kd.Rz HO_11.out)) k_ hn_)),Or.elim hk_ (fun hs_=>fun e_=>(((HO_14.out).1 k_ e_.symm).2) hs_) (fun hn_=>(Kd.fresh' (Kd.R_lt (Kd.Rz HO_14.out)) k_ hn_))⟩));replace HO_11:=Sd.mk (Kd.R_mono (ok':=fun k_=>some k_≠(u14:Value).ownBlock∧some k_≠(v508:Value).ownBlock) (Kd.R_keptB (HO_11.out) hkp (fun k_ hk_ hs_=>(hk_.2) hs_)) (fun k_ hk_=>⟨hk_.1.1,fun e_=>Or.elim (ho0.1 k_ e_.symm) (fun hs_=>hk_.2.1 hs_) (fun hn_=>Nat.not_le.2 hk_.2.2 hn_)⟩));replace HO_14:=Sd.mk (Kd.R_mono (ok':=fun k_=>some k_≠(.slice Ao122 x11_71.length co122:Value).ownBlock∧some k_≠(v508:Value).ownBlock) (Kd.R_keptB (HO_14.out) hkp (fun k_ hk_ hs_=>(hk_.2) hs_)) (fun k_ hk_=>⟨hk_.1.1,fun e_=>Or.elim (ho0.1 k_ e_.symm) (fun hs_=>hk_.2.1 hs_) (fun hn_=>Nat.not_le.2 hk_.2.2 hn_)⟩));replace HB:=Sd.mk (hb);clear HO506;(try clear hb);(try clear hkp);(try clear ho0);obtain⟨Ao127,co127,eo127⟩:=Kd.R_slice HO_14.out;subst eo127)|((with_reducible refine gate_callee (f:=43) rfl ?_);refine goesL_ (some 149) rfl rfl Try.func43 (by kernel_rfl) rfl #[.slice Ao127 x14_71.length co127] rfl az ?_;(with_reducible refine(spec_l2Fit.calls kj71 (fun k_=>some k_=(.slice Ao127 x14_71.length co127:Value).ownBlock) (.slice Ao127 x14_71.length co127) x14_71 t511 false w _ ?side1 ?side2 A112.out).mono ?_);(case side1=>repeat (first|(with_reducible first|exact HB.out|apply below_alloc|apply pw_below_drewN|apply below_drew1)|exact HB.out));(case side2=>exact Kd.R_tight rfl HO_14.out);rintro e w128 ⟨v512,rfl,ho0,hb,hkp⟩;refine⟨_,rfl,?_⟩;replace HO_12:=Sd.mk (Kd.N_mono (ok':=fun k_=>some k_≠(.slice Ao122 x11_71.length co122:Value).ownBlock∧some k_≠(v508:Value).ownBlock∧some k_≠(v512:Value).ownBlock) (Kd.N_keptB (HO_12.out) hkp (fun k_ hk_ hs_=>(hk_.2.1) hs_)) (fun k_ hk_=>⟨hk_.1.1,hk_.1.2.2,fun e_=>Or.elim (ho0.1 k_ e_.symm) (fun hs_=>hk_.2.1 hs_) (fun hn_=>Nat.not_le.2 hk_.2.2 hn_)⟩));have HO513:=Sd.mk (Kd.R_mono (ok':=fun k_=>some k_≠(.slice Ao122 x11_71.length co122:Value).ownBlock∧some k_≠(v508:Value).ownBlock) ho0 (fun k_ hk_=>⟨Or.elim hk_ (fun hs_=>fun e_=>(((HO_11.out).1 k_ e_.symm).1) hs_) (fun hn_=>(Kd.fresh' (Kd.R_lt (Kd.Rz HO_11.out)) k_ hn_)),Or.elim hk_ (fun hs_=>fun e_=>(((HO509.out).1 k_ e_.symm).2) hs_) (fun hn_=>(Kd.fresh' (Kd.R_lt (Kd.Rz HO509.out)) k_ hn_))⟩));replace HO_11:=Sd.mk (Kd.R_mono (ok':=fun k_=>some k_≠(v508:Value).ownBlock∧some k_≠(v512:Value).ownBlock) (Kd.R_keptB (HO_11.out) hkp (fun k_ hk_ hs_=>(hk_.1) hs_)) (fun k_ hk_=>⟨hk_.1.2,fun e_=>Or.elim (ho0.1 k_ e_.symm) (fun hs_=>hk_.2.1 hs_) (fun hn_=>Nat.not_le.2 hk_.2.2 hn_)⟩));replace HO509:=Sd.mk (Kd.R_mono (ok':=fun k_=>some k_≠(.slice Ao122 x11_71.length co122:Value).ownBlock∧some k_≠(v512:Value).ownBlock) (Kd.R_keptB (HO509.out) hkp (fun k_ hk_ hs_=>(hk_.2) hs_)) (fun k_ hk_=>⟨hk_.1.1,fun e_=>Or.elim (ho0.1 k_ e_.symm) (fun hs_=>hk_.2.1 hs_) (fun hn_=>Nat.not_le.2 hk_.2.2 hn_)⟩));replace HB:=Sd.mk (hb);clear HO_14;(try clear hb);(try clear hkp);(try clear ho0))|((with_reducible refine gate_dst (N:=158) rfl ?_);refine Kd.R_lit (Kd.int .i64) _ 3 ?hg (N:=158) ?hd (xs:=([]:List Int)) (inner:=[]) (ok:=fun _=>True) (okp:=fun _=>True) ?hr ?hp (fun _ hk=>hk) trivial (Below.refl _ _) (Nat.le_refl _) (by simp) ?_;(case hd=>rfl);(case hg=>rfl);(case hr=>first|(go_simp;done)|(go_simp;rfl));(case hp=>exact(Reps.none _ _));intro v516 w129 ho130 hb hg_ hnew_;clear hg_ hnew_;(first|rw[← Ny515.out] at ho130|(simp only[Int.reduceToNat] at ho130;rw[← Ny515.out] at ho130));replace HO_12:=Sd.mk (Kd.N_elder' (Kd.Nz HO_12.out) (Kd.R_base ho130) hb);have HO517:=Sd.mk (Kd.R_lower (Kd.R_new' (Kd.R_new' (Kd.R_new' ho130 (Kd.R_lt (Kd.Rz HO_11.out))) (Kd.R_lt (Kd.Rz HO509.out))) (Kd.R_lt (Kd.Rz HO513.out))) (below_size bz));replace HO_11:=Sd.mk (Kd.R_elder' (Kd.Rz HO_11.out) (Kd.R_base ho130) hb);replace HO509:=Sd.mk (Kd.R_elder' (Kd.Rz HO509.out) (Kd.R_base ho130) hb);replace HO513:=Sd.mk (Kd.R_elder' (Kd.Rz HO513.out) (Kd.R_base ho130) hb);replace HB:=Sd.mk (below_step bz hb);clear hb ho130)|((with_reducible refine gate_dst (N:=159) rfl ?_);refine Kd.R_lit (Kd.int .i64) _ 3 ?hg (N:=159) ?hd (xs:=([]:List Int)) (inner:=[]) (ok:=fun _=>True) (okp:=fun _=>True) ?hr ?hp (fun _ hk=>hk) trivial (Below.refl _ _) (Nat.le_refl _) (by simp) ?_;(case hd=>rfl);(case hg=>rfl);(case hr=>first|(go_simp;done)|(go_simp;rfl));(case hp=>exact(Reps.none _ _));intro v519 w131 ho132 hb hg_ hnew_;clear hg_ hnew_;(first|rw[← Ny518.out] at ho132|(simp only[Int.reduceToNat] at ho132;rw[← Ny518.out] at ho132));replace HO_12:=Sd.mk (Kd.N_elder' (Kd.Nz HO_12.out) (Kd.R_base ho132) hb);have HO520:=Sd.mk (Kd.R_lower (Kd.R_new' (Kd.R_new' (Kd.R_new' (Kd.R_new' ho132 (Kd.R_lt (Kd.Rz HO_11.out))) (Kd.R_lt (Kd.Rz HO509.out))) (Kd.R_lt (Kd.Rz HO513.out))) (Kd.R_lt (Kd.Rz HO517.out))) (below_size bz));replace HO_11:=Sd.mk (Kd.R_elder' (Kd.Rz HO_11.out) (Kd.R_base ho132) hb);replace HO509:=Sd.mk (Kd.R_elder' (Kd.Rz HO509.out) (Kd.R_base ho132) hb);replace HO513:=Sd.mk (Kd.R_elder' (Kd.Rz HO513.out) (Kd.R_base ho132) hb);replace HO517:=Sd.mk (Kd.R_elder' (Kd.Rz HO517.out) (Kd.R_base ho132) hb);replace HB:=Sd.mk (below_step bz hb);clear hb ho132));go_ret3;exact⟨_,_,by first|rfl|(simp[errW_none,errW_some]<;>rfl)|(simp[*,errW_none,errW_some]<;>rfl),Kd.Rz <| Kd.R_mono HO517.out (fun _ hk=>hk.2),Kd.Rz <| Kd.R_mono HO520.out (fun _ hk=>hk.2),bz⟩
             ·replace c113:=Bool.eq_false_iff.mpr c113
              subst c113
              have H1:(some ((([]:List Int)),(([]:List Int)),false))=some (r1,r2,r3):=by rw[if_neg (show ¬ (false=true) by decide)] at H;exact H
              clear H;have H:=H1;clear H1;obtain⟨y521,hy521⟩:∃ y_:List Int,y_=(([]:List Int)):=⟨_,rfl⟩;replace H:(some (y521,(([]:List Int)),false))=some (r1,r2,r3):=hz hy521 H;have Ny521:=Sd.mk hy521;clear hy521;obtain⟨y524,hy524⟩:∃ y_:List Int,y_=(([]:List Int)):=⟨_,rfl⟩;replace H:(some (y521,y524,false))=some (r1,r2,r3):=hz hy524 H;have Ny524:=Sd.mk hy524;clear hy524;simp only[Option.some.injEq,Prod.mk.injEq] at H;obtain⟨rfl,rfl,rfl⟩:=H;obtain⟨Ao133,co133,eo133⟩:=Kd.R_slice HO_11.out;subst eo133;obtain⟨Ao134,co134,eo134⟩:=Kd.N_slice HO_12.out;subst eo134;go_wp2_with (first|((with_reducible refine gate_callee (f:=54) rfl ?_);refine goesL_ (some 143) rfl rfl Try.func54 (by kernel_rfl) rfl #[.slice Ao133 x11_71.length co133,.slice Ao134 x12_71.length co134] rfl az ?_;(with_reducible refine(spec_l1Make.calls kj71 _ _ x11_71 _ _ x12_71 t504 _ ?side1 ?side2 ?side3 ?side4 A110.out).mono ?_);(case side1=>exact Kd.Cz (Kd.R_reads' HO_11.out).2.2);(case side2=>exact(Kd.R_reads' HO_11.out).2.1);(case side3=>exact Kd.Cz (Kd.N_reads' HO_12.out).2.2);(case side4=>exact(Kd.N_reads' HO_12.out).2.1);rintro e w135 ⟨v505,rfl,ho0,hb⟩;refine⟨_,rfl,?_⟩;replace HO_12:=Sd.mk (Kd.N_elder' (Kd.Nz HO_12.out) (Kd.R_base ho0) hb);have HO506:=Sd.mk (Kd.R_lower (Kd.R_new' (Kd.R_new' ho0 (Kd.R_lt (Kd.Rz HO_11.out))) (Kd.R_lt (Kd.Rz HO_14.out))) (below_size bz));replace HO_11:=Sd.mk (Kd.R_elder' (Kd.Rz HO_11.out) (Kd.R_base ho0) hb);replace HO_14:=Sd.mk (Kd.R_elder' (Kd.Rz HO_14.out) (Kd.R_base ho0) hb);replace HB:=Sd.mk (below_step bz hb);(try clear hb);(try clear hb2);(try clear hk);(try clear hi);(try clear ho0);obtain⟨Ao136,co136,eo136⟩:=Kd.R_slice HO506.out;subst eo136)|((with_reducible refine gate_callee (f:=43) rfl ?_);refine goesL_ (some 144) rfl rfl Try.func43 (by kernel_rfl) rfl #[.slice Ao136 t504.length co136] rfl az ?_;(with_reducible refine(spec_l2Fit.calls kj71 (fun k_=>some k_=(.slice Ao136 t504.length co136:Value).ownBlock) (.slice Ao136 t504.length co136) t504 t507 false w _ ?side1 ?side2 A111.out).mono ?_);(case side1=>repeat (first|(with_reducible first|exact HB.out|apply below_alloc|apply pw_below_drewN|apply below_drew1)|exact HB.out));(case side2=>exact Kd.R_tight rfl HO506.out);rintro e w137 ⟨v508,rfl,ho0,hb,hkp⟩;refine⟨_,rfl,?_⟩;replace HO_12:=Sd.mk (Kd.N_mono (ok':=fun k_=>some k_≠(.slice Ao133 x11_71.length co133:Value).ownBlock∧some k_≠(u14:Value).ownBlock∧some k_≠(v508:Value).ownBlock) (Kd.N_keptB (HO_12.out) hkp (fun k_ hk_ hs_=>(hk_.2) hs_)) (fun k_ hk_=>⟨hk_.1.1.1,hk_.1.1.2,fun e_=>Or.elim (ho0.1 k_ e_.symm) (fun hs_=>hk_.2.1 hs_) (fun hn_=>Nat.not_le.2 hk_.2.2 hn_)⟩));have HO509:=Sd.mk (Kd.R_mono (ok':=fun k_=>some k_≠(.slice Ao133 x11_71.length co133:Value).ownBlock∧some k_≠(u14:Value).ownBlock) ho0 (fun k_ hk_=>⟨Or.elim hk_ (fun hs_=>fun e_=>(((HO_11.out).1 k_ e_.symm).2) hs_) (fun hn_=>(Kd.fresh' (Kd.R_lt (Kd.Rz HO_11.out)) k_ hn_)),Or.elim hk_ (fun hs_=>fun e_=>(((HO_14.out).1 k_ e_.symm).2) hs_) (fun hn_=>(Kd.fresh' (Kd.R_lt (Kd.Rz HO_14.out)) k_ hn_))⟩));replace HO_11:=Sd.mk (Kd.R_mono (ok':=fun k_=>some k_≠(u14:Value).ownBlock∧some k_≠(v508:Value).ownBlock) (Kd.R_keptB (HO_11.out) hkp (fun k_ hk_ hs_=>(hk_.2) hs_)) (fun k_ hk_=>⟨hk_.1.1,fun e_=>Or.elim (ho0.1 k_ e_.symm) (fun hs_=>hk_.2.1 hs_) (fun hn_=>Nat.not_le.2 hk_.2.2 hn_)⟩));replace HO_14:=Sd.mk (Kd.R_mono (ok':=fun k_=>some k_≠(.slice Ao133 x11_71.length co133:Value).ownBlock∧some k_≠(v508:Value).ownBlock) (Kd.R_keptB (HO_14.out) hkp (fun k_ hk_ hs_=>(hk_.2) hs_)) (fun k_ hk_=>⟨hk_.1.1,fun e_=>Or.elim (ho0.1 k_ e_.symm) (fun hs_=>hk_.2.1 hs_) (fun hn_=>Nat.not_le.2 hk_.2.2 hn_)⟩));replace HB:=Sd.mk (hb);clear HO506;(try clear hb);(try clear hkp);(try clear ho0);obtain⟨Ao138,co138,eo138⟩:=Kd.R_slice HO_14.out;subst eo138)|((with_reducible refine gate_callee (f:=43) rfl ?_);refine goesL_ (some 149) rfl rfl Try.func43 (by kernel_rfl) rfl #[.slice Ao138 x14_71.length co138] rfl az ?_;(with_reducible refine(spec_l2Fit.calls kj71 (fun k_=>some k_=(.slice Ao138 x14_71.length co138:Value).ownBlock) (.slice Ao138 x14_71.length co138) x14_71 t511 t514 w _ ?side1 ?side2 A112.out).mono ?_);(case side1=>repeat (first|(with_reducible first|exact HB.out|apply below_alloc|apply pw_below_drewN|apply below_drew1)|exact HB.out));(case side2=>exact Kd.R_tight rfl HO_14.out);rintro e w139 ⟨v512,rfl,ho0,hb,hkp⟩;refine⟨_,rfl,?_⟩;replace HO_12:=Sd.mk (Kd.N_mono (ok':=fun k_=>some k_≠(.slice Ao133 x11_71.length co133:Value).ownBlock∧some k_≠(v508:Value).ownBlock∧some k_≠(v512:Value).ownBlock) (Kd.N_keptB (HO_12.out) hkp (fun k_ hk_ hs_=>(hk_.2.1) hs_)) (fun k_ hk_=>⟨hk_.1.1,hk_.1.2.2,fun e_=>Or.elim (ho0.1 k_ e_.symm) (fun hs_=>hk_.2.1 hs_) (fun hn_=>Nat.not_le.2 hk_.2.2 hn_)⟩));have HO513:=Sd.mk (Kd.R_mono (ok':=fun k_=>some k_≠(.slice Ao133 x11_71.length co133:Value).ownBlock∧some k_≠(v508:Value).ownBlock) ho0 (fun k_ hk_=>⟨Or.elim hk_ (fun hs_=>fun e_=>(((HO_11.out).1 k_ e_.symm).1) hs_) (fun hn_=>(Kd.fresh' (Kd.R_lt (Kd.Rz HO_11.out)) k_ hn_)),Or.elim hk_ (fun hs_=>fun e_=>(((HO509.out).1 k_ e_.symm).2) hs_) (fun hn_=>(Kd.fresh' (Kd.R_lt (Kd.Rz HO509.out)) k_ hn_))⟩));replace HO_11:=Sd.mk (Kd.R_mono (ok':=fun k_=>some k_≠(v508:Value).ownBlock∧some k_≠(v512:Value).ownBlock) (Kd.R_keptB (HO_11.out) hkp (fun k_ hk_ hs_=>(hk_.1) hs_)) (fun k_ hk_=>⟨hk_.1.2,fun e_=>Or.elim (ho0.1 k_ e_.symm) (fun hs_=>hk_.2.1 hs_) (fun hn_=>Nat.not_le.2 hk_.2.2 hn_)⟩));replace HO509:=Sd.mk (Kd.R_mono (ok':=fun k_=>some k_≠(.slice Ao133 x11_71.length co133:Value).ownBlock∧some k_≠(v512:Value).ownBlock) (Kd.R_keptB (HO509.out) hkp (fun k_ hk_ hs_=>(hk_.2) hs_)) (fun k_ hk_=>⟨hk_.1.1,fun e_=>Or.elim (ho0.1 k_ e_.symm) (fun hs_=>hk_.2.1 hs_) (fun hn_=>Nat.not_le.2 hk_.2.2 hn_)⟩));replace HB:=Sd.mk (hb);clear HO_14;(try clear hb);(try clear hkp);(try clear ho0))|((with_reducible refine gate_dst (N:=158) rfl ?_);refine Kd.R_lit (Kd.int .i64) _ 3 ?hg (N:=158) ?hd (xs:=([]:List Int)) (inner:=[]) (ok:=fun _=>True) (okp:=fun _=>True) ?hr ?hp (fun _ hk=>hk) trivial (Below.refl _ _) (Nat.le_refl _) (by simp) ?_;(case hd=>rfl);(case hg=>rfl);(case hr=>first|(go_simp;done)|(go_simp;rfl));(case hp=>exact(Reps.none _ _));intro v522 w140 ho141 hb hg_ hnew_;clear hg_ hnew_;(first|rw[← Ny521.out] at ho141|(simp only[Int.reduceToNat] at ho141;rw[← Ny521.out] at ho141));replace HO_12:=Sd.mk (Kd.N_elder' (Kd.Nz HO_12.out) (Kd.R_base ho141) hb);have HO523:=Sd.mk (Kd.R_lower (Kd.R_new' (Kd.R_new' (Kd.R_new' ho141 (Kd.R_lt (Kd.Rz HO_11.out))) (Kd.R_lt (Kd.Rz HO509.out))) (Kd.R_lt (Kd.Rz HO513.out))) (below_size bz));replace HO_11:=Sd.mk (Kd.R_elder' (Kd.Rz HO_11.out) (Kd.R_base ho141) hb);replace HO509:=Sd.mk (Kd.R_elder' (Kd.Rz HO509.out) (Kd.R_base ho141) hb);replace HO513:=Sd.mk (Kd.R_elder' (Kd.Rz HO513.out) (Kd.R_base ho141) hb);replace HB:=Sd.mk (below_step bz hb);clear hb ho141)|((with_reducible refine gate_dst (N:=159) rfl ?_);refine Kd.R_lit (Kd.int .i64) _ 3 ?hg (N:=159) ?hd (xs:=([]:List Int)) (inner:=[]) (ok:=fun _=>True) (okp:=fun _=>True) ?hr ?hp (fun _ hk=>hk) trivial (Below.refl _ _) (Nat.le_refl _) (by simp) ?_;(case hd=>rfl);(case hg=>rfl);(case hr=>first|(go_simp;done)|(go_simp;rfl));(case hp=>exact(Reps.none _ _));intro v525 w142 ho143 hb hg_ hnew_;clear hg_ hnew_;(first|rw[← Ny524.out] at ho143|(simp only[Int.reduceToNat] at ho143;rw[← Ny524.out] at ho143));replace HO_12:=Sd.mk (Kd.N_elder' (Kd.Nz HO_12.out) (Kd.R_base ho143) hb);have HO526:=Sd.mk (Kd.R_lower (Kd.R_new' (Kd.R_new' (Kd.R_new' (Kd.R_new' ho143 (Kd.R_lt (Kd.Rz HO_11.out))) (Kd.R_lt (Kd.Rz HO509.out))) (Kd.R_lt (Kd.Rz HO513.out))) (Kd.R_lt (Kd.Rz HO523.out))) (below_size bz));replace HO_11:=Sd.mk (Kd.R_elder' (Kd.Rz HO_11.out) (Kd.R_base ho143) hb);replace HO509:=Sd.mk (Kd.R_elder' (Kd.Rz HO509.out) (Kd.R_base ho143) hb);replace HO513:=Sd.mk (Kd.R_elder' (Kd.Rz HO513.out) (Kd.R_base ho143) hb);replace HO523:=Sd.mk (Kd.R_elder' (Kd.Rz HO523.out) (Kd.R_base ho143) hb);replace HB:=Sd.mk (below_step bz hb);clear hb ho143));go_ret3;exact⟨_,_,by first|rfl|(simp[errW_none,errW_some]<;>rfl)|(simp[*,errW_none,errW_some]<;>rfl),Kd.Rz <| Kd.R_mono HO523.out (fun _ hk=>hk.2),Kd.Rz <| Kd.R_mono HO526.out (fun _ hk=>hk.2),bz⟩
        ·rw[if_neg c56] at H
         exact absurd H (by simp)
       ·rw[if_neg c54] at H
        exact absurd H (by simp)
      ·rw[if_neg c53] at H
       exact absurd H (by simp)
end Go.Proofs.Ytfblcanijhnhmaa.P