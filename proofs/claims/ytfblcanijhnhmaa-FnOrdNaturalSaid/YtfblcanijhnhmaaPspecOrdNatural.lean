/- One Go function comes to what its Lean function tells. -/
import Derived.Test.YtfblcanijhnhmaaP0
import Derived.Test.YtfblcanijhnhmaaPspecOrdValid
import Derived.Test.YtfblcanijhnhmaaPspecl1Compare
import Derived.Test.YtfblcanijhnhmaaPspecl1Make
import Derived.Test.YtfblcanijhnhmaaPspecl1Terms
import Derived.Test.YtfblcanijhnhmaaPspecl2Fit
namespace Go.Proofs.Ytfblcanijhnhmaa.P
open Go.RowKit YtfblcanijhnhmaaW.PrintWords YtfblcanijhnhmaaW.PrintLast YtfblcanijhnhmaaW.PrintMore
set_option linter.unusedVariables false
set_option linter.unusedSimpArgs false
/-! ### spec_OrdNatural: function 23 -/
mutual
def spec_OrdNatural.j0:Nat→List Int→List Int→Bool→Option (List Int × Bool)
 | 0,_,_,_=>none
 | k+1,x0,x1,x22=>if x22=true then(some ((([]:List Int)),false)) else((spec_l1Terms.f k x0).bind fun bt648=>((spec_l1Terms.f k x1).bind fun bt654=>(spec_OrdNatural.l0 k bt648.1 bt648.2 bt654.1 bt654.2 (([]:List Int)) (([]:List (List Int))) 0 0)))
def spec_OrdNatural.l0:Nat→List Int→List (List Int)→List Int→List (List Int)→List Int→List (List Int)→Int→Int→Option (List Int × Bool)
 | 0,_,_,_,_,_,_,_,_=>none
 | k+1,x6,x7,x8,x9,x10,x11,x12,x13=>if x12<(x6.length:Int) then(spec_OrdNatural.j2 k x6 x7 x8 x9 x10 x11 x12 x13 true) else(spec_OrdNatural.j2 k x6 x7 x8 x9 x10 x11 x12 x13 (decide (x13<(x8.length:Int))))
def spec_OrdNatural.j2:Nat→List Int→List (List Int)→List Int→List (List Int)→List Int→List (List Int)→Int→Int→Bool→Option (List Int × Bool)
 | 0,_,_,_,_,_,_,_,_,_=>none
 | k+1,x6,x7,x8,x9,x10,x11,x12,x13,x45=>if x45=true then(if x12=(x6.length:Int) then(spec_OrdNatural.j3 k x6 x7 x8 x9 x10 x11 x12 x13 (-1)) else(if x13=(x8.length:Int) then(spec_OrdNatural.j3 k x6 x7 x8 x9 x10 x11 x12 x13 1) else(if 0≤x12 then(if x12<(x7.length:Int) then(if 0≤x13 then(if x13<(x9.length:Int) then((spec_l1Compare.f k (rd_L1 x7 x12) (rd_L1 x9 x13)).bind fun t675=>(spec_OrdNatural.j3 k x6 x7 x8 x9 x10 x11 x12 x13 t675)) else(none)) else(none)) else(none)) else(none)))) else((spec_l1Make.f k x10 x11).bind fun t666=>((spec_l2Fit.f k t666).bind fun bt669=>(some (bt669.1,bt669.2))))
def spec_OrdNatural.j3:Nat→List Int→List (List Int)→List Int→List (List Int)→List Int→List (List Int)→Int→Int→Int→Option (List Int × Bool)
 | 0,_,_,_,_,_,_,_,_,_=>none
 | k+1,x6,x7,x8,x9,x10,x11,x12,x13,x14=>if x14=1 then(if 0≤x12 then(if x12<(x6.length:Int) then(if x10.length<17592186044416 then(if x12<(x7.length:Int) then(if x11.length<5864062014805 then(spec_OrdNatural.l0 k x6 x7 x8 x9 (x10++[rd x6 x12]) (x11++[rd_L1 x7 x12]) (wrap64 (x12+1)) x13) else(none)) else(none)) else(none)) else(none)) else(none)) else(if x14=(-1) then(if 0≤x13 then(if x13<(x8.length:Int) then(if x10.length<17592186044416 then(if x13<(x9.length:Int) then(if x11.length<5864062014805 then(spec_OrdNatural.l0 k x6 x7 x8 x9 (x10++[rd x8 x13]) (x11++[rd_L1 x9 x13]) x12 (wrap64 (x13+1))) else(none)) else(none)) else(none)) else(none)) else(none)) else(if 0≤x12 then(if x12<(x6.length:Int) then(if 0≤x13 then(if x13<(x8.length:Int) then(if x10.length<17592186044416 then(if x12<(x7.length:Int) then(if x11.length<5864062014805 then(spec_OrdNatural.l0 k x6 x7 x8 x9 (x10++[wrap64 ((rd x6 x12)+(rd x8 x13))]) (x11++[rd_L1 x7 x12]) (wrap64 (x12+1)) (wrap64 (x13+1))) else(none)) else(none)) else(none)) else(none)) else(none)) else(none)) else(none)))
end
def spec_OrdNatural.f (k:Nat)(l0:List Int)(l1:List Int):Option (List Int × Bool):=(spec_OrdValid.f k l0).bind fun t643=>(if t643=true then((spec_OrdValid.f k l1).bind fun t644=>(spec_OrdNatural.j0 k l0 l1 (!t644))) else(spec_OrdNatural.j0 k l0 l1 true))
theorem spec_OrdNatural.mono_l:∀ k,(∀ y0 y1 y2,LeO (spec_OrdNatural.j0 k y0 y1 y2) (spec_OrdNatural.j0 (k+1) y0 y1 y2))∧(∀ y0 y1 y2 y3 y4 y5 y6 y7,LeO (spec_OrdNatural.l0 k y0 y1 y2 y3 y4 y5 y6 y7) (spec_OrdNatural.l0 (k+1) y0 y1 y2 y3 y4 y5 y6 y7))∧(∀ y0 y1 y2 y3 y4 y5 y6 y7 y8,LeO (spec_OrdNatural.j2 k y0 y1 y2 y3 y4 y5 y6 y7 y8) (spec_OrdNatural.j2 (k+1) y0 y1 y2 y3 y4 y5 y6 y7 y8))∧(∀ y0 y1 y2 y3 y4 y5 y6 y7 y8,LeO (spec_OrdNatural.j3 k y0 y1 y2 y3 y4 y5 y6 y7 y8) (spec_OrdNatural.j3 (k+1) y0 y1 y2 y3 y4 y5 y6 y7 y8))
 | 0=>⟨fun _ _ _ r h=>by simp[spec_OrdNatural.j0] at h,fun _ _ _ _ _ _ _ _ r h=>by simp[spec_OrdNatural.l0] at h,fun _ _ _ _ _ _ _ _ _ r h=>by simp[spec_OrdNatural.j2] at h,fun _ _ _ _ _ _ _ _ _ r h=>by simp[spec_OrdNatural.j3] at h⟩
 | k+1=>by
  obtain⟨ih0,ih1,ih2,ih3⟩:=spec_OrdNatural.mono_l k
  refine⟨?_,?_,?_,?_⟩
  ·intro y0 y1 y2
   unfold spec_OrdNatural.j0
   repeat' first|(with_reducible first|exact ih0 _ _ _|exact ih1 _ _ _ _ _ _ _ _|exact spec_l1Terms.mono _ _|exact LeO.refl _|exact LeO.none _|refine LeO.ite ?_ ?_|refine LeO.bind ?_ (fun _=>?_))|exact ih0 _ _ _|exact ih1 _ _ _ _ _ _ _ _|exact spec_l1Terms.mono _ _|exact LeO.none _|refine LeO.ite ?_ ?_|refine LeO.bind ?_ (fun _=>?_)
  ·intro y0 y1 y2 y3 y4 y5 y6 y7
   unfold spec_OrdNatural.l0
   repeat' first|(with_reducible first|exact ih1 _ _ _ _ _ _ _ _|exact ih2 _ _ _ _ _ _ _ _ _|exact LeO.refl _|exact LeO.none _|refine LeO.ite ?_ ?_|refine LeO.bind ?_ (fun _=>?_))|exact ih1 _ _ _ _ _ _ _ _|exact ih2 _ _ _ _ _ _ _ _ _|exact LeO.none _|refine LeO.ite ?_ ?_|refine LeO.bind ?_ (fun _=>?_)
  ·intro y0 y1 y2 y3 y4 y5 y6 y7 y8
   unfold spec_OrdNatural.j2
   repeat' first|(with_reducible first|exact ih2 _ _ _ _ _ _ _ _ _|exact ih3 _ _ _ _ _ _ _ _ _|exact spec_l1Compare.mono _ _ _|exact spec_l1Make.mono _ _ _|exact spec_l2Fit.mono _ _|exact LeO.refl _|exact LeO.none _|refine LeO.ite ?_ ?_|refine LeO.bind ?_ (fun _=>?_))|exact ih2 _ _ _ _ _ _ _ _ _|exact ih3 _ _ _ _ _ _ _ _ _|exact spec_l1Compare.mono _ _ _|exact spec_l1Make.mono _ _ _|exact spec_l2Fit.mono _ _|exact LeO.none _|refine LeO.ite ?_ ?_|refine LeO.bind ?_ (fun _=>?_)
  ·intro y0 y1 y2 y3 y4 y5 y6 y7 y8
   unfold spec_OrdNatural.j3
   repeat' first|(with_reducible first|exact ih1 _ _ _ _ _ _ _ _|exact ih3 _ _ _ _ _ _ _ _ _|exact LeO.refl _|exact LeO.none _|refine LeO.ite ?_ ?_|refine LeO.bind ?_ (fun _=>?_))|exact ih1 _ _ _ _ _ _ _ _|exact ih3 _ _ _ _ _ _ _ _ _|exact LeO.none _|refine LeO.ite ?_ ?_|refine LeO.bind ?_ (fun _=>?_)
theorem spec_OrdNatural.mono:∀ a0 a1 k,LeO (spec_OrdNatural.f k a0 a1) (spec_OrdNatural.f (k+1) a0 a1):=by
 intro a0 a1 k
 obtain⟨ih0,ih1,ih2,ih3⟩:=spec_OrdNatural.mono_l k
 unfold spec_OrdNatural.f
 repeat' first|(with_reducible first|exact ih0 _ _ _|exact ih1 _ _ _ _ _ _ _ _|exact ih2 _ _ _ _ _ _ _ _ _|exact ih3 _ _ _ _ _ _ _ _ _|exact spec_OrdValid.mono _ _|exact LeO.refl _|exact LeO.none _|refine LeO.ite ?_ ?_|refine LeO.bind ?_ (fun _=>?_))|exact ih0 _ _ _|exact ih1 _ _ _ _ _ _ _ _|exact ih2 _ _ _ _ _ _ _ _ _|exact ih3 _ _ _ _ _ _ _ _ _|exact spec_OrdValid.mono _ _|exact LeO.none _|refine LeO.ite ?_ ?_|refine LeO.bind ?_ (fun _=>?_)
def spec_OrdNatural.T11:Bool × List (List Nat × List Nat):=(true,[([],[]),([],[]),([0,1],[0,1]),([2],[2]),([],[]),([],[]),([4,5],[4,5]),([6],[6]),([3,7],[3,7]),([8,8,0,1,2,3,4,5,6,7,8],[8])])
def spec_OrdNatural.B11:List Nat:=[0,0,3,7,0,0,48,112,255,511]
theorem spec_OrdNatural.tab11:rtab .any (opsOf Try.f23 11)=spec_OrdNatural.T11:=by kernel_rfl
theorem spec_OrdNatural.bits11:waitsOk spec_OrdNatural.T11.2 spec_OrdNatural.B11=true:=by kernel_rfl
def spec_OrdNatural.T17:Bool × List (List Nat × List Nat):=(true,[([],[]),([],[]),([],[]),([1,2],[1,2]),([3],[3]),([],[]),([],[]),([5,6],[5,6]),([7],[7]),([4,8],[4,8]),([9],[9]),([0,10],[0,10]),([11,11,0,1,2,3,4,5,6,7,8,9,10,11],[0,11])])
def spec_OrdNatural.B17:List Nat:=[0,0,0,6,14,0,0,96,224,510,1022,2047,4095]
theorem spec_OrdNatural.tab17:rtab .any (opsOf Try.f23 17)=spec_OrdNatural.T17:=by kernel_rfl
theorem spec_OrdNatural.bits17:waitsOk spec_OrdNatural.T17.2 spec_OrdNatural.B17=true:=by kernel_rfl
set_option maxHeartbeats 8000000 in
set_option maxRecDepth 100000 in
theorem spec_OrdNatural.calls (k:Nat)(A0:Option Addr)(c0:Nat)(l0:List Int)(A1:Option Addr)(c1:Nat)(l1:List Int)(r1:List Int)(r2:Bool)(w:World)(hr0:Kd.C (Kd.int .i64) w A0 l0.length l0)(hc0:l0.length≤c0)(hr1:Kd.C (Kd.int .i64) w A1 l1.length l1)(hc1:l1.length≤c1)(h:spec_OrdNatural.f k l0 l1=some (r1,r2)) :
  Calls Try.prog 23 #[.slice A0 l0.length c0,.slice A1 l1.length c1] w fun e w'=>∃ v0_:Value,e=.returned (.tuple #[v0_,.bool r2])∧Kd.R (Kd.int .i64) 3 w' w.heap.size (fun _=>True) v0_ r1∧Below w.heap.size w w':=by
 have HR0:=Aside0.mk hr0
 have HC0:=Aside0.mk hc0
 clear hr0 hc0
 have HR1:=Aside0.mk hr1
 have HC1:=Aside0.mk hc1
 clear hr1 hc1
 have HB:=Aside0.mk (Below.refl w.heap.size w)
 have H:((spec_OrdValid.f k l0).bind fun t643=>(if t643=true then((spec_OrdValid.f k l1).bind fun t644=>(spec_OrdNatural.j0 k l0 l1 (!t644))) else(spec_OrdNatural.j0 k l0 l1 true)))=some (r1,r2):=h
 clear h
 have HC3:=Aside0.mk H
 clear H
 go_enter Try.func23,Try.ntmps23
 go_upto_region 1 with (fail)
 go_cut [22] (fun v22 wc=>∃ (kq:Nat) (x22_2:Bool),v22=.bool x22_2∧Aside0 (spec_OrdNatural.j0 kq l0 l1 x22_2=some (r1,r2))∧Aside0 (kq≤k)∧Aside0 (Below w.heap.size w wc))
 case first =>
  have H:=HC3.out
  clear HC3
  replace H:=Option.bind_eq_some_iff.mp H
  obtain⟨t643,A40,H⟩:=H
  replace H:(if t643=true then((spec_OrdValid.f k l1).bind fun t644=>(spec_OrdNatural.j0 k l0 l1 (!t644))) else(spec_OrdNatural.j0 k l0 l1 true))=some (r1,r2):=H
  have A4:=Aside0.mk A40
  clear A40
  by_cases c5:t643=true
  ·subst c5
   have H1:((spec_OrdValid.f k l1).bind fun t644=>(spec_OrdNatural.j0 k l0 l1 (!t644)))=some (r1,r2):=by rw[if_pos rfl] at H;exact H
   clear H
   have H:=H1
   clear H1
   replace H:=Option.bind_eq_some_iff.mp H
   obtain⟨t644,A60,H⟩:=H
   replace H:(spec_OrdNatural.j0 k l0 l1 (!t644))=some (r1,r2):=H
   have A6:=Aside0.mk A60
   clear A60
   have H':=Aside0.mk H
   clear H
   go_wp2_with (first|((with_reducible refine gate_callee (f:=34) rfl ?_);refine goesL_ (some 16) rfl rfl Try.func34 (by kernel_rfl) rfl #[.slice A0 l0.length c0] rfl az ?_;(with_reducible refine(spec_OrdValid.calls k _ _ l0 true _ ?side1 ?side2 A4.out).mono ?_);(case side1=>exact Kd.Cz (Kd.C_below HR0.out HB.out));(case side2=>exact HC0.out);rintro e w7 ⟨rfl,hb⟩;refine⟨_,rfl,?_⟩;replace HB:=Aside0.mk (below_step bz hb);(try clear hb);(try clear hb2);(try clear hk);(try clear hi))|(go_at_call 34;(with_reducible refine(spec_OrdValid.calls k _ _ l1 t644 _ ?side1 ?side2 A6.out).mono ?_);(case side1=>exact Kd.Cz (Kd.C_below HR1.out HB.out));(case side2=>exact HC1.out);rintro e w8 ⟨rfl,hb⟩;replace HB:=Aside0.mk (below_step bz hb);(try clear hb);(try clear hb2);(try clear hk);(try clear hi)))
   go_meet
   case rel=>exact⟨_,(!t644),(by first|rfl|(simp;done)|(simp[*];done)),H',⟨by first|omega|exact Nat.le_refl _⟩,⟨bz⟩⟩
  ·replace c5:=Bool.eq_false_iff.mpr c5
   subst c5
   have H1:(spec_OrdNatural.j0 k l0 l1 true)=some (r1,r2):=by rw[if_neg (show ¬ (false=true) by decide)] at H;exact H
   clear H
   have H:=H1
   clear H1
   have H':=Aside0.mk H
   clear H
   go_wp2_with (first|((with_reducible refine gate_callee (f:=34) rfl ?_);refine goesL_ (some 16) rfl rfl Try.func34 (by kernel_rfl) rfl #[.slice A0 l0.length c0] rfl az ?_;(with_reducible refine(spec_OrdValid.calls k _ _ l0 false _ ?side1 ?side2 A4.out).mono ?_);(case side1=>exact Kd.Cz (Kd.C_below HR0.out HB.out));(case side2=>exact HC0.out);rintro e w9 ⟨rfl,hb⟩;refine⟨_,rfl,?_⟩;replace HB:=Aside0.mk (below_step bz hb);(try clear hb);(try clear hb2);(try clear hk);(try clear hi)))
   go_meet
   case rel=>exact⟨_,(true),(by first|rfl|(simp;done)|(simp[*];done)),H',⟨by first|omega|exact Nat.le_refl _⟩,⟨bz⟩⟩
 case rest =>
  clear HC3
  try clear c1
  try clear c2
  try clear p2
  try clear c3
  try clear c5
  obtain⟨kq,x22_2,rfl,HA,HJ2,HB⟩:=hcut
  cases kq with
  | zero=>exact absurd HA.out (by simp[spec_OrdNatural.j0])
  | succ kj2 =>
   have H:=HA.out
   clear HA
   simp only[spec_OrdNatural.j0] at H
   by_cases c10:x22_2=true
   ·subst c10
    have H1:(some ((([]:List Int)),false))=some (r1,r2):=by rw[if_pos rfl] at H;exact H
    clear H
    have H:=H1
    clear H1
    obtain⟨y645,hy645⟩:∃ y_:List Int,y_=(([]:List Int)):=⟨_,rfl⟩
    replace H:(some (y645,false))=some (r1,r2):=hz hy645 H
    have Ny645:=Aside0.mk hy645
    clear hy645
    simp only[Option.some.injEq,Prod.mk.injEq] at H
    obtain⟨rfl,rfl⟩:=H
    go_wp2_with (first|((with_reducible refine gate_dst (N:=23) rfl ?_);refine Kd.R_lit (Kd.int .i64) _ 3 ?hg (N:=23) ?hd (xs:=([]:List Int)) (inner:=[]) (ok:=fun _=>True) (okp:=fun _=>True) ?hr ?hp (fun _ hk=>hk) trivial (Below.refl _ _) (Nat.le_refl _) (by simp) ?_;(case hd=>rfl);(case hg=>rfl);(case hr=>first|(go_simp;done)|(go_simp;rfl));(case hp=>exact(Reps.none _ _));intro v646 w11 ho12 hb hg_ hnew_;clear hg_ hnew_;(first|rw[← Ny645.out] at ho12|(simp only[Int.reduceToNat] at ho12;rw[← Ny645.out] at ho12));have HO647:=Aside0.mk (Kd.R_lower ho12 (below_size bz));replace HB:=Aside0.mk (below_step bz hb);clear hb ho12))
    go_ret2
    exact⟨_,by first|rfl|(simp[errW_none,errW_some]<;>rfl)|(simp[*,errW_none,errW_some]<;>rfl),by(with_reducible repeat (first|apply Kd.R_alloc|apply Kd.R_drewN|apply Kd.R_drew));exact HO647.out,bz⟩
   ·replace c10:=Bool.eq_false_iff.mpr c10
    subst c10
    have H1:((spec_l1Terms.f kj2 l0).bind fun bt648=>((spec_l1Terms.f kj2 l1).bind fun bt654=>(spec_OrdNatural.l0 kj2 bt648.1 bt648.2 bt654.1 bt654.2 (([]:List Int)) (([]:List (List Int))) 0 0)))=some (r1,r2):=by rw[if_neg (show ¬ (false=true) by decide)] at H;exact H
    clear H
    have H:=H1
    clear H1
    replace H:=Option.bind_eq_some_iff.mp H
    obtain⟨⟨t648,t651⟩,A130,H⟩:=H
    replace H:((spec_l1Terms.f kj2 l1).bind fun bt654=>(spec_OrdNatural.l0 kj2 t648 t651 bt654.1 bt654.2 (([]:List Int)) (([]:List (List Int))) 0 0))=some (r1,r2):=H
    have A13:=Aside0.mk A130
    clear A130
    replace H:=Option.bind_eq_some_iff.mp H
    obtain⟨⟨t654,t657⟩,A140,H⟩:=H
    replace H:(spec_OrdNatural.l0 kj2 t648 t651 t654 t657 (([]:List Int)) (([]:List (List Int))) 0 0)=some (r1,r2):=H
    have A14:=Aside0.mk A140
    clear A140
    obtain⟨y660,hy660⟩:∃ y_:List Int,y_=(([]:List Int)):=⟨_,rfl⟩
    replace H:(spec_OrdNatural.l0 kj2 t648 t651 t654 t657 y660 (([]:List (List Int))) 0 0)=some (r1,r2):=hz hy660 H
    have Ny660:=Aside0.mk hy660
    clear hy660
    obtain⟨y663,hy663⟩:∃ y_:List (List Int),y_=(([]:List (List Int))):=⟨_,rfl⟩
    replace H:(spec_OrdNatural.l0 kj2 t648 t651 t654 t657 y660 y663 0 0)=some (r1,r2):=hz hy663 H
    have Ny663:=Aside0.mk hy663
    clear hy663
    have H':=Aside0.mk H
    clear H
    go_wp2_with (first|((with_reducible refine gate_callee (f:=52) rfl ?_);refine goesL_ (some 26) rfl rfl Try.func52 (by kernel_rfl) rfl #[.slice A0 l0.length c0] rfl az ?_;(with_reducible refine(spec_l1Terms.calls kj2 (fun k_=>k_<w.heap.size) _ _ l0 t648 t651 _ ?side1 A13.out).mono ?_);(case side1=>exact Kd.V_mk HC0.out (Kd.F_below (Kd.C_F (Kd.heap_int .i64) HR0.out) bz));rintro e w15 ⟨v649,v652,rfl,ho0,ho1,hb⟩;refine⟨_,rfl,?_⟩;have HO650:=Aside0.mk (Kd.R_lower (Kd.R_mono (ok':=fun k_=>True) ho0 (fun _ hk_=>trivial)) (below_size bz));have HO653:=Aside0.mk (Kd.N_lower (Kd.N_mono (ok':=fun k_=>some k_≠(v649:Value).ownBlock) ho1 (fun k_ hk_=>hk_.2)) (below_size bz));replace HB:=Aside0.mk (below_step bz hb);(try clear hb);(try clear hb2);(try clear hk);(try clear hi);(try clear ho0);(try clear ho1))|((with_reducible refine gate_callee (f:=52) rfl ?_);refine goesL_ (some 31) rfl rfl Try.func52 (by kernel_rfl) rfl #[.slice A1 l1.length c1] rfl az ?_;(with_reducible refine(spec_l1Terms.calls kj2 (fun k_=>k_<w.heap.size) _ _ l1 t654 t657 _ ?side1 A14.out).mono ?_);(case side1=>exact Kd.V_mk HC1.out (Kd.F_below (Kd.C_F (Kd.heap_int .i64) HR1.out) bz));rintro e w16 ⟨v655,v658,rfl,ho0,ho1,hb⟩;refine⟨_,rfl,?_⟩;have HO656:=Aside0.mk (Kd.R_lower (Kd.R_new' (Kd.R_mono (ok':=fun k_=>True) ho0 (fun _ hk_=>trivial)) (Kd.R_lt (Kd.Rz HO650.out))) (below_size bz));have HO659:=Aside0.mk (Kd.N_lower (Kd.N_mono (ok':=fun k_=>some k_≠(v655:Value).ownBlock∧some k_≠(v649:Value).ownBlock∧some k_≠(v652:Value).ownBlock) ho1 (fun k_ hk_=>⟨hk_.2,Or.elim hk_.1 (fun hs_=>fun e_=>Nat.not_le.2 hs_ (Kd.R_base HO650.out k_ e_.symm)) (fun hn_=>(Kd.fresh' (Kd.R_lt (Kd.Rz HO650.out)) k_ hn_)),Or.elim hk_.1 (fun hs_=>fun e_=>Nat.not_le.2 hs_ (Kd.N_base HO653.out k_ e_.symm)) (fun hn_=>(Kd.fresh' (Kd.N_lt (Kd.Nz HO653.out)) k_ hn_))⟩)) (below_size bz));replace HO650:=Aside0.mk (Kd.R_elder' (Kd.Rz HO650.out) (Kd.R_base ho0) hb);replace HO653:=Aside0.mk (Kd.N_mono (Kd.N_told (Kd.N_told (Kd.N_old (Kd.Nz HO653.out) hb) (Kd.R_base ho0)) (Kd.N_base ho1)) (fun _ h_=>h_.1));replace HB:=Aside0.mk (below_step bz hb);(try clear hb);(try clear hb2);(try clear hk);(try clear hi);(try clear ho0);(try clear ho1))|((with_reducible refine gate_dst (N:=34) rfl ?_);refine Kd.R_lit (Kd.int .i64) _ 3 ?hg (N:=34) ?hd (xs:=([]:List Int)) (inner:=[]) (ok:=fun _=>True) (okp:=fun _=>True) ?hr ?hp (fun _ hk=>hk) trivial (Below.refl _ _) (Nat.le_refl _) (by simp) ?_;(case hd=>rfl);(case hg=>rfl);(case hr=>first|(go_simp;done)|(go_simp;rfl));(case hp=>exact(Reps.none _ _));intro v661 w17 ho18 hb hg_ hnew_;clear hg_ hnew_;(first|rw[← Ny660.out] at ho18|(simp only[Int.reduceToNat] at ho18;rw[← Ny660.out] at ho18));replace HO653:=Aside0.mk (Kd.N_elder' (Kd.Nz HO653.out) (Kd.R_base ho18) hb);replace HO659:=Aside0.mk (Kd.N_elder' (Kd.Nz HO659.out) (Kd.R_base ho18) hb);have HO662:=Aside0.mk (Kd.R_lower (Kd.R_new' (Kd.R_new' ho18 (Kd.R_lt (Kd.Rz HO650.out))) (Kd.R_lt (Kd.Rz HO656.out))) (below_size bz));replace HO650:=Aside0.mk (Kd.R_elder' (Kd.Rz HO650.out) (Kd.R_base ho18) hb);replace HO656:=Aside0.mk (Kd.R_elder' (Kd.Rz HO656.out) (Kd.R_base ho18) hb);replace HB:=Aside0.mk (below_step bz hb);clear hb ho18)|((with_reducible refine gate_dst (N:=35) rfl ?_);refine Kd.N_lit (Kd.slice 3 (Kd.int .i64)) _ 22 ?hg (N':=35) ?hd (xs:=([]:List (List Int))) (inner:=[]) (ok:=(fun k_=>some k_≠(v649:Value).ownBlock∧some k_≠(v652:Value).ownBlock∧some k_≠(v655:Value).ownBlock∧some k_≠(v658:Value).ownBlock∧some k_≠(v661:Value).ownBlock)) (okp:=(fun k_=>some k_≠(v649:Value).ownBlock∧some k_≠(v652:Value).ownBlock∧some k_≠(v655:Value).ownBlock∧some k_≠(v658:Value).ownBlock∧some k_≠(v661:Value).ownBlock)) ?hr ?hp (fun _ hk=>hk) ((show ∀ k_,w17.heap.size≤k_→(fun k_=>some k_≠(v649:Value).ownBlock∧some k_≠(v652:Value).ownBlock∧some k_≠(v655:Value).ownBlock∧some k_≠(v658:Value).ownBlock∧some k_≠(v661:Value).ownBlock) k_ from fun k_ hk=>⟨Kd.fresh' (Kd.R_lt (Kd.Rz HO650.out)) k_ hk,Kd.fresh' (Kd.N_lt (Kd.Nz HO653.out)) k_ hk,Kd.fresh' (Kd.R_lt (Kd.Rz HO656.out)) k_ hk,Kd.fresh' (Kd.N_lt (Kd.Nz HO659.out)) k_ hk,Kd.fresh' (Kd.R_lt (Kd.Rz HO662.out)) k_ hk⟩) _ (Nat.le_refl _)) (Below.refl _ _) (Nat.le_refl _) (by simp) ?_;(case hd=>rfl);(case hg=>rfl);(case hr=>first|(go_simp;done)|(go_simp;rfl));(case hp=>exact(Reps.none _ _));intro v664 w19 ho20 hb hg_ hnew_;clear hg_ hnew_;(first|rw[← Ny663.out] at ho20|(simp only[Int.reduceToNat] at ho20;rw[← Ny663.out] at ho20));replace HO650:=Aside0.mk (Kd.R_below (Kd.Rz HO650.out) hb);replace HO653:=Aside0.mk (Kd.N_elder' (Kd.Nz HO653.out) (Kd.N_base ho20) hb);replace HO656:=Aside0.mk (Kd.R_below (Kd.Rz HO656.out) hb);replace HO659:=Aside0.mk (Kd.N_elder' (Kd.Nz HO659.out) (Kd.N_base ho20) hb);replace HO662:=Aside0.mk (Kd.R_below (Kd.Rz HO662.out) hb);have HO665:=Aside0.mk (Kd.N_lower ho20 (below_size bz));replace HB:=Aside0.mk (below_step bz hb);clear hb ho20))
    go_loopg [10,11,12,13] kj2 (fun kq v10 v11 v12 v13 w'=>∃ (x10_2:List Int) (x11_2:List (List Int)) (x12_2:Int) (x13_2:Int),v12=.int .i64 x12_2∧v13=.int .i64 x13_2∧Aside0 (spec_OrdNatural.l0 kq t648 t651 t654 t657 x10_2 x11_2 x12_2 x13_2=some (r1,r2))∧Aside0 (kq≤kj2)∧Aside0 (Kd.R (Kd.int .i64) 3 w' w.heap.size (fun k_=>some k_≠(v655:Value).ownBlock∧some k_≠(v10:Value).ownBlock) v649 t648)∧Aside0 (Kd.N (Kd.slice 3 (Kd.int .i64)) 22 w' w.heap.size (fun k_=>some k_≠(v649:Value).ownBlock∧some k_≠(v655:Value).ownBlock∧some k_≠(v658:Value).ownBlock∧some k_≠(v10:Value).ownBlock∧some k_≠(v11:Value).ownBlock) v652 t651)∧Aside0 (Kd.R (Kd.int .i64) 3 w' w.heap.size (fun k_=>some k_≠(v649:Value).ownBlock∧some k_≠(v10:Value).ownBlock) v655 t654)∧Aside0 (Kd.N (Kd.slice 3 (Kd.int .i64)) 22 w' w.heap.size (fun k_=>some k_≠(v649:Value).ownBlock∧some k_≠(v652:Value).ownBlock∧some k_≠(v655:Value).ownBlock∧some k_≠(v10:Value).ownBlock∧some k_≠(v11:Value).ownBlock) v658 t657)∧Aside0 (Kd.R (Kd.int .i64) 3 w' w.heap.size (fun k_=>some k_≠(v649:Value).ownBlock∧some k_≠(v655:Value).ownBlock) v10 x10_2)∧Aside0 (Kd.N (Kd.slice 3 (Kd.int .i64)) 22 w' w.heap.size (fun k_=>some k_≠(v649:Value).ownBlock∧some k_≠(v652:Value).ownBlock∧some k_≠(v655:Value).ownBlock∧some k_≠(v658:Value).ownBlock∧some k_≠(v10:Value).ownBlock) v11 x11_2)∧Aside0 (Below w.heap.size w w'))
    case atStart=>exact⟨(y660),(y663),(0),(0),(by first|rfl|(simp;done)|(simp[*];done)),(by first|rfl|(simp;done)|(simp[*];done)),H',⟨Nat.le_refl _⟩,⟨Kd.Rz <| Kd.R_mono HO650.out (fun _ hk=>⟨hk.1.2,hk.2⟩)⟩,⟨Kd.Nz <| Kd.N_mono HO653.out (fun _ hk=>⟨hk.1.1.1.1,⟨hk.1.1.1.2,⟨hk.1.1.2,⟨hk.1.2,hk.2⟩⟩⟩⟩)⟩,⟨Kd.Rz <| Kd.R_mono HO656.out (fun _ hk=>⟨hk.1.2,hk.2⟩)⟩,⟨Kd.Nz <| Kd.N_mono HO659.out (fun _ hk=>⟨hk.1.1.2.1,⟨hk.1.1.2.2,⟨hk.1.1.1,⟨hk.1.2,hk.2⟩⟩⟩⟩)⟩,⟨Kd.Rz <| Kd.R_mono HO662.out (fun _ hk=>⟨hk.1.2,hk.2⟩)⟩,⟨by(with_reducible repeat (first|apply Kd.N_alloc|apply Kd.N_drewN|apply Kd.N_drew));exact HO665.out⟩,⟨bz⟩⟩
    case round =>
     clear H'
     try clear c1
     try clear c2
     try clear p2
     try clear c3
     try clear c5
     try clear c10
     try clear p2
     obtain⟨x10_2,x11_2,x12_2,x13_2,rfl,rfl,HA,HK2,HO_6,HO_7,HO_8,HO_9,HO_10,HO_11,HB⟩:=hrel
     cases gk with
     | zero=>exact absurd HA.out (by simp[spec_OrdNatural.l0])
     | succ k2 =>
      have H:=HA.out
      clear HA
      simp only[spec_OrdNatural.l0] at H
      have HC21:=Aside0.mk H
      clear H
      go_upto_region 9 with (fail)
      go_cut [45] (fun v45 wc=>∃ (kq:Nat) (x45_20:Bool),v45=.bool x45_20∧Aside0 (spec_OrdNatural.j2 kq t648 t651 t654 t657 x10_2 x11_2 x12_2 x13_2 x45_20=some (r1,r2))∧Aside0 (kq≤k2)∧Aside0 (Kd.R (Kd.int .i64) 3 wc w.heap.size (fun k_=>some k_≠(v655:Value).ownBlock∧some k_≠(u10:Value).ownBlock) v649 t648)∧Aside0 (Kd.N (Kd.slice 3 (Kd.int .i64)) 22 wc w.heap.size (fun k_=>some k_≠(v649:Value).ownBlock∧some k_≠(v655:Value).ownBlock∧some k_≠(v658:Value).ownBlock∧some k_≠(u10:Value).ownBlock∧some k_≠(u11:Value).ownBlock) v652 t651)∧Aside0 (Kd.R (Kd.int .i64) 3 wc w.heap.size (fun k_=>some k_≠(v649:Value).ownBlock∧some k_≠(u10:Value).ownBlock) v655 t654)∧Aside0 (Kd.N (Kd.slice 3 (Kd.int .i64)) 22 wc w.heap.size (fun k_=>some k_≠(v649:Value).ownBlock∧some k_≠(v652:Value).ownBlock∧some k_≠(v655:Value).ownBlock∧some k_≠(u10:Value).ownBlock∧some k_≠(u11:Value).ownBlock) v658 t657)∧Aside0 (Kd.R (Kd.int .i64) 3 wc w.heap.size (fun k_=>some k_≠(v649:Value).ownBlock∧some k_≠(v655:Value).ownBlock) u10 x10_2)∧Aside0 (Kd.N (Kd.slice 3 (Kd.int .i64)) 22 wc w.heap.size (fun k_=>some k_≠(v649:Value).ownBlock∧some k_≠(v652:Value).ownBlock∧some k_≠(v655:Value).ownBlock∧some k_≠(v658:Value).ownBlock∧some k_≠(u10:Value).ownBlock) u11 x11_2)∧Aside0 (Below w.heap.size w wc))
      case first =>
       have H:=HC21.out
       clear HC21
       by_cases c22:x12_2<(t648.length:Int)
       ·rw[if_pos c22] at H
        have c22b0:decide (x12_2<(t648.length:Int))=true:=decide_eq_true c22
        clear c22
        (first|rw[c22b0]|(simp only[i64_w,i32_w];rw[c22b0])|skip)
        have H':=Aside0.mk H
        clear H
        obtain⟨Ao23,co23,eo23⟩:=Kd.R_slice HO_6.out
        subst eo23
        go_wp2
        go_meet
        case rel=>exact⟨_,(true),(by first|rfl|(simp;done)|(simp[*];done)),H',⟨by have:=HJ2.out;have:=HK2.out;first|omega|exact Nat.le_refl _⟩,⟨by(with_reducible repeat (first|apply Kd.R_alloc|apply Kd.R_drewN|apply Kd.R_drew));exact HO_6.out⟩,⟨by(with_reducible repeat (first|apply Kd.N_alloc|apply Kd.N_drewN|apply Kd.N_drew));exact HO_7.out⟩,⟨by(with_reducible repeat (first|apply Kd.R_alloc|apply Kd.R_drewN|apply Kd.R_drew));exact HO_8.out⟩,⟨by(with_reducible repeat (first|apply Kd.N_alloc|apply Kd.N_drewN|apply Kd.N_drew));exact HO_9.out⟩,⟨by(with_reducible repeat (first|apply Kd.R_alloc|apply Kd.R_drewN|apply Kd.R_drew));exact HO_10.out⟩,⟨by(with_reducible repeat (first|apply Kd.N_alloc|apply Kd.N_drewN|apply Kd.N_drew));exact HO_11.out⟩,⟨bz⟩⟩
       ·rw[if_neg c22] at H
        have c22b0:decide (x12_2<(t648.length:Int))=false:=decide_eq_false c22
        clear c22
        (first|rw[c22b0]|(simp only[i64_w,i32_w];rw[c22b0])|skip)
        have H':=Aside0.mk H
        clear H
        obtain⟨Ao24,co24,eo24⟩:=Kd.R_slice HO_6.out
        subst eo24
        obtain⟨Ao25,co25,eo25⟩:=Kd.R_slice HO_8.out
        subst eo25
        go_wp2
        go_meet
        case rel=>exact⟨_,(decide (x13_2<(t654.length:Int))),(by first|rfl|(simp;done)|(simp[*];done)),H',⟨by have:=HJ2.out;have:=HK2.out;first|omega|exact Nat.le_refl _⟩,⟨by(with_reducible repeat (first|apply Kd.R_alloc|apply Kd.R_drewN|apply Kd.R_drew));exact HO_6.out⟩,⟨by(with_reducible repeat (first|apply Kd.N_alloc|apply Kd.N_drewN|apply Kd.N_drew));exact HO_7.out⟩,⟨by(with_reducible repeat (first|apply Kd.R_alloc|apply Kd.R_drewN|apply Kd.R_drew));exact HO_8.out⟩,⟨by(with_reducible repeat (first|apply Kd.N_alloc|apply Kd.N_drewN|apply Kd.N_drew));exact HO_9.out⟩,⟨by(with_reducible repeat (first|apply Kd.R_alloc|apply Kd.R_drewN|apply Kd.R_drew));exact HO_10.out⟩,⟨by(with_reducible repeat (first|apply Kd.N_alloc|apply Kd.N_drewN|apply Kd.N_drew));exact HO_11.out⟩,⟨bz⟩⟩
      case rest =>
       clear HC21
       try clear c1
       try clear c2
       try clear p2
       try clear c3
       try clear c5
       try clear c10
       try clear c22
       try clear c22b0
       try clear c23
       try clear p2
       obtain⟨kq,x45_20,rfl,HA,HJ20,HO_6,HO_7,HO_8,HO_9,HO_10,HO_11,HB⟩:=hcut
       cases kq with
       | zero=>exact absurd HA.out (by simp[spec_OrdNatural.j2])
       | succ kj20 =>
        have H:=HA.out
        clear HA
        simp only[spec_OrdNatural.j2] at H
        by_cases c26:x45_20=true
        ·subst c26
         have H1:(if x12_2=(t648.length:Int) then(spec_OrdNatural.j3 kj20 t648 t651 t654 t657 x10_2 x11_2 x12_2 x13_2 (-1)) else(if x13_2=(t654.length:Int) then(spec_OrdNatural.j3 kj20 t648 t651 t654 t657 x10_2 x11_2 x12_2 x13_2 1) else(if 0≤x12_2 then(if x12_2<(t651.length:Int) then(if 0≤x13_2 then(if x13_2<(t657.length:Int) then((spec_l1Compare.f kj20 (rd_L1 t651 x12_2) (rd_L1 t657 x13_2)).bind fun t675=>(spec_OrdNatural.j3 kj20 t648 t651 t654 t657 x10_2 x11_2 x12_2 x13_2 t675)) else(none)) else(none)) else(none)) else(none))))=some (r1,r2):=by rw[if_pos rfl] at H;exact H
         clear H
         have H:=H1
         clear H1
         have HC27:=Aside0.mk H
         clear H
         go_upto_block 2 with (fail)
         go_cut [14] (fun v14 wc=>∃ (kq:Nat) (x14_26:Int),v14=.int .i64 x14_26∧Aside0 (spec_OrdNatural.j3 kq t648 t651 t654 t657 x10_2 x11_2 x12_2 x13_2 x14_26=some (r1,r2))∧Aside0 (kq≤kj20)∧Aside0 (Kd.R (Kd.int .i64) 3 wc w.heap.size (fun k_=>some k_≠(v655:Value).ownBlock∧some k_≠(u10:Value).ownBlock) v649 t648)∧Aside0 (Kd.N (Kd.slice 3 (Kd.int .i64)) 22 wc w.heap.size (fun k_=>some k_≠(v649:Value).ownBlock∧some k_≠(v655:Value).ownBlock∧some k_≠(v658:Value).ownBlock∧some k_≠(u10:Value).ownBlock∧some k_≠(u11:Value).ownBlock) v652 t651)∧Aside0 (Kd.R (Kd.int .i64) 3 wc w.heap.size (fun k_=>some k_≠(v649:Value).ownBlock∧some k_≠(u10:Value).ownBlock) v655 t654)∧Aside0 (Kd.N (Kd.slice 3 (Kd.int .i64)) 22 wc w.heap.size (fun k_=>some k_≠(v649:Value).ownBlock∧some k_≠(v652:Value).ownBlock∧some k_≠(v655:Value).ownBlock∧some k_≠(u10:Value).ownBlock∧some k_≠(u11:Value).ownBlock) v658 t657)∧Aside0 (Kd.R (Kd.int .i64) 3 wc w.heap.size (fun k_=>some k_≠(v649:Value).ownBlock∧some k_≠(v655:Value).ownBlock) u10 x10_2)∧Aside0 (Kd.N (Kd.slice 3 (Kd.int .i64)) 22 wc w.heap.size (fun k_=>some k_≠(v649:Value).ownBlock∧some k_≠(v652:Value).ownBlock∧some k_≠(v655:Value).ownBlock∧some k_≠(v658:Value).ownBlock∧some k_≠(u10:Value).ownBlock) u11 x11_2)∧Aside0 (Below w.heap.size w wc))
         case first =>
          have H:=HC27.out
          clear HC27
          by_cases c28:x12_2=(t648.length:Int)
          ·rw[if_pos c28] at H
           have c28b0:(x12_2 == (t648.length:Int))=true:=beq_iff_eq.mpr c28
           have c28b1:(x12_2 != (t648.length:Int))=false:=bne_eq_false_iff_eq.mpr c28
           clear c28
           (first|rw[c28b0]|(simp only[i64_w,i32_w];rw[c28b0])|skip)
           have H':=Aside0.mk H
           clear H
           obtain⟨Ao29,co29,eo29⟩:=Kd.R_slice HO_6.out
           subst eo29
           go_wp2
           go_meet
           case rel=>exact⟨_,((-1)),(by first|rfl|(simp;done)|(simp[*];done)),H',⟨by have:=HJ2.out;have:=HK2.out;have:=HJ20.out;first|omega|exact Nat.le_refl _⟩,⟨by(with_reducible repeat (first|apply Kd.R_alloc|apply Kd.R_drewN|apply Kd.R_drew));exact HO_6.out⟩,⟨by(with_reducible repeat (first|apply Kd.N_alloc|apply Kd.N_drewN|apply Kd.N_drew));exact HO_7.out⟩,⟨by(with_reducible repeat (first|apply Kd.R_alloc|apply Kd.R_drewN|apply Kd.R_drew));exact HO_8.out⟩,⟨by(with_reducible repeat (first|apply Kd.N_alloc|apply Kd.N_drewN|apply Kd.N_drew));exact HO_9.out⟩,⟨by(with_reducible repeat (first|apply Kd.R_alloc|apply Kd.R_drewN|apply Kd.R_drew));exact HO_10.out⟩,⟨by(with_reducible repeat (first|apply Kd.N_alloc|apply Kd.N_drewN|apply Kd.N_drew));exact HO_11.out⟩,⟨bz⟩⟩
          ·rw[if_neg c28] at H
           have c28b0:(x12_2 == (t648.length:Int))=false:=beq_eq_false_iff_ne.mpr c28
           have c28b1:(x12_2 != (t648.length:Int))=true:=bne_iff_ne.mpr c28
           (first|rw[c28b0]|(simp only[i64_w,i32_w];rw[c28b0])|skip)
           by_cases c30:x13_2=(t654.length:Int)
           ·rw[if_pos c30] at H
            have c30b0:(x13_2 == (t654.length:Int))=true:=beq_iff_eq.mpr c30
            have c30b1:(x13_2 != (t654.length:Int))=false:=bne_eq_false_iff_eq.mpr c30
            clear c30
            have H':=Aside0.mk H
            clear H
            obtain⟨Ao31,co31,eo31⟩:=Kd.R_slice HO_6.out
            subst eo31
            obtain⟨Ao32,co32,eo32⟩:=Kd.R_slice HO_8.out
            subst eo32
            go_wp2
            go_meet
            case rel=>exact⟨_,(1),(by first|rfl|(simp;done)|(simp[*];done)),H',⟨by have:=HJ2.out;have:=HK2.out;have:=HJ20.out;first|omega|exact Nat.le_refl _⟩,⟨by(with_reducible repeat (first|apply Kd.R_alloc|apply Kd.R_drewN|apply Kd.R_drew));exact HO_6.out⟩,⟨by(with_reducible repeat (first|apply Kd.N_alloc|apply Kd.N_drewN|apply Kd.N_drew));exact HO_7.out⟩,⟨by(with_reducible repeat (first|apply Kd.R_alloc|apply Kd.R_drewN|apply Kd.R_drew));exact HO_8.out⟩,⟨by(with_reducible repeat (first|apply Kd.N_alloc|apply Kd.N_drewN|apply Kd.N_drew));exact HO_9.out⟩,⟨by(with_reducible repeat (first|apply Kd.R_alloc|apply Kd.R_drewN|apply Kd.R_drew));exact HO_10.out⟩,⟨by(with_reducible repeat (first|apply Kd.N_alloc|apply Kd.N_drewN|apply Kd.N_drew));exact HO_11.out⟩,⟨bz⟩⟩
           ·rw[if_neg c30] at H
            have c30b0:(x13_2 == (t654.length:Int))=false:=beq_eq_false_iff_ne.mpr c30
            have c30b1:(x13_2 != (t654.length:Int))=true:=bne_iff_ne.mpr c30
            by_cases c33:0≤x12_2
            ·rw[if_pos c33] at H
             have c33b0:decide (0≤x12_2)=true:=decide_eq_true c33
             clear c33
             by_cases c34:x12_2<(t651.length:Int)
             ·rw[if_pos c34] at H
              have c34b0:decide (x12_2<(t651.length:Int))=true:=decide_eq_true c34
              clear c34
              by_cases c35:0≤x13_2
              ·rw[if_pos c35] at H
               have c35b0:decide (0≤x13_2)=true:=decide_eq_true c35
               clear c35
               by_cases c36:x13_2<(t657.length:Int)
               ·rw[if_pos c36] at H
                have c36b0:decide (x13_2<(t657.length:Int))=true:=decide_eq_true c36
                clear c36
                replace H:=Option.bind_eq_some_iff.mp H
                obtain⟨t675,A370,H⟩:=H
                replace H:(spec_OrdNatural.j3 kj20 t648 t651 t654 t657 x10_2 x11_2 x12_2 x13_2 t675)=some (r1,r2):=H
                have A37:=Aside0.mk A370
                clear A370
                have H':=Aside0.mk H
                clear H
                obtain⟨Ao38,co38,eo38⟩:=Kd.R_slice HO_6.out
                subst eo38
                obtain⟨Ao39,co39,eo39⟩:=Kd.R_slice HO_8.out
                subst eo39
                try go_wp2
                have n0_:=Aside0.mk (Kd.R_drew HO_6.out)
                have n1_:=Aside0.mk (Kd.N_drew HO_7.out)
                have n2_:=Aside0.mk (Kd.R_drew HO_8.out)
                have n3_:=Aside0.mk (Kd.N_drew HO_9.out)
                have n4_:=Aside0.mk (Kd.R_drew HO_10.out)
                have n5_:=Aside0.mk (Kd.N_drew HO_11.out)
                have n6_:=Aside0.mk (below_drew1 HB.out)
                clear HO_6
                clear HO_7
                clear HO_8
                clear HO_9
                clear HO_10
                clear HO_11
                clear HB
                have HO_6:=n0_
                have HO_7:=n1_
                have HO_8:=n2_
                have HO_9:=n3_
                have HO_10:=n4_
                have HO_11:=n5_
                have HB:=n6_
                clear n0_ n1_ n2_ n3_ n4_ n5_ n6_
                obtain⟨Ao41,co41,eo41⟩:=Kd.N_slice HO_7.out
                (first|subst eo41|(injection eo41 with f1_ f2_ f3_;have f4_:=f1_.symm;have f5_:=f3_.symm;clear f1_ f2_ f3_;subst f4_;subst f5_))
                have p673:0≤(x12_2:Int):=dz
                have q673:x12_2<(t651.length:Int):=dz
                obtain⟨ad673,A673_0,c673_0,e673,hx673_0,hl673_0,hi673_0⟩:=at_L1 (Kd.N_reads' HO_7.out).2.2 x12_2 p673 q673
                cases e673
                obtain⟨ce673,hce673,hMe673,hcc673⟩:=Kd.N_get HO_7.out [] x12_2 p673 (by first|exact q673|exact dz|(have e_:=(Kd.N_reads' HO_7.out).1;omega))
                obtain⟨ua673_0,uc673_0,rfl,ul673_0,ge673_0⟩:=Kd.FK_slice_open hMe673
                have hv673_0:=hcc673 0 _ rfl
                rw[Nat.add_zero,show ((Kd.slice 3 (Kd.int .i64))).sz=1 from rfl,Nat.mul_one] at hv673_0
                replace hv673_0:=Option.some.inj (hv673_0.symm.trans hx673_0)
                injection hv673_0 with hva_ hvn_ hvc_
                rw[hva_] at ge673_0
                rw[hvc_] at ul673_0
                have HL673_0:=Aside0.mk (show Kd.V (Kd.int .i64) 3 _ w.heap.size _ _ (rd_L1 t651 x12_2) from Kd.V_mk ul673_0 ge673_0)
                clear hva_ hvn_ hvc_ ge673_0 ul673_0
                clear hcc673 hce673
                have HR673_0:=Aside0.mk hi673_0
                have HC673_0:=Aside0.mk hl673_0
                clear hi673_0 hl673_0
                replace p673:=eq_true p673
                replace q673:=eq_true q673
                obtain⟨Ao42,co42,eo42⟩:=Kd.N_slice HO_9.out
                (first|subst eo42|(injection eo42 with f1_ f2_ f3_;have f4_:=f1_.symm;have f5_:=f3_.symm;clear f1_ f2_ f3_;subst f4_;subst f5_))
                have p674:0≤(x13_2:Int):=dz
                have q674:x13_2<(t657.length:Int):=dz
                obtain⟨ad674,A674_0,c674_0,e674,hx674_0,hl674_0,hi674_0⟩:=at_L1 (Kd.N_reads' HO_9.out).2.2 x13_2 p674 q674
                cases e674
                obtain⟨ce674,hce674,hMe674,hcc674⟩:=Kd.N_get HO_9.out [] x13_2 p674 (by first|exact q674|exact dz|(have e_:=(Kd.N_reads' HO_9.out).1;omega))
                obtain⟨ua674_0,uc674_0,rfl,ul674_0,ge674_0⟩:=Kd.FK_slice_open hMe674
                have hv674_0:=hcc674 0 _ rfl
                rw[Nat.add_zero,show ((Kd.slice 3 (Kd.int .i64))).sz=1 from rfl,Nat.mul_one] at hv674_0
                replace hv674_0:=Option.some.inj (hv674_0.symm.trans hx674_0)
                injection hv674_0 with hva_ hvn_ hvc_
                rw[hva_] at ge674_0
                rw[hvc_] at ul674_0
                have HL674_0:=Aside0.mk (show Kd.V (Kd.int .i64) 3 _ w.heap.size _ _ (rd_L1 t657 x13_2) from Kd.V_mk ul674_0 ge674_0)
                clear hva_ hvn_ hvc_ ge674_0 ul674_0
                clear hcc674 hce674
                have HR674_0:=Aside0.mk hi674_0
                have HC674_0:=Aside0.mk hl674_0
                clear hi674_0 hl674_0
                replace p674:=eq_true p674
                replace q674:=eq_true q674
                refine start_ (n:=10) (S:=fun w'=>w'.cell? (ad673.add (x12_2).toNat)=some (.slice A673_0 (rd_L1 t651 x12_2).length c673_0)∧w'.cell? (ad674.add (x13_2).toNat)=some (.slice A674_0 (rd_L1 t657 x13_2).length c674_0)) (ds:=[]) #[F,F,F,F,F,F,F,F,F,F] (by kernel_rfl) rfl rfl ⟨hx673_0,hx674_0⟩ (fun hHeld=>?_);refine with_tabW spec_OrdNatural.tab11 spec_OrdNatural.bits11 (fun HT_ HW_=>?_)
                generalize wc.drew=w40 at HO_6 HO_7 HO_8 HO_9 HO_10 HO_11 HB HL673_0 HL674_0 HR673_0 HR674_0 hx673_0 hx674_0 hHeld ⊢
                refine pq 0 (some 46) ?_ HT_.out rfl rfl (Or.inl ⟨by rfl,?_⟩) ?_ ?_ ?_
                rotate_left;(· intro w';go_simp;with_reducible rfl);rotate_left;(· simp only[Act.put,s1,s2,s3,i64_w,i32_w];rfl)
                refine pq 1 (some 47) ?_ HT_.out rfl rfl (Or.inl ⟨by rfl,?_⟩) ?_ ?_ ?_
                rotate_left;(· intro w';go_simp;with_reducible rfl);rotate_left;(· simp only[Act.put,s1,s2,s3,i64_w,i32_w];rfl)
                refine pq 2 (some 48) ?_ HT_.out rfl rfl (Or.inl ⟨by rfl,?_⟩) ?_ ?_ ?_
                rotate_left;(· intro w';go_simp;with_reducible rfl);rotate_left;(· simp only[Act.put,s1,s2,s3,i64_w,i32_w];rfl)
                refine pq 4 (some 50) ?_ HT_.out rfl rfl (Or.inl ⟨by rfl,?_⟩) ?_ ?_ ?_
                rotate_left;(· intro w';go_simp;with_reducible rfl);rotate_left;(· simp only[Act.put,s1,s2,s3,i64_w,i32_w];rfl)
                refine pq 5 (some 51) ?_ HT_.out rfl rfl (Or.inl ⟨by rfl,?_⟩) ?_ ?_ ?_
                rotate_left;(· intro w';go_simp;with_reducible rfl);rotate_left;(· simp only[Act.put,s1,s2,s3,i64_w,i32_w];rfl)
                refine pq 6 (some 52) ?_ HT_.out rfl rfl (Or.inl ⟨by rfl,?_⟩) ?_ ?_ ?_
                rotate_left;(· intro w';go_simp;with_reducible rfl);rotate_left;(· simp only[Act.put,s1,s2,s3,i64_w,i32_w];rfl)
                refine take_ (i:=3) (N:=some 49) (v:=?_) (a':=?_) #[T,T,T,T,T,T,T,F,F,F] rfl rfl (take_ofW HT_.out HW_.out (by kernel_rfl)) (fun _ _ _ h=>h) (Or.inl ⟨by rfl,?_⟩) hHeld ?_ ?_
                rotate_left;(· rintro w' ⟨s0,s1⟩;go_simp;with_reducible rfl);rotate_left;(· simp only[Act.put,s1,s2,s3,i64_w,i32_w];rfl)
                refine take_ (i:=7) (N:=some 53) (v:=?_) (a':=?_) #[T,T,T,T,T,T,T,T,F,F] rfl rfl (take_ofW HT_.out HW_.out (by kernel_rfl)) (fun _ _ _ h=>h) (Or.inl ⟨by rfl,?_⟩) hHeld ?_ ?_
                rotate_left;(· rintro w' ⟨s0,s1⟩;go_simp;with_reducible rfl);rotate_left;(· simp only[Act.put,s1,s2,s3,i64_w,i32_w];rfl)
                refine one_ (i:=8) (N:=some 54) #[T,T,T,T,T,T,T,T,T,F] rfl rfl (one_of HT_.out (by kernel_rfl)) (by decide) (fun K hK=>?_)
                refine goes_ Try.func53 (by kernel_rfl) rfl #[.slice A673_0 (rd_L1 t651 x12_2).length c673_0,.slice A674_0 (rd_L1 t657 x13_2).length c674_0] (by rfl) rfl rfl az ?_
                with_reducible refine(spec_l1Compare.calls kj20 _ _ (rd_L1 t651 x12_2) _ _ (rd_L1 t657 x13_2) t675 _ ?side1 ?side2 ?side3 ?side4 A37.out).mono ?_
                (case side1=>repeat (first|exact(by repeat (first|(with_reducible exact HR673_0.out)|(with_reducible refine Kd.C_alloc ?_ _)|(with_reducible refine Kd.C_drewN ?_ _)|(with_reducible refine Kd.C_drew ?_)|exact HR673_0.out))|(with_reducible refine Kd.C_alloc ?_ _)|(with_reducible refine Kd.C_drewN ?_ _)|(with_reducible refine Kd.C_drew ?_)))
                (case side2=>exact HC673_0.out)
                (case side3=>repeat (first|exact(by repeat (first|(with_reducible exact HR674_0.out)|(with_reducible refine Kd.C_alloc ?_ _)|(with_reducible refine Kd.C_drewN ?_ _)|(with_reducible refine Kd.C_drew ?_)|exact HR674_0.out))|(with_reducible refine Kd.C_alloc ?_ _)|(with_reducible refine Kd.C_drewN ?_ _)|(with_reducible refine Kd.C_drew ?_)))
                (case side4=>exact HC674_0.out)
                rintro e w43 ⟨rfl,hb⟩
                have HS0_:=(hb.cell (World.block_lt_of_cell? _ _ (hHeld.1))).trans (hHeld.1)
                have HS1_:=(hb.cell (World.block_lt_of_cell? _ _ (hHeld.2))).trans (hHeld.2)
                refine⟨_,rfl,?_⟩
                have n0_:=Aside0.mk (Kd.R_below (Kd.Rz HO_6.out) hb)
                have n1_:=Aside0.mk (Kd.N_below (Kd.Nz HO_7.out) hb)
                have n2_:=Aside0.mk (Kd.R_below (Kd.Rz HO_8.out) hb)
                have n3_:=Aside0.mk (Kd.N_below (Kd.Nz HO_9.out) hb)
                have n4_:=Aside0.mk (Kd.R_below (Kd.Rz HO_10.out) hb)
                have n5_:=Aside0.mk (Kd.N_below (Kd.Nz HO_11.out) hb)
                have n6_:=Aside0.mk (Kd.V_below (Kd.Vz HL673_0.out) hb)
                have n7_:=Aside0.mk (Kd.V_below (Kd.Vz HL674_0.out) hb)
                have n8_:=Aside0.mk (Kd.C_below (by repeat (first|(with_reducible exact HR673_0.out)|(with_reducible refine Kd.C_alloc ?_ _)|(with_reducible refine Kd.C_drewN ?_ _)|(with_reducible refine Kd.C_drew ?_)|exact HR673_0.out)) hb)
                have n9_:=Aside0.mk (Kd.C_below (by repeat (first|(with_reducible exact HR674_0.out)|(with_reducible refine Kd.C_alloc ?_ _)|(with_reducible refine Kd.C_drewN ?_ _)|(with_reducible refine Kd.C_drew ?_)|exact HR674_0.out)) hb)
                have n10_:=Aside0.mk (below_step bz hb)
                clear HO_6
                clear HO_7
                clear HO_8
                clear HO_9
                clear HO_10
                clear HO_11
                clear HL673_0
                clear HL674_0
                clear HR673_0
                clear HR674_0
                clear HB
                have HO_6:=n0_
                have HO_7:=n1_
                have HO_8:=n2_
                have HO_9:=n3_
                have HO_10:=n4_
                have HO_11:=n5_
                have HL673_0:=n6_
                have HL674_0:=n7_
                have HR673_0:=n8_
                have HR674_0:=n9_
                have HB:=n10_
                clear n0_ n1_ n2_ n3_ n4_ n5_ n6_ n7_ n8_ n9_ n10_
                (try clear hb)
                (try clear hb2)
                (try clear hk)
                (try clear hi)
                refine hK.out _ _ ⟨HS0_,HS1_⟩ (fun hHeld=>?_)
                clear hK K
                refine norm_ (a':=?_) ?_ ?_
                rotate_left
                ·show Act.put _ (some 54) _=_
                 simp only[Act.put,s1,s2,s3,i64_w,i32_w]
                 rfl
                refine pq 9 (some 14) ?_ HT_.out rfl rfl (Or.inl ⟨by rfl,?_⟩) ?_ ?_ ?_
                rotate_left;(· intro w';go_simp;with_reducible rfl);rotate_left;(· simp only[Act.put,s1,s2,s3,i64_w,i32_w];rfl)
                refine done_ (done_of HT_.out (by kernel_rfl)) ?_
                try go_wp2
                go_meet
                case rel=>exact⟨_,(t675),(by first|rfl|(simp;done)|(simp[*];done)),H',⟨by have:=HJ2.out;have:=HK2.out;have:=HJ20.out;first|omega|exact Nat.le_refl _⟩,⟨by(with_reducible repeat (first|apply Kd.R_alloc|apply Kd.R_drewN|apply Kd.R_drew));exact HO_6.out⟩,⟨by(with_reducible repeat (first|apply Kd.N_alloc|apply Kd.N_drewN|apply Kd.N_drew));exact HO_7.out⟩,⟨by(with_reducible repeat (first|apply Kd.R_alloc|apply Kd.R_drewN|apply Kd.R_drew));exact HO_8.out⟩,⟨by(with_reducible repeat (first|apply Kd.N_alloc|apply Kd.N_drewN|apply Kd.N_drew));exact HO_9.out⟩,⟨by(with_reducible repeat (first|apply Kd.R_alloc|apply Kd.R_drewN|apply Kd.R_drew));exact HO_10.out⟩,⟨by(with_reducible repeat (first|apply Kd.N_alloc|apply Kd.N_drewN|apply Kd.N_drew));exact HO_11.out⟩,⟨bz⟩⟩
               ·rw[if_neg c36] at H
                exact absurd H (by simp)
              ·rw[if_neg c35] at H
               exact absurd H (by simp)
             ·rw[if_neg c34] at H
              exact absurd H (by simp)
            ·rw[if_neg c33] at H
             exact absurd H (by simp)
         case rest =>
          clear HC27
          try clear c1
          try clear c2
          try clear p2
          try clear c3
          try clear c5
          try clear c6
          try clear p6
          try clear q6
          try clear hx6
          try clear c10
          try clear c22
          try clear c22b0
          try clear c23
          try clear c26
          try clear c28
          try clear c28b0
          try clear c28b1
          try clear c30
          try clear c30b0
          try clear c30b1
          try clear c33
          try clear c33b0
          try clear c34
          try clear c34b0
          try clear c35
          try clear c35b0
          try clear c36
          try clear c36b0
          try clear hx673_0
          try clear hx674_0
          try clear p2
          try clear p673
          try clear p674
          try clear q673
          try clear q674
          obtain⟨kq,x14_26,rfl,HA,HJ26,HO_6,HO_7,HO_8,HO_9,HO_10,HO_11,HB⟩:=hcut
          cases kq with
          | zero=>exact absurd HA.out (by simp[spec_OrdNatural.j3])
          | succ kj26 =>
           have H:=HA.out
           clear HA
           simp only[spec_OrdNatural.j3] at H
           by_cases c44:x14_26=1
           ·rw[if_pos c44] at H
            have c44b0:(x14_26 == 1)=true:=beq_iff_eq.mpr c44
            have c44b1:(x14_26 != 1)=false:=bne_eq_false_iff_eq.mpr c44
            clear c44
            by_cases c45:0≤x12_2
            ·rw[if_pos c45] at H
             have c45b0:decide (0≤x12_2)=true:=decide_eq_true c45
             clear c45
             by_cases c46:x12_2<(t648.length:Int)
             ·rw[if_pos c46] at H
              have c46b0:decide (x12_2<(t648.length:Int))=true:=decide_eq_true c46
              clear c46
              by_cases c47:x10_2.length<17592186044416
              ·rw[if_pos c47] at H
               have LMc47:=Aside0.mk c47
               clear c47
               obtain⟨y677,hy677⟩:∃ y_:List Int,y_=(x10_2++[rd t648 x12_2]):=⟨_,rfl⟩
               replace H:(if x12_2<(t651.length:Int) then(if x11_2.length<5864062014805 then(spec_OrdNatural.l0 kj26 t648 t651 t654 t657 y677 (x11_2++[rd_L1 t651 x12_2]) (wrap64 (x12_2+1)) x13_2) else(none)) else(none))=some (r1,r2):=hz hy677 H
               have Ny677:=Aside0.mk hy677
               clear hy677
               by_cases c48:x12_2<(t651.length:Int)
               ·rw[if_pos c48] at H
                have c48b0:decide (x12_2<(t651.length:Int))=true:=decide_eq_true c48
                clear c48
                by_cases c49:x11_2.length<5864062014805
                ·rw[if_pos c49] at H
                 have LMc49:=Aside0.mk c49
                 clear c49
                 obtain⟨y681,hy681⟩:∃ y_:List (List Int),y_=(x11_2++[rd_L1 t651 x12_2]):=⟨_,rfl⟩
                 replace H:(spec_OrdNatural.l0 kj26 t648 t651 t654 t657 y677 y681 (wrap64 (x12_2+1)) x13_2)=some (r1,r2):=hz hy681 H
                 have Ny681:=Aside0.mk hy681
                 clear hy681
                 have H':=Aside0.mk H
                 clear H
                 obtain⟨Ao50,co50,eo50⟩:=Kd.R_slice HO_6.out
                 subst eo50
                 have p676:0≤(x12_2:Int):=dz
                 have q676:x12_2<(t648.length:Int):=dz
                 obtain⟨ad676,e676,hx676_0⟩:=Kd.at_int (Kd.R_reads' HO_6.out).2.2 x12_2 p676 q676
                 cases e676
                 replace p676:=eq_true p676
                 replace q676:=eq_true q676
                 go_wp2_with (first|((with_reducible refine gate_builtin (b:=.append) (xs:=#[.tmp 91,.tmp 96]) rfl ?_);at_builtin;refine Kd.R_append (Kd.int .i64) (w0:=w) w.heap.size rfl (.tmp 91) (.tmp 96) 22 3 (.int .i64 0) 8 rfl Try.underlying22 info3 rfl (by decide) (by omega) u10 x10_2 (rd t648 x12_2) [.int .i64 (rd t648 x12_2)] (fun k_=>some k_≠(.slice (some ad676) t648.length co50:Value).ownBlock∧some k_≠(v655:Value).ownBlock) (fun _=>False) rfl rfl ?aP (fun _ hk=>hk.elim) ?aF ?aO ?aB ?aS ?aL ?_;(case aP=>exact rfl);(case aB=>exact bz);(case aF=>exact(fun k_ hk=>⟨Kd.fresh' (Kd.R_lt (Kd.Rz HO_6.out)) k_ hk,Kd.fresh' (Kd.R_lt (Kd.Rz HO_8.out)) k_ hk⟩));(case aO=>exact(Kd.Rz HO_10.out));(case aS=>exact(below_size bz));(case aL=>have:=LMc47.out;omega);intro v678 w51 ho hb hg hat;rw[← Ny677.out] at ho;replace HO_6:=Aside0.mk (Kd.R_after (ok:=(fun k_=>some k_≠(v655:Value).ownBlock)) (Kd.Rz HO_6.out) hg hat);replace HO_7:=Aside0.mk (Kd.N_afterv (ok:=(fun k_=>some k_≠(.slice (some ad676) t648.length co50:Value).ownBlock∧some k_≠(v655:Value).ownBlock∧some k_≠(v658:Value).ownBlock∧some k_≠(u11:Value).ownBlock)) (Kd.Nz <| Kd.N_mono HO_7.out (fun _ hk=>⟨⟨hk.1,⟨hk.2.1,⟨hk.2.2.1,hk.2.2.2.2⟩⟩⟩,hk.2.2.2.1⟩)) hg hat);replace HO_8:=Aside0.mk (Kd.R_after (ok:=(fun k_=>some k_≠(.slice (some ad676) t648.length co50:Value).ownBlock)) (Kd.Rz HO_8.out) hg hat);replace HO_9:=Aside0.mk (Kd.N_afterv (ok:=(fun k_=>some k_≠(.slice (some ad676) t648.length co50:Value).ownBlock∧some k_≠(v652:Value).ownBlock∧some k_≠(v655:Value).ownBlock∧some k_≠(u11:Value).ownBlock)) (Kd.Nz <| Kd.N_mono HO_9.out (fun _ hk=>⟨⟨hk.1,⟨hk.2.1,⟨hk.2.2.1,hk.2.2.2.2⟩⟩⟩,hk.2.2.2.1⟩)) hg hat);replace HO_11:=Aside0.mk (Kd.N_afterv (ok:=(fun k_=>some k_≠(.slice (some ad676) t648.length co50:Value).ownBlock∧some k_≠(v652:Value).ownBlock∧some k_≠(v655:Value).ownBlock∧some k_≠(v658:Value).ownBlock)) (Kd.Nz <| Kd.N_mono HO_11.out (fun _ hk=>⟨⟨hk.1,⟨hk.2.1,⟨hk.2.2.1,hk.2.2.2.1⟩⟩⟩,hk.2.2.2.2⟩)) hg hat);replace HB:=Aside0.mk (hb);have HO679:=Aside0.mk (ho);clear HO_10;clear ho hb hg hat;obtain⟨Ao52,co52,eo52⟩:=Kd.N_slice HO_7.out;subst eo52;have p680:0≤(x12_2:Int):=dz;have q680:x12_2<(t651.length:Int):=dz;obtain⟨ad680,A680_0,c680_0,e680,hx680_0,hl680_0,hi680_0⟩:=at_L1 (Kd.N_reads' HO_7.out).2.2 x12_2 p680 q680;cases e680;obtain⟨ce680,hce680,hMe680,hcc680⟩:=Kd.N_get HO_7.out [] x12_2 p680 (by first|exact q680|exact dz|(have e_:=(Kd.N_reads' HO_7.out).1;omega));obtain⟨ua680_0,uc680_0,rfl,ul680_0,ge680_0⟩:=Kd.FK_slice_open hMe680;have hv680_0:=hcc680 0 _ rfl;rw[Nat.add_zero,show ((Kd.slice 3 (Kd.int .i64))).sz=1 from rfl,Nat.mul_one] at hv680_0;replace hv680_0:=Option.some.inj (hv680_0.symm.trans hx680_0);injection hv680_0 with hva_ hvn_ hvc_;rw[hva_] at ge680_0;rw[hvc_] at ul680_0;have HL680_0:=Aside0.mk (show Kd.V (Kd.int .i64) 3 _ w.heap.size _ _ (rd_L1 t651 x12_2) from Kd.V_mk ul680_0 ge680_0);clear hva_ hvn_ hvc_ ge680_0 ul680_0;clear hcc680 hce680;have HR680_0:=Aside0.mk hi680_0;have HC680_0:=Aside0.mk hl680_0;clear hi680_0 hl680_0;replace p680:=eq_true p680;replace q680:=eq_true q680)|((with_reducible refine gate_builtin (b:=.append) (xs:=#[.tmp 98,.tmp 103]) rfl ?_);at_builtin;refine Kd.N_append (Kd.slice 3 (Kd.int .i64)) (w0:=w) w.heap.size rfl (.tmp 98) (.tmp 103) 52 22 (.slice none 0 0) 24 rfl Try.underlying52 info22 rfl (by decide) (by omega) u11 x11_2 (rd_L1 t651 x12_2) [.slice A680_0 (rd_L1 t651 x12_2).length c680_0] (fun k_=>some k_≠(.slice (some ad676) t648.length co50:Value).ownBlock∧some k_≠(.slice (some ad680) t651.length co52:Value).ownBlock∧some k_≠(v655:Value).ownBlock∧some k_≠(v658:Value).ownBlock∧some k_≠(v678:Value).ownBlock) (fun k_=>((fun k_=>some k_≠(.slice (some ad676) t648.length co50:Value).ownBlock∧some k_≠(.slice (some ad680) t651.length co52:Value).ownBlock∧some k_≠(v655:Value).ownBlock∧some k_≠(v658:Value).ownBlock∧some k_≠(v678:Value).ownBlock)) k_∧some k_≠(u11:Value).ownBlock) rfl rfl ?aP (fun _ hk=>hk) ?aF ?aO ?aB ?aS ?aL ?_;(case aP=>exact(Kd.FK_slice_mk (Kd.V_reads' (Kd.V_mono (ok':=(fun k_=>((fun k_=>some k_≠(.slice (some ad676) t648.length co50:Value).ownBlock∧some k_≠(.slice (some ad680) t651.length co52:Value).ownBlock∧some k_≠(v655:Value).ownBlock∧some k_≠(v658:Value).ownBlock∧some k_≠(v678:Value).ownBlock)) k_∧some k_≠(u11:Value).ownBlock)) (HL680_0.out) (fun k_ hk=>⟨⟨hk.1.1.1,⟨hk.2,⟨hk.1.1.2.1,⟨hk.1.1.2.2.1,hk.1.2⟩⟩⟩⟩,hk.1.1.2.2.2⟩))).2.1 (Kd.V_F (Kd.V_mono (ok':=(fun k_=>((fun k_=>some k_≠(.slice (some ad676) t648.length co50:Value).ownBlock∧some k_≠(.slice (some ad680) t651.length co52:Value).ownBlock∧some k_≠(v655:Value).ownBlock∧some k_≠(v658:Value).ownBlock∧some k_≠(v678:Value).ownBlock)) k_∧some k_≠(u11:Value).ownBlock)) (HL680_0.out) (fun k_ hk=>⟨⟨hk.1.1.1,⟨hk.2,⟨hk.1.1.2.1,⟨hk.1.1.2.2.1,hk.1.2⟩⟩⟩⟩,hk.1.1.2.2.2⟩)))));(case aB=>exact bz);(case aF=>exact(fun k_ hk=>⟨Kd.fresh' (Kd.R_lt (Kd.Rz HO_6.out)) k_ hk,Kd.fresh' (Kd.N_lt (Kd.Nz HO_7.out)) k_ hk,Kd.fresh' (Kd.R_lt (Kd.Rz HO_8.out)) k_ hk,Kd.fresh' (Kd.N_lt (Kd.Nz HO_9.out)) k_ hk,Kd.fresh' (Kd.R_lt (Kd.Rz HO679.out)) k_ hk⟩));(case aO=>exact(Kd.Nz <| Kd.N_mono HO_11.out (fun _ hk=>⟨hk.1.1,⟨hk.1.2.1,⟨hk.1.2.2.1,⟨hk.1.2.2.2,hk.2⟩⟩⟩⟩)));(case aS=>exact(below_size bz));(case aL=>have:=LMc49.out;omega);intro v682 w53 ho hb hg hat;rw[← Ny681.out] at ho;replace HO_6:=Aside0.mk (Kd.R_over' (Kd.Rz HO_6.out) (Kd.N_typed (Kd.Nz HO_11.out)) (by decide) hg);replace HO_7:=Aside0.mk (Kd.N_afterv (ok:=(fun k_=>some k_≠(.slice (some ad676) t648.length co50:Value).ownBlock∧some k_≠(v655:Value).ownBlock∧some k_≠(v658:Value).ownBlock∧some k_≠(v678:Value).ownBlock)) (Kd.Nz <| Kd.N_mono HO_7.out (fun _ hk=>⟨⟨hk.1.1,⟨hk.1.2.1,⟨hk.1.2.2.1,hk.2⟩⟩⟩,hk.1.2.2.2⟩)) hg hat);replace HO_8:=Aside0.mk (Kd.R_over' (Kd.Rz HO_8.out) (Kd.N_typed (Kd.Nz HO_11.out)) (by decide) hg);replace HO_9:=Aside0.mk (Kd.N_afterv (ok:=(fun k_=>some k_≠(.slice (some ad676) t648.length co50:Value).ownBlock∧some k_≠(.slice (some ad680) t651.length co52:Value).ownBlock∧some k_≠(v655:Value).ownBlock∧some k_≠(v678:Value).ownBlock)) (Kd.Nz <| Kd.N_mono HO_9.out (fun _ hk=>⟨⟨hk.1.1,⟨hk.1.2.1,⟨hk.1.2.2.1,hk.2⟩⟩⟩,hk.1.2.2.2⟩)) hg hat);replace HO679:=Aside0.mk (Kd.R_over' (Kd.Rz HO679.out) (Kd.N_typed (Kd.Nz HO_11.out)) (by decide) hg);replace HL680_0:=Aside0.mk (Kd.V_afterv (ok:=(fun k_=>some k_≠(.slice (some ad676) t648.length co50:Value).ownBlock∧some k_≠(.slice (some ad680) t651.length co52:Value).ownBlock∧some k_≠(v655:Value).ownBlock∧some k_≠(v658:Value).ownBlock∧some k_≠(v678:Value).ownBlock)) (Kd.Vz <| Kd.V_mono HL680_0.out (fun _ hk=>⟨⟨hk.1.1.1,⟨hk.2,⟨hk.1.1.2.1,⟨hk.1.1.2.2.1,hk.1.2⟩⟩⟩⟩,hk.1.1.2.2.2⟩)) hg hat);replace HB:=Aside0.mk (hb);have HO683:=Aside0.mk (ho);clear HO_11;clear ho hb hg hat))
                 go_roundg kj26
                 case measure=>have:=HJ2.out;have:=HK2.out;have:=HJ20.out;have:=HJ26.out;omega
                 case rel=>exact⟨(y677),(y681),(wrap64 (x12_2+1)),(x13_2),(by first|rfl|(simp;done)|(simp[*];done)),(by first|rfl|(simp;done)|(simp[*];done)),H',⟨by have:=HJ2.out;have:=HK2.out;have:=HJ20.out;have:=HJ26.out;omega⟩,⟨by(with_reducible repeat (first|apply Kd.R_alloc|apply Kd.R_drewN|apply Kd.R_drew));exact HO_6.out⟩,⟨Kd.Nz <| Kd.N_mono HO_7.out (fun _ hk=>⟨hk.1.1,⟨hk.1.2.1,⟨hk.1.2.2.1,⟨hk.1.2.2.2,hk.2⟩⟩⟩⟩)⟩,⟨by(with_reducible repeat (first|apply Kd.R_alloc|apply Kd.R_drewN|apply Kd.R_drew));exact HO_8.out⟩,⟨Kd.Nz <| Kd.N_mono HO_9.out (fun _ hk=>⟨hk.1.1,⟨hk.1.2.1,⟨hk.1.2.2.1,⟨hk.1.2.2.2,hk.2⟩⟩⟩⟩)⟩,⟨by(with_reducible repeat (first|apply Kd.R_alloc|apply Kd.R_drewN|apply Kd.R_drew));exact HO679.out⟩,⟨by(with_reducible repeat (first|apply Kd.N_alloc|apply Kd.N_drewN|apply Kd.N_drew));exact HO683.out⟩,⟨bz⟩⟩
                ·rw[if_neg c49] at H
                 exact absurd H (by simp)
               ·rw[if_neg c48] at H
                exact absurd H (by simp)
              ·rw[if_neg c47] at H
               exact absurd H (by simp)
             ·rw[if_neg c46] at H
              exact absurd H (by simp)
            ·rw[if_neg c45] at H
             exact absurd H (by simp)
           ·rw[if_neg c44] at H
            have c44b0:(x14_26 == 1)=false:=beq_eq_false_iff_ne.mpr c44
            have c44b1:(x14_26 != 1)=true:=bne_iff_ne.mpr c44
            by_cases c54:x14_26=(-1)
            ·rw[if_pos c54] at H
             have c54b0:(x14_26 == (-1))=true:=beq_iff_eq.mpr c54
             have c54b1:(x14_26 != (-1))=false:=bne_eq_false_iff_eq.mpr c54
             clear c54
             by_cases c55:0≤x13_2
             ·rw[if_pos c55] at H
              have c55b0:decide (0≤x13_2)=true:=decide_eq_true c55
              clear c55
              by_cases c56:x13_2<(t654.length:Int)
              ·rw[if_pos c56] at H
               have c56b0:decide (x13_2<(t654.length:Int))=true:=decide_eq_true c56
               clear c56
               by_cases c57:x10_2.length<17592186044416
               ·rw[if_pos c57] at H
                have LMc57:=Aside0.mk c57
                clear c57
                obtain⟨y685,hy685⟩:∃ y_:List Int,y_=(x10_2++[rd t654 x13_2]):=⟨_,rfl⟩
                replace H:(if x13_2<(t657.length:Int) then(if x11_2.length<5864062014805 then(spec_OrdNatural.l0 kj26 t648 t651 t654 t657 y685 (x11_2++[rd_L1 t657 x13_2]) x12_2 (wrap64 (x13_2+1))) else(none)) else(none))=some (r1,r2):=hz hy685 H
                have Ny685:=Aside0.mk hy685
                clear hy685
                by_cases c58:x13_2<(t657.length:Int)
                ·rw[if_pos c58] at H
                 have c58b0:decide (x13_2<(t657.length:Int))=true:=decide_eq_true c58
                 clear c58
                 by_cases c59:x11_2.length<5864062014805
                 ·rw[if_pos c59] at H
                  have LMc59:=Aside0.mk c59
                  clear c59
                  obtain⟨y689,hy689⟩:∃ y_:List (List Int),y_=(x11_2++[rd_L1 t657 x13_2]):=⟨_,rfl⟩
                  replace H:(spec_OrdNatural.l0 kj26 t648 t651 t654 t657 y685 y689 x12_2 (wrap64 (x13_2+1)))=some (r1,r2):=hz hy689 H
                  have Ny689:=Aside0.mk hy689
                  clear hy689
                  have H':=Aside0.mk H
                  clear H
                  obtain⟨Ao60,co60,eo60⟩:=Kd.R_slice HO_8.out
                  subst eo60
                  have p684:0≤(x13_2:Int):=dz
                  have q684:x13_2<(t654.length:Int):=dz
                  obtain⟨ad684,e684,hx684_0⟩:=Kd.at_int (Kd.R_reads' HO_8.out).2.2 x13_2 p684 q684
                  cases e684
                  replace p684:=eq_true p684
                  replace q684:=eq_true q684
                  go_wp2_with (first|((with_reducible refine gate_builtin (b:=.append) (xs:=#[.tmp 109,.tmp 114]) rfl ?_);at_builtin;refine Kd.R_append (Kd.int .i64) (w0:=w) w.heap.size rfl (.tmp 109) (.tmp 114) 22 3 (.int .i64 0) 8 rfl Try.underlying22 info3 rfl (by decide) (by omega) u10 x10_2 (rd t654 x13_2) [.int .i64 (rd t654 x13_2)] (fun k_=>some k_≠(v649:Value).ownBlock∧some k_≠(.slice (some ad684) t654.length co60:Value).ownBlock) (fun _=>False) rfl rfl ?aP (fun _ hk=>hk.elim) ?aF ?aO ?aB ?aS ?aL ?_;(case aP=>exact rfl);(case aB=>exact bz);(case aF=>exact(fun k_ hk=>⟨Kd.fresh' (Kd.R_lt (Kd.Rz HO_6.out)) k_ hk,Kd.fresh' (Kd.R_lt (Kd.Rz HO_8.out)) k_ hk⟩));(case aO=>exact(Kd.Rz HO_10.out));(case aS=>exact(below_size bz));(case aL=>have:=LMc57.out;omega);intro v686 w61 ho hb hg hat;rw[← Ny685.out] at ho;replace HO_6:=Aside0.mk (Kd.R_after (ok:=(fun k_=>some k_≠(.slice (some ad684) t654.length co60:Value).ownBlock)) (Kd.Rz HO_6.out) hg hat);replace HO_7:=Aside0.mk (Kd.N_afterv (ok:=(fun k_=>some k_≠(v649:Value).ownBlock∧some k_≠(.slice (some ad684) t654.length co60:Value).ownBlock∧some k_≠(v658:Value).ownBlock∧some k_≠(u11:Value).ownBlock)) (Kd.Nz <| Kd.N_mono HO_7.out (fun _ hk=>⟨⟨hk.1,⟨hk.2.1,⟨hk.2.2.1,hk.2.2.2.2⟩⟩⟩,hk.2.2.2.1⟩)) hg hat);replace HO_8:=Aside0.mk (Kd.R_after (ok:=(fun k_=>some k_≠(v649:Value).ownBlock)) (Kd.Rz HO_8.out) hg hat);replace HO_9:=Aside0.mk (Kd.N_afterv (ok:=(fun k_=>some k_≠(v649:Value).ownBlock∧some k_≠(v652:Value).ownBlock∧some k_≠(.slice (some ad684) t654.length co60:Value).ownBlock∧some k_≠(u11:Value).ownBlock)) (Kd.Nz <| Kd.N_mono HO_9.out (fun _ hk=>⟨⟨hk.1,⟨hk.2.1,⟨hk.2.2.1,hk.2.2.2.2⟩⟩⟩,hk.2.2.2.1⟩)) hg hat);replace HO_11:=Aside0.mk (Kd.N_afterv (ok:=(fun k_=>some k_≠(v649:Value).ownBlock∧some k_≠(v652:Value).ownBlock∧some k_≠(.slice (some ad684) t654.length co60:Value).ownBlock∧some k_≠(v658:Value).ownBlock)) (Kd.Nz <| Kd.N_mono HO_11.out (fun _ hk=>⟨⟨hk.1,⟨hk.2.1,⟨hk.2.2.1,hk.2.2.2.1⟩⟩⟩,hk.2.2.2.2⟩)) hg hat);replace HB:=Aside0.mk (hb);have HO687:=Aside0.mk (ho);clear HO_10;clear ho hb hg hat;obtain⟨Ao62,co62,eo62⟩:=Kd.N_slice HO_9.out;subst eo62;have p688:0≤(x13_2:Int):=dz;have q688:x13_2<(t657.length:Int):=dz;obtain⟨ad688,A688_0,c688_0,e688,hx688_0,hl688_0,hi688_0⟩:=at_L1 (Kd.N_reads' HO_9.out).2.2 x13_2 p688 q688;cases e688;obtain⟨ce688,hce688,hMe688,hcc688⟩:=Kd.N_get HO_9.out [] x13_2 p688 (by first|exact q688|exact dz|(have e_:=(Kd.N_reads' HO_9.out).1;omega));obtain⟨ua688_0,uc688_0,rfl,ul688_0,ge688_0⟩:=Kd.FK_slice_open hMe688;have hv688_0:=hcc688 0 _ rfl;rw[Nat.add_zero,show ((Kd.slice 3 (Kd.int .i64))).sz=1 from rfl,Nat.mul_one] at hv688_0;replace hv688_0:=Option.some.inj (hv688_0.symm.trans hx688_0);injection hv688_0 with hva_ hvn_ hvc_;rw[hva_] at ge688_0;rw[hvc_] at ul688_0;have HL688_0:=Aside0.mk (show Kd.V (Kd.int .i64) 3 _ w.heap.size _ _ (rd_L1 t657 x13_2) from Kd.V_mk ul688_0 ge688_0);clear hva_ hvn_ hvc_ ge688_0 ul688_0;clear hcc688 hce688;have HR688_0:=Aside0.mk hi688_0;have HC688_0:=Aside0.mk hl688_0;clear hi688_0 hl688_0;replace p688:=eq_true p688;replace q688:=eq_true q688)|((with_reducible refine gate_builtin (b:=.append) (xs:=#[.tmp 116,.tmp 121]) rfl ?_);at_builtin;refine Kd.N_append (Kd.slice 3 (Kd.int .i64)) (w0:=w) w.heap.size rfl (.tmp 116) (.tmp 121) 52 22 (.slice none 0 0) 24 rfl Try.underlying52 info22 rfl (by decide) (by omega) u11 x11_2 (rd_L1 t657 x13_2) [.slice A688_0 (rd_L1 t657 x13_2).length c688_0] (fun k_=>some k_≠(v649:Value).ownBlock∧some k_≠(v652:Value).ownBlock∧some k_≠(.slice (some ad684) t654.length co60:Value).ownBlock∧some k_≠(.slice (some ad688) t657.length co62:Value).ownBlock∧some k_≠(v686:Value).ownBlock) (fun k_=>((fun k_=>some k_≠(v649:Value).ownBlock∧some k_≠(v652:Value).ownBlock∧some k_≠(.slice (some ad684) t654.length co60:Value).ownBlock∧some k_≠(.slice (some ad688) t657.length co62:Value).ownBlock∧some k_≠(v686:Value).ownBlock)) k_∧some k_≠(u11:Value).ownBlock) rfl rfl ?aP (fun _ hk=>hk) ?aF ?aO ?aB ?aS ?aL ?_;(case aP=>exact(Kd.FK_slice_mk (Kd.V_reads' (Kd.V_mono (ok':=(fun k_=>((fun k_=>some k_≠(v649:Value).ownBlock∧some k_≠(v652:Value).ownBlock∧some k_≠(.slice (some ad684) t654.length co60:Value).ownBlock∧some k_≠(.slice (some ad688) t657.length co62:Value).ownBlock∧some k_≠(v686:Value).ownBlock)) k_∧some k_≠(u11:Value).ownBlock)) (HL688_0.out) (fun k_ hk=>⟨⟨hk.1.1.1,⟨hk.1.1.2.1,⟨hk.1.1.2.2.1,⟨hk.2,hk.1.2⟩⟩⟩⟩,hk.1.1.2.2.2⟩))).2.1 (Kd.V_F (Kd.V_mono (ok':=(fun k_=>((fun k_=>some k_≠(v649:Value).ownBlock∧some k_≠(v652:Value).ownBlock∧some k_≠(.slice (some ad684) t654.length co60:Value).ownBlock∧some k_≠(.slice (some ad688) t657.length co62:Value).ownBlock∧some k_≠(v686:Value).ownBlock)) k_∧some k_≠(u11:Value).ownBlock)) (HL688_0.out) (fun k_ hk=>⟨⟨hk.1.1.1,⟨hk.1.1.2.1,⟨hk.1.1.2.2.1,⟨hk.2,hk.1.2⟩⟩⟩⟩,hk.1.1.2.2.2⟩)))));(case aB=>exact bz);(case aF=>exact(fun k_ hk=>⟨Kd.fresh' (Kd.R_lt (Kd.Rz HO_6.out)) k_ hk,Kd.fresh' (Kd.N_lt (Kd.Nz HO_7.out)) k_ hk,Kd.fresh' (Kd.R_lt (Kd.Rz HO_8.out)) k_ hk,Kd.fresh' (Kd.N_lt (Kd.Nz HO_9.out)) k_ hk,Kd.fresh' (Kd.R_lt (Kd.Rz HO687.out)) k_ hk⟩));(case aO=>exact(Kd.Nz <| Kd.N_mono HO_11.out (fun _ hk=>⟨hk.1.1,⟨hk.1.2.1,⟨hk.1.2.2.1,⟨hk.1.2.2.2,hk.2⟩⟩⟩⟩)));(case aS=>exact(below_size bz));(case aL=>have:=LMc59.out;omega);intro v690 w63 ho hb hg hat;rw[← Ny689.out] at ho;replace HO_6:=Aside0.mk (Kd.R_over' (Kd.Rz HO_6.out) (Kd.N_typed (Kd.Nz HO_11.out)) (by decide) hg);replace HO_7:=Aside0.mk (Kd.N_afterv (ok:=(fun k_=>some k_≠(v649:Value).ownBlock∧some k_≠(.slice (some ad684) t654.length co60:Value).ownBlock∧some k_≠(.slice (some ad688) t657.length co62:Value).ownBlock∧some k_≠(v686:Value).ownBlock)) (Kd.Nz <| Kd.N_mono HO_7.out (fun _ hk=>⟨⟨hk.1.1,⟨hk.1.2.1,⟨hk.1.2.2.1,hk.2⟩⟩⟩,hk.1.2.2.2⟩)) hg hat);replace HO_8:=Aside0.mk (Kd.R_over' (Kd.Rz HO_8.out) (Kd.N_typed (Kd.Nz HO_11.out)) (by decide) hg);replace HO_9:=Aside0.mk (Kd.N_afterv (ok:=(fun k_=>some k_≠(v649:Value).ownBlock∧some k_≠(v652:Value).ownBlock∧some k_≠(.slice (some ad684) t654.length co60:Value).ownBlock∧some k_≠(v686:Value).ownBlock)) (Kd.Nz <| Kd.N_mono HO_9.out (fun _ hk=>⟨⟨hk.1.1,⟨hk.1.2.1,⟨hk.1.2.2.1,hk.2⟩⟩⟩,hk.1.2.2.2⟩)) hg hat);replace HO687:=Aside0.mk (Kd.R_over' (Kd.Rz HO687.out) (Kd.N_typed (Kd.Nz HO_11.out)) (by decide) hg);replace HL688_0:=Aside0.mk (Kd.V_afterv (ok:=(fun k_=>some k_≠(v649:Value).ownBlock∧some k_≠(v652:Value).ownBlock∧some k_≠(.slice (some ad684) t654.length co60:Value).ownBlock∧some k_≠(.slice (some ad688) t657.length co62:Value).ownBlock∧some k_≠(v686:Value).ownBlock)) (Kd.Vz <| Kd.V_mono HL688_0.out (fun _ hk=>⟨⟨hk.1.1.1,⟨hk.1.1.2.1,⟨hk.1.1.2.2.1,⟨hk.2,hk.1.2⟩⟩⟩⟩,hk.1.1.2.2.2⟩)) hg hat);replace HB:=Aside0.mk (hb);have HO691:=Aside0.mk (ho);clear HO_11;clear ho hb hg hat))
                  go_roundg kj26
                  case measure=>have:=HJ2.out;have:=HK2.out;have:=HJ20.out;have:=HJ26.out;omega
                  case rel=>exact⟨(y685),(y689),(x12_2),(wrap64 (x13_2+1)),(by first|rfl|(simp;done)|(simp[*];done)),(by first|rfl|(simp;done)|(simp[*];done)),H',⟨by have:=HJ2.out;have:=HK2.out;have:=HJ20.out;have:=HJ26.out;omega⟩,⟨by(with_reducible repeat (first|apply Kd.R_alloc|apply Kd.R_drewN|apply Kd.R_drew));exact HO_6.out⟩,⟨Kd.Nz <| Kd.N_mono HO_7.out (fun _ hk=>⟨hk.1.1,⟨hk.1.2.1,⟨hk.1.2.2.1,⟨hk.1.2.2.2,hk.2⟩⟩⟩⟩)⟩,⟨by(with_reducible repeat (first|apply Kd.R_alloc|apply Kd.R_drewN|apply Kd.R_drew));exact HO_8.out⟩,⟨Kd.Nz <| Kd.N_mono HO_9.out (fun _ hk=>⟨hk.1.1,⟨hk.1.2.1,⟨hk.1.2.2.1,⟨hk.1.2.2.2,hk.2⟩⟩⟩⟩)⟩,⟨by(with_reducible repeat (first|apply Kd.R_alloc|apply Kd.R_drewN|apply Kd.R_drew));exact HO687.out⟩,⟨by(with_reducible repeat (first|apply Kd.N_alloc|apply Kd.N_drewN|apply Kd.N_drew));exact HO691.out⟩,⟨bz⟩⟩
                 ·rw[if_neg c59] at H
                  exact absurd H (by simp)
                ·rw[if_neg c58] at H
                 exact absurd H (by simp)
               ·rw[if_neg c57] at H
                exact absurd H (by simp)
              ·rw[if_neg c56] at H
               exact absurd H (by simp)
             ·rw[if_neg c55] at H
              exact absurd H (by simp)
            ·rw[if_neg c54] at H
             have c54b0:(x14_26 == (-1))=false:=beq_eq_false_iff_ne.mpr c54
             have c54b1:(x14_26 != (-1))=true:=bne_iff_ne.mpr c54
             by_cases c64:0≤x12_2
             ·rw[if_pos c64] at H
              have c64b0:decide (0≤x12_2)=true:=decide_eq_true c64
              clear c64
              by_cases c65:x12_2<(t648.length:Int)
              ·rw[if_pos c65] at H
               have c65b0:decide (x12_2<(t648.length:Int))=true:=decide_eq_true c65
               clear c65
               by_cases c66:0≤x13_2
               ·rw[if_pos c66] at H
                have c66b0:decide (0≤x13_2)=true:=decide_eq_true c66
                clear c66
                by_cases c67:x13_2<(t654.length:Int)
                ·rw[if_pos c67] at H
                 have c67b0:decide (x13_2<(t654.length:Int))=true:=decide_eq_true c67
                 clear c67
                 by_cases c68:x10_2.length<17592186044416
                 ·rw[if_pos c68] at H
                  have LMc68:=Aside0.mk c68
                  clear c68
                  obtain⟨y694,hy694⟩:∃ y_:List Int,y_=(x10_2++[wrap64 ((rd t648 x12_2)+(rd t654 x13_2))]):=⟨_,rfl⟩
                  replace H:(if x12_2<(t651.length:Int) then(if x11_2.length<5864062014805 then(spec_OrdNatural.l0 kj26 t648 t651 t654 t657 y694 (x11_2++[rd_L1 t651 x12_2]) (wrap64 (x12_2+1)) (wrap64 (x13_2+1))) else(none)) else(none))=some (r1,r2):=hz hy694 H
                  have Ny694:=Aside0.mk hy694
                  clear hy694
                  by_cases c69:x12_2<(t651.length:Int)
                  ·rw[if_pos c69] at H
                   have c69b0:decide (x12_2<(t651.length:Int))=true:=decide_eq_true c69
                   clear c69
                   by_cases c70:x11_2.length<5864062014805
                   ·rw[if_pos c70] at H
                    have LMc70:=Aside0.mk c70
                    clear c70
                    obtain⟨y698,hy698⟩:∃ y_:List (List Int),y_=(x11_2++[rd_L1 t651 x12_2]):=⟨_,rfl⟩
                    replace H:(spec_OrdNatural.l0 kj26 t648 t651 t654 t657 y694 y698 (wrap64 (x12_2+1)) (wrap64 (x13_2+1)))=some (r1,r2):=hz hy698 H
                    have Ny698:=Aside0.mk hy698
                    clear hy698
                    have H':=Aside0.mk H
                    clear H
                    try go_wp2
                    have n0_:=Aside0.mk (Kd.R_drew HO_6.out)
                    have n1_:=Aside0.mk (Kd.N_drew HO_7.out)
                    have n2_:=Aside0.mk (Kd.R_drew HO_8.out)
                    have n3_:=Aside0.mk (Kd.N_drew HO_9.out)
                    have n4_:=Aside0.mk (Kd.R_drew HO_10.out)
                    have n5_:=Aside0.mk (Kd.N_drew HO_11.out)
                    have n6_:=Aside0.mk (below_drew1 HB.out)
                    clear HO_6
                    clear HO_7
                    clear HO_8
                    clear HO_9
                    clear HO_10
                    clear HO_11
                    clear HB
                    have HO_6:=n0_
                    have HO_7:=n1_
                    have HO_8:=n2_
                    have HO_9:=n3_
                    have HO_10:=n4_
                    have HO_11:=n5_
                    have HB:=n6_
                    clear n0_ n1_ n2_ n3_ n4_ n5_ n6_
                    obtain⟨Ao72,co72,eo72⟩:=Kd.R_slice HO_6.out
                    (first|subst eo72|(injection eo72 with f1_ f2_ f3_;have f4_:=f1_.symm;have f5_:=f3_.symm;clear f1_ f2_ f3_;subst f4_;subst f5_))
                    have p692:0≤(x12_2:Int):=dz
                    have q692:x12_2<(t648.length:Int):=dz
                    obtain⟨ad692,e692,hx692_0⟩:=Kd.at_int (Kd.R_reads' HO_6.out).2.2 x12_2 p692 q692
                    cases e692
                    replace p692:=eq_true p692
                    replace q692:=eq_true q692
                    obtain⟨Ao73,co73,eo73⟩:=Kd.R_slice HO_8.out
                    (first|subst eo73|(injection eo73 with f1_ f2_ f3_;have f4_:=f1_.symm;have f5_:=f3_.symm;clear f1_ f2_ f3_;subst f4_;subst f5_))
                    have p693:0≤(x13_2:Int):=dz
                    have q693:x13_2<(t654.length:Int):=dz
                    obtain⟨ad693,e693,hx693_0⟩:=Kd.at_int (Kd.R_reads' HO_8.out).2.2 x13_2 p693 q693
                    cases e693
                    replace p693:=eq_true p693
                    replace q693:=eq_true q693
                    refine start_ (n:=13) (S:=fun w'=>w'.cell? (ad692.add (x12_2).toNat)=some (.int .i64 (rd t648 x12_2))∧w'.cell? (ad693.add (x13_2).toNat)=some (.int .i64 (rd t654 x13_2))) (ds:=[10,11]) #[F,F,F,F,F,F,F,F,F,F,F,F,F] (by kernel_rfl) rfl rfl ⟨hx692_0,hx693_0⟩ (fun hHeld=>?_);refine with_tabW spec_OrdNatural.tab17 spec_OrdNatural.bits17 (fun HT_ HW_=>?_)
                    generalize wc.drew=w71 at HO_6 HO_7 HO_8 HO_9 HO_10 HO_11 HB hx692_0 hx693_0 hHeld ⊢
                    refine pq 0 (some 66) ?_ HT_.out rfl rfl (Or.inl ⟨by rfl,?_⟩) ?_ ?_ ?_
                    rotate_left;(· intro w';go_simp;with_reducible rfl);rotate_left;(· simp only[Act.put,s1,s2,s3,i64_w,i32_w];rfl)
                    refine pq 1 (some 67) ?_ HT_.out rfl rfl (Or.inl ⟨by rfl,?_⟩) ?_ ?_ ?_
                    rotate_left;(· intro w';go_simp;with_reducible rfl);rotate_left;(· simp only[Act.put,s1,s2,s3,i64_w,i32_w];rfl)
                    refine pq 2 (some 68) ?_ HT_.out rfl rfl (Or.inl ⟨by rfl,?_⟩) ?_ ?_ ?_
                    rotate_left;(· intro w';go_simp;with_reducible rfl);rotate_left;(· simp only[Act.put,s1,s2,s3,i64_w,i32_w];rfl)
                    refine pq 3 (some 69) ?_ HT_.out rfl rfl (Or.inl ⟨by rfl,?_⟩) ?_ ?_ ?_
                    rotate_left;(· intro w';go_simp;with_reducible rfl);rotate_left;(· simp only[Act.put,s1,s2,s3,i64_w,i32_w];rfl)
                    refine pq 5 (some 71) ?_ HT_.out rfl rfl (Or.inl ⟨by rfl,?_⟩) ?_ ?_ ?_
                    rotate_left;(· intro w';go_simp;with_reducible rfl);rotate_left;(· simp only[Act.put,s1,s2,s3,i64_w,i32_w];rfl)
                    refine pq 6 (some 72) ?_ HT_.out rfl rfl (Or.inl ⟨by rfl,?_⟩) ?_ ?_ ?_
                    rotate_left;(· intro w';go_simp;with_reducible rfl);rotate_left;(· simp only[Act.put,s1,s2,s3,i64_w,i32_w];rfl)
                    refine pq 7 (some 73) ?_ HT_.out rfl rfl (Or.inl ⟨by rfl,?_⟩) ?_ ?_ ?_
                    rotate_left;(· intro w';go_simp;with_reducible rfl);rotate_left;(· simp only[Act.put,s1,s2,s3,i64_w,i32_w];rfl)
                    refine take_ (i:=4) (N:=some 70) (v:=?_) (a':=?_) #[T,T,T,T,T,T,T,T,F,F,F,F,F] rfl rfl (take_ofW HT_.out HW_.out (by kernel_rfl)) (fun _ _ _ h=>h) (Or.inl ⟨by rfl,?_⟩) hHeld ?_ ?_
                    rotate_left;(· rintro w' ⟨s0,s1⟩;go_simp;with_reducible rfl);rotate_left;(· simp only[Act.put,s1,s2,s3,i64_w,i32_w];rfl)
                    refine take_ (i:=8) (N:=some 74) (v:=?_) (a':=?_) #[T,T,T,T,T,T,T,T,T,F,F,F,F] rfl rfl (take_ofW HT_.out HW_.out (by kernel_rfl)) (fun _ _ _ h=>h) (Or.inl ⟨by rfl,?_⟩) hHeld ?_ ?_
                    rotate_left;(· rintro w' ⟨s0,s1⟩;go_simp;with_reducible rfl);rotate_left;(· simp only[Act.put,s1,s2,s3,i64_w,i32_w];rfl)
                    refine pq 9 (some 75) ?_ HT_.out rfl rfl (Or.inl ⟨by rfl,?_⟩) ?_ ?_ ?_
                    rotate_left;(· intro w';go_simp;with_reducible rfl);rotate_left;(· simp only[Act.put,s1,s2,s3,i64_w,i32_w];rfl)
                    refine last_ (i:=10) (N:=some 76) #[T,T,T,T,T,T,T,T,T,T,T,F,F] rfl rfl (one_of HT_.out (by kernel_rfl)) (by decide) (fun K hK=>?_)
                    refine value_ (w1:=?_) (v:=?_) (by rfl) rfl ?_ ?_
                    rotate_left 2
                    ·go_simp
                     constructor
                     ·rfl
                     ·rfl
                    refine hK.out _ _ ?_
                    clear hK K
                    refine norm_ (a':=?_) ?_ ?_
                    rotate_left
                    ·show Act.put _ (some 76) _=_
                     simp only[Act.put,s1,s2,s3,i64_w,i32_w]
                     rfl
                    refine last_ (i:=11) (N:=some 77) #[T,T,T,T,T,T,T,T,T,T,T,T,F] rfl rfl (one_of HT_.out (by kernel_rfl)) (by decide) (fun K hK=>?_)
                    refine Kd.R_append_step (Kd.int .i64) (w0:=w) w.heap.size (by rfl) (.tmp 66) (.tmp 76) 22 3 (.int .i64 0) 8 rfl Try.underlying22 info3 rfl (by decide) (by omega) u10 x10_2 (wrap64 ((rd t648 x12_2)+(rd t654 x13_2))) [.int .i64 (wrap64 ((rd t648 x12_2)+(rd t654 x13_2)))] (fun k_=>some k_≠(.slice (some ad692) t648.length co72:Value).ownBlock∧some k_≠(.slice (some ad693) t654.length co73:Value).ownBlock) (fun _=>False) rfl rfl ?aP (fun _ hk=>hk.elim) ?aF ?aO ?aB ?aS ?aL ?_
                    (case aP=>exact rfl)
                    (case aB=>exact bz)
                    (case aF=>exact(fun k_ hk=>⟨Kd.fresh' (Kd.R_lt (Kd.Rz HO_6.out)) k_ hk,Kd.fresh' (Kd.R_lt (Kd.Rz HO_8.out)) k_ hk⟩))
                    (case aO=>exact(Kd.Rz HO_10.out))
                    (case aS=>exact(below_size bz))
                    (case aL=>have:=LMc68.out;omega)
                    intro v695 w74 ho hb hg hat
                    rw[← Ny694.out] at ho
                    have n0_:=Aside0.mk (Kd.R_after (ok:=(fun k_=>some k_≠(.slice (some ad693) t654.length co73:Value).ownBlock)) (Kd.Rz HO_6.out) hg hat)
                    have n1_:=Aside0.mk (Kd.N_afterv (ok:=(fun k_=>some k_≠(.slice (some ad692) t648.length co72:Value).ownBlock∧some k_≠(.slice (some ad693) t654.length co73:Value).ownBlock∧some k_≠(v658:Value).ownBlock∧some k_≠(u11:Value).ownBlock)) (Kd.Nz <| Kd.N_mono HO_7.out (fun _ hk=>⟨⟨hk.1,⟨hk.2.1,⟨hk.2.2.1,hk.2.2.2.2⟩⟩⟩,hk.2.2.2.1⟩)) hg hat)
                    have n2_:=Aside0.mk (Kd.R_after (ok:=(fun k_=>some k_≠(.slice (some ad692) t648.length co72:Value).ownBlock)) (Kd.Rz HO_8.out) hg hat)
                    have n3_:=Aside0.mk (Kd.N_afterv (ok:=(fun k_=>some k_≠(.slice (some ad692) t648.length co72:Value).ownBlock∧some k_≠(v652:Value).ownBlock∧some k_≠(.slice (some ad693) t654.length co73:Value).ownBlock∧some k_≠(u11:Value).ownBlock)) (Kd.Nz <| Kd.N_mono HO_9.out (fun _ hk=>⟨⟨hk.1,⟨hk.2.1,⟨hk.2.2.1,hk.2.2.2.2⟩⟩⟩,hk.2.2.2.1⟩)) hg hat)
                    have n4_:=Aside0.mk (Kd.N_afterv (ok:=(fun k_=>some k_≠(.slice (some ad692) t648.length co72:Value).ownBlock∧some k_≠(v652:Value).ownBlock∧some k_≠(.slice (some ad693) t654.length co73:Value).ownBlock∧some k_≠(v658:Value).ownBlock)) (Kd.Nz <| Kd.N_mono HO_11.out (fun _ hk=>⟨⟨hk.1,⟨hk.2.1,⟨hk.2.2.1,hk.2.2.2.1⟩⟩⟩,hk.2.2.2.2⟩)) hg hat)
                    have n5_:=Aside0.mk (hb)
                    have n6_:=Aside0.mk (ho)
                    clear HO_6
                    clear HO_7
                    clear HO_8
                    clear HO_9
                    clear HO_11
                    clear HB
                    clear HO_10
                    have HO_6:=n0_
                    have HO_7:=n1_
                    have HO_8:=n2_
                    have HO_9:=n3_
                    have HO_11:=n4_
                    have HB:=n5_
                    have HO696:=n6_
                    clear n0_ n1_ n2_ n3_ n4_ n5_ n6_
                    clear ho hb hg hat
                    refine hK.out _ _ ?_
                    clear hK K
                    refine norm_ (a':=?_) ?_ ?_
                    rotate_left
                    ·show Act.put _ (some 77) _=_
                     simp only[Act.put,s1,s2,s3,i64_w,i32_w]
                     rfl
                    refine pq 12 (some 10) ?_ HT_.out rfl rfl (Or.inl ⟨by rfl,?_⟩) ?_ ?_ ?_
                    rotate_left;(· intro w';go_simp;with_reducible rfl);rotate_left;(· simp only[Act.put,s1,s2,s3,i64_w,i32_w];rfl)
                    refine done_ (done_of HT_.out (by kernel_rfl)) ?_
                    obtain⟨Ao75,co75,eo75⟩:=Kd.N_slice HO_7.out
                    subst eo75
                    have p697:0≤(x12_2:Int):=dz
                    have q697:x12_2<(t651.length:Int):=dz
                    obtain⟨ad697,A697_0,c697_0,e697,hx697_0,hl697_0,hi697_0⟩:=at_L1 (Kd.N_reads' HO_7.out).2.2 x12_2 p697 q697
                    cases e697
                    obtain⟨ce697,hce697,hMe697,hcc697⟩:=Kd.N_get HO_7.out [] x12_2 p697 (by first|exact q697|exact dz|(have e_:=(Kd.N_reads' HO_7.out).1;omega))
                    obtain⟨ua697_0,uc697_0,rfl,ul697_0,ge697_0⟩:=Kd.FK_slice_open hMe697
                    have hv697_0:=hcc697 0 _ rfl
                    rw[Nat.add_zero,show ((Kd.slice 3 (Kd.int .i64))).sz=1 from rfl,Nat.mul_one] at hv697_0
                    replace hv697_0:=Option.some.inj (hv697_0.symm.trans hx697_0)
                    injection hv697_0 with hva_ hvn_ hvc_
                    rw[hva_] at ge697_0
                    rw[hvc_] at ul697_0
                    have HL697_0:=Aside0.mk (show Kd.V (Kd.int .i64) 3 _ w.heap.size _ _ (rd_L1 t651 x12_2) from Kd.V_mk ul697_0 ge697_0)
                    clear hva_ hvn_ hvc_ ge697_0 ul697_0
                    clear hcc697 hce697
                    have HR697_0:=Aside0.mk hi697_0
                    have HC697_0:=Aside0.mk hl697_0
                    clear hi697_0 hl697_0
                    replace p697:=eq_true p697
                    replace q697:=eq_true q697
                    try go_wp2_with (first|((with_reducible refine gate_builtin (b:=.append) (xs:=#[.tmp 78,.tmp 83]) rfl ?_);at_builtin;refine Kd.N_append (Kd.slice 3 (Kd.int .i64)) (w0:=w) w.heap.size rfl (.tmp 78) (.tmp 83) 52 22 (.slice none 0 0) 24 rfl Try.underlying52 info22 rfl (by decide) (by omega) u11 x11_2 (rd_L1 t651 x12_2) [.slice A697_0 (rd_L1 t651 x12_2).length c697_0] (fun k_=>some k_≠(.slice (some ad692) t648.length co72:Value).ownBlock∧some k_≠(.slice (some ad697) t651.length co75:Value).ownBlock∧some k_≠(.slice (some ad693) t654.length co73:Value).ownBlock∧some k_≠(v658:Value).ownBlock∧some k_≠(v695:Value).ownBlock) (fun k_=>((fun k_=>some k_≠(.slice (some ad692) t648.length co72:Value).ownBlock∧some k_≠(.slice (some ad697) t651.length co75:Value).ownBlock∧some k_≠(.slice (some ad693) t654.length co73:Value).ownBlock∧some k_≠(v658:Value).ownBlock∧some k_≠(v695:Value).ownBlock)) k_∧some k_≠(u11:Value).ownBlock) rfl rfl ?aP (fun _ hk=>hk) ?aF ?aO ?aB ?aS ?aL ?_;(case aP=>exact(Kd.FK_slice_mk (Kd.V_reads' (Kd.V_mono (ok':=(fun k_=>((fun k_=>some k_≠(.slice (some ad692) t648.length co72:Value).ownBlock∧some k_≠(.slice (some ad697) t651.length co75:Value).ownBlock∧some k_≠(.slice (some ad693) t654.length co73:Value).ownBlock∧some k_≠(v658:Value).ownBlock∧some k_≠(v695:Value).ownBlock)) k_∧some k_≠(u11:Value).ownBlock)) (HL697_0.out) (fun k_ hk=>⟨⟨hk.1.1.1,⟨hk.2,⟨hk.1.1.2.1,⟨hk.1.1.2.2.1,hk.1.2⟩⟩⟩⟩,hk.1.1.2.2.2⟩))).2.1 (Kd.V_F (Kd.V_mono (ok':=(fun k_=>((fun k_=>some k_≠(.slice (some ad692) t648.length co72:Value).ownBlock∧some k_≠(.slice (some ad697) t651.length co75:Value).ownBlock∧some k_≠(.slice (some ad693) t654.length co73:Value).ownBlock∧some k_≠(v658:Value).ownBlock∧some k_≠(v695:Value).ownBlock)) k_∧some k_≠(u11:Value).ownBlock)) (HL697_0.out) (fun k_ hk=>⟨⟨hk.1.1.1,⟨hk.2,⟨hk.1.1.2.1,⟨hk.1.1.2.2.1,hk.1.2⟩⟩⟩⟩,hk.1.1.2.2.2⟩)))));(case aB=>exact bz);(case aF=>exact(fun k_ hk=>⟨Kd.fresh' (Kd.R_lt (Kd.Rz HO_6.out)) k_ hk,Kd.fresh' (Kd.N_lt (Kd.Nz HO_7.out)) k_ hk,Kd.fresh' (Kd.R_lt (Kd.Rz HO_8.out)) k_ hk,Kd.fresh' (Kd.N_lt (Kd.Nz HO_9.out)) k_ hk,Kd.fresh' (Kd.R_lt (Kd.Rz HO696.out)) k_ hk⟩));(case aO=>exact(Kd.Nz <| Kd.N_mono HO_11.out (fun _ hk=>⟨hk.1.1,⟨hk.1.2.1,⟨hk.1.2.2.1,⟨hk.1.2.2.2,hk.2⟩⟩⟩⟩)));(case aS=>exact(below_size bz));(case aL=>have:=LMc70.out;omega);intro v699 w76 ho hb hg hat;rw[← Ny698.out] at ho;replace HO_6:=Aside0.mk (Kd.R_over' (Kd.Rz HO_6.out) (Kd.N_typed (Kd.Nz HO_11.out)) (by decide) hg);replace HO_7:=Aside0.mk (Kd.N_afterv (ok:=(fun k_=>some k_≠(.slice (some ad692) t648.length co72:Value).ownBlock∧some k_≠(.slice (some ad693) t654.length co73:Value).ownBlock∧some k_≠(v658:Value).ownBlock∧some k_≠(v695:Value).ownBlock)) (Kd.Nz <| Kd.N_mono HO_7.out (fun _ hk=>⟨⟨hk.1.1,⟨hk.1.2.1,⟨hk.1.2.2.1,hk.2⟩⟩⟩,hk.1.2.2.2⟩)) hg hat);replace HO_8:=Aside0.mk (Kd.R_over' (Kd.Rz HO_8.out) (Kd.N_typed (Kd.Nz HO_11.out)) (by decide) hg);replace HO_9:=Aside0.mk (Kd.N_afterv (ok:=(fun k_=>some k_≠(.slice (some ad692) t648.length co72:Value).ownBlock∧some k_≠(.slice (some ad697) t651.length co75:Value).ownBlock∧some k_≠(.slice (some ad693) t654.length co73:Value).ownBlock∧some k_≠(v695:Value).ownBlock)) (Kd.Nz <| Kd.N_mono HO_9.out (fun _ hk=>⟨⟨hk.1.1,⟨hk.1.2.1,⟨hk.1.2.2.1,hk.2⟩⟩⟩,hk.1.2.2.2⟩)) hg hat);replace HO696:=Aside0.mk (Kd.R_over' (Kd.Rz HO696.out) (Kd.N_typed (Kd.Nz HO_11.out)) (by decide) hg);replace HL697_0:=Aside0.mk (Kd.V_afterv (ok:=(fun k_=>some k_≠(.slice (some ad692) t648.length co72:Value).ownBlock∧some k_≠(.slice (some ad697) t651.length co75:Value).ownBlock∧some k_≠(.slice (some ad693) t654.length co73:Value).ownBlock∧some k_≠(v658:Value).ownBlock∧some k_≠(v695:Value).ownBlock)) (Kd.Vz <| Kd.V_mono HL697_0.out (fun _ hk=>⟨⟨hk.1.1.1,⟨hk.2,⟨hk.1.1.2.1,⟨hk.1.1.2.2.1,hk.1.2⟩⟩⟩⟩,hk.1.1.2.2.2⟩)) hg hat);replace HB:=Aside0.mk (hb);have HO700:=Aside0.mk (ho);clear HO_11;clear ho hb hg hat))
                    go_roundg kj26
                    case measure=>have:=HJ2.out;have:=HK2.out;have:=HJ20.out;have:=HJ26.out;omega
                    case rel=>exact⟨(y694),(y698),(wrap64 (x12_2+1)),(wrap64 (x13_2+1)),(by first|rfl|(simp;done)|(simp[*];done)),(by first|rfl|(simp;done)|(simp[*];done)),H',⟨by have:=HJ2.out;have:=HK2.out;have:=HJ20.out;have:=HJ26.out;omega⟩,⟨by(with_reducible repeat (first|apply Kd.R_alloc|apply Kd.R_drewN|apply Kd.R_drew));exact HO_6.out⟩,⟨Kd.Nz <| Kd.N_mono HO_7.out (fun _ hk=>⟨hk.1.1,⟨hk.1.2.1,⟨hk.1.2.2.1,⟨hk.1.2.2.2,hk.2⟩⟩⟩⟩)⟩,⟨by(with_reducible repeat (first|apply Kd.R_alloc|apply Kd.R_drewN|apply Kd.R_drew));exact HO_8.out⟩,⟨Kd.Nz <| Kd.N_mono HO_9.out (fun _ hk=>⟨hk.1.1,⟨hk.1.2.1,⟨hk.1.2.2.1,⟨hk.1.2.2.2,hk.2⟩⟩⟩⟩)⟩,⟨by(with_reducible repeat (first|apply Kd.R_alloc|apply Kd.R_drewN|apply Kd.R_drew));exact HO696.out⟩,⟨by(with_reducible repeat (first|apply Kd.N_alloc|apply Kd.N_drewN|apply Kd.N_drew));exact HO700.out⟩,⟨bz⟩⟩
                   ·rw[if_neg c70] at H
                    exact absurd H (by simp)
                  ·rw[if_neg c69] at H
                   exact absurd H (by simp)
                 ·rw[if_neg c68] at H
                  exact absurd H (by simp)
                ·rw[if_neg c67] at H
                 exact absurd H (by simp)
               ·rw[if_neg c66] at H
                exact absurd H (by simp)
              ·rw[if_neg c65] at H
               exact absurd H (by simp)
             ·rw[if_neg c64] at H
              exact absurd H (by simp)
        ·replace c26:=Bool.eq_false_iff.mpr c26
         subst c26
         have H1:((spec_l1Make.f kj20 x10_2 x11_2).bind fun t666=>((spec_l2Fit.f kj20 t666).bind fun bt669=>(some (bt669.1,bt669.2))))=some (r1,r2):=by rw[if_neg (show ¬ (false=true) by decide)] at H;exact H
         clear H
         have H:=H1
         clear H1
         replace H:=Option.bind_eq_some_iff.mp H
         obtain⟨t666,A770,H⟩:=H
         replace H:((spec_l2Fit.f kj20 t666).bind fun bt669=>(some (bt669.1,bt669.2)))=some (r1,r2):=H
         have A77:=Aside0.mk A770
         clear A770
         replace H:=Option.bind_eq_some_iff.mp H
         obtain⟨⟨t669,t672⟩,A780,H⟩:=H
         replace H:(some (t669,t672))=some (r1,r2):=H
         have A78:=Aside0.mk A780
         clear A780
         simp only[Option.some.injEq,Prod.mk.injEq] at H
         obtain⟨rfl,rfl⟩:=H
         obtain⟨Ao79,co79,eo79⟩:=Kd.R_slice HO_10.out
         subst eo79
         obtain⟨Ao80,co80,eo80⟩:=Kd.N_slice HO_11.out
         subst eo80
         go_wp2_with (first|((with_reducible refine gate_callee (f:=54) rfl ?_);refine goesL_ (some 127) rfl rfl Try.func54 (by kernel_rfl) rfl #[.slice Ao79 x10_2.length co79,.slice Ao80 x11_2.length co80] rfl az ?_;(with_reducible refine(spec_l1Make.calls kj20 _ _ x10_2 _ _ x11_2 t666 _ ?side1 ?side2 ?side3 ?side4 A77.out).mono ?_);(case side1=>exact Kd.Cz (Kd.R_reads' HO_10.out).2.2);(case side2=>exact(Kd.R_reads' HO_10.out).2.1);(case side3=>exact Kd.Cz (Kd.N_reads' HO_11.out).2.2);(case side4=>exact(Kd.N_reads' HO_11.out).2.1);rintro e w81 ⟨v667,rfl,ho0,hb⟩;refine⟨_,rfl,?_⟩;replace HO_7:=Aside0.mk (Kd.N_elder' (Kd.Nz HO_7.out) (Kd.R_base ho0) hb);replace HO_9:=Aside0.mk (Kd.N_elder' (Kd.Nz HO_9.out) (Kd.R_base ho0) hb);replace HO_11:=Aside0.mk (Kd.N_elder' (Kd.Nz HO_11.out) (Kd.R_base ho0) hb);have HO668:=Aside0.mk (Kd.R_lower (Kd.R_new' (Kd.R_new' (Kd.R_new' ho0 (Kd.R_lt (Kd.Rz HO_6.out))) (Kd.R_lt (Kd.Rz HO_8.out))) (Kd.R_lt (Kd.Rz HO_10.out))) (below_size bz));replace HO_6:=Aside0.mk (Kd.R_elder' (Kd.Rz HO_6.out) (Kd.R_base ho0) hb);replace HO_8:=Aside0.mk (Kd.R_elder' (Kd.Rz HO_8.out) (Kd.R_base ho0) hb);replace HO_10:=Aside0.mk (Kd.R_elder' (Kd.Rz HO_10.out) (Kd.R_base ho0) hb);replace HB:=Aside0.mk (below_step bz hb);(try clear hb);(try clear hb2);(try clear hk);(try clear hi);(try clear ho0);obtain⟨Ao82,co82,eo82⟩:=Kd.R_slice HO668.out;subst eo82)|((with_reducible refine gate_callee (f:=43) rfl ?_);refine goesL_ (some 128) rfl rfl Try.func43 (by kernel_rfl) rfl #[.slice Ao82 t666.length co82] rfl az ?_;(with_reducible refine(spec_l2Fit.calls kj20 (fun k_=>some k_=(.slice Ao82 t666.length co82:Value).ownBlock) (.slice Ao82 t666.length co82) t666 t669 t672 w _ ?side1 ?side2 A78.out).mono ?_);(case side1=>repeat (first|(with_reducible first|exact HB.out|apply below_alloc|apply pw_below_drewN|apply below_drew1)|exact HB.out));(case side2=>exact Kd.R_tight rfl HO668.out);rintro e w83 ⟨v670,rfl,ho0,hb,hkp⟩;refine⟨_,rfl,?_⟩;replace HO_7:=Aside0.mk (Kd.N_mono (ok':=fun k_=>some k_≠(v649:Value).ownBlock∧some k_≠(v655:Value).ownBlock∧some k_≠(v658:Value).ownBlock∧some k_≠(.slice Ao79 x10_2.length co79:Value).ownBlock∧some k_≠(.slice Ao80 x11_2.length co80:Value).ownBlock∧some k_≠(v670:Value).ownBlock) (Kd.N_keptB (HO_7.out) hkp (fun k_ hk_ hs_=>(hk_.2) hs_)) (fun k_ hk_=>⟨hk_.1.1.1,hk_.1.1.2.1,hk_.1.1.2.2.1,hk_.1.1.2.2.2.1,hk_.1.1.2.2.2.2,fun e_=>Or.elim (ho0.1 k_ e_.symm) (fun hs_=>hk_.2.1 hs_) (fun hn_=>Nat.not_le.2 hk_.2.2 hn_)⟩));replace HO_9:=Aside0.mk (Kd.N_mono (ok':=fun k_=>some k_≠(v649:Value).ownBlock∧some k_≠(v652:Value).ownBlock∧some k_≠(v655:Value).ownBlock∧some k_≠(.slice Ao79 x10_2.length co79:Value).ownBlock∧some k_≠(.slice Ao80 x11_2.length co80:Value).ownBlock∧some k_≠(v670:Value).ownBlock) (Kd.N_keptB (HO_9.out) hkp (fun k_ hk_ hs_=>(hk_.2) hs_)) (fun k_ hk_=>⟨hk_.1.1.1,hk_.1.1.2.1,hk_.1.1.2.2.1,hk_.1.1.2.2.2.1,hk_.1.1.2.2.2.2,fun e_=>Or.elim (ho0.1 k_ e_.symm) (fun hs_=>hk_.2.1 hs_) (fun hn_=>Nat.not_le.2 hk_.2.2 hn_)⟩));replace HO_11:=Aside0.mk (Kd.N_mono (ok':=fun k_=>some k_≠(v649:Value).ownBlock∧some k_≠(v652:Value).ownBlock∧some k_≠(v655:Value).ownBlock∧some k_≠(v658:Value).ownBlock∧some k_≠(.slice Ao79 x10_2.length co79:Value).ownBlock∧some k_≠(v670:Value).ownBlock) (Kd.N_keptB (HO_11.out) hkp (fun k_ hk_ hs_=>(hk_.2) hs_)) (fun k_ hk_=>⟨hk_.1.1.1,hk_.1.1.2.1,hk_.1.1.2.2.1,hk_.1.1.2.2.2.1,hk_.1.1.2.2.2.2,fun e_=>Or.elim (ho0.1 k_ e_.symm) (fun hs_=>hk_.2.1 hs_) (fun hn_=>Nat.not_le.2 hk_.2.2 hn_)⟩));have HO671:=Aside0.mk (Kd.R_mono (ok':=fun k_=>some k_≠(v649:Value).ownBlock∧some k_≠(v655:Value).ownBlock∧some k_≠(.slice Ao79 x10_2.length co79:Value).ownBlock) ho0 (fun k_ hk_=>⟨Or.elim hk_ (fun hs_=>fun e_=>(((HO_6.out).1 k_ e_.symm).2) hs_) (fun hn_=>(Kd.fresh' (Kd.R_lt (Kd.Rz HO_6.out)) k_ hn_)),Or.elim hk_ (fun hs_=>fun e_=>(((HO_8.out).1 k_ e_.symm).2) hs_) (fun hn_=>(Kd.fresh' (Kd.R_lt (Kd.Rz HO_8.out)) k_ hn_)),Or.elim hk_ (fun hs_=>fun e_=>(((HO_10.out).1 k_ e_.symm).2) hs_) (fun hn_=>(Kd.fresh' (Kd.R_lt (Kd.Rz HO_10.out)) k_ hn_))⟩));replace HO_6:=Aside0.mk (Kd.R_mono (ok':=fun k_=>some k_≠(v655:Value).ownBlock∧some k_≠(.slice Ao79 x10_2.length co79:Value).ownBlock∧some k_≠(v670:Value).ownBlock) (Kd.R_keptB (HO_6.out) hkp (fun k_ hk_ hs_=>(hk_.2) hs_)) (fun k_ hk_=>⟨hk_.1.1.1,hk_.1.1.2,fun e_=>Or.elim (ho0.1 k_ e_.symm) (fun hs_=>hk_.2.1 hs_) (fun hn_=>Nat.not_le.2 hk_.2.2 hn_)⟩));replace HO_8:=Aside0.mk (Kd.R_mono (ok':=fun k_=>some k_≠(v649:Value).ownBlock∧some k_≠(.slice Ao79 x10_2.length co79:Value).ownBlock∧some k_≠(v670:Value).ownBlock) (Kd.R_keptB (HO_8.out) hkp (fun k_ hk_ hs_=>(hk_.2) hs_)) (fun k_ hk_=>⟨hk_.1.1.1,hk_.1.1.2,fun e_=>Or.elim (ho0.1 k_ e_.symm) (fun hs_=>hk_.2.1 hs_) (fun hn_=>Nat.not_le.2 hk_.2.2 hn_)⟩));replace HO_10:=Aside0.mk (Kd.R_mono (ok':=fun k_=>some k_≠(v649:Value).ownBlock∧some k_≠(v655:Value).ownBlock∧some k_≠(v670:Value).ownBlock) (Kd.R_keptB (HO_10.out) hkp (fun k_ hk_ hs_=>(hk_.2) hs_)) (fun k_ hk_=>⟨hk_.1.1.1,hk_.1.1.2,fun e_=>Or.elim (ho0.1 k_ e_.symm) (fun hs_=>hk_.2.1 hs_) (fun hn_=>Nat.not_le.2 hk_.2.2 hn_)⟩));replace HB:=Aside0.mk (hb);clear HO668;(try clear hb);(try clear hkp);(try clear ho0)))
         go_ret2
         exact⟨_,by first|rfl|(simp[errW_none,errW_some]<;>rfl)|(simp[*,errW_none,errW_some]<;>rfl),Kd.Rz <| Kd.R_mono HO671.out (fun _ hk=>trivial),bz⟩
end Go.Proofs.Ytfblcanijhnhmaa.P