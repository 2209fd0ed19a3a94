/- One Go function comes to what its Lean function tells. -/
import Derived.Test.YtfblcanijhnhmaaP0
namespace Go.Proofs.Ytfblcanijhnhmaa.P
open Go.RowKit YtfblcanijhnhmaaW.PrintWords YtfblcanijhnhmaaW.PrintLast YtfblcanijhnhmaaW.PrintMore
set_option linter.unusedVariables false
set_option linter.unusedSimpArgs false
/-! ### spec_l1Span: function 73 -/
mutual
def spec_l1Span.l0:Nat→List Int→Int→Int→Int→Option (Int)
 | 0,_,_,_,_=>none
 | k+1,x0,x1,x5,x6=>if x6<x5 then((spec_l1Span.f k x0 (wrap64 (x1+1))).bind fun t111=>(spec_l1Span.l0 k x0 t111 x5 (wrap64 (x6+1)))) else(some x1)
def spec_l1Span.f:Nat→List Int→Int→Option (Int)
 | 0,_,_=>none
 | k+1,l0,a1=>if 0≤a1 then(if a1<(l0.length:Int) then(spec_l1Span.l0 k l0 (wrap64 (a1+1)) (rd l0 a1) 0) else(none)) else(none)
end
theorem spec_l1Span.mono_l:∀ k,(∀ y0 y1,LeO (spec_l1Span.f k y0 y1) (spec_l1Span.f (k+1) y0 y1))∧(∀ y0 y1 y2 y3,LeO (spec_l1Span.l0 k y0 y1 y2 y3) (spec_l1Span.l0 (k+1) y0 y1 y2 y3))
 | 0=>⟨fun _ _ r h=>by simp[spec_l1Span.f] at h,fun _ _ _ _ r h=>by simp[spec_l1Span.l0] at h⟩
 | k+1=>by
  obtain⟨ih0,ih1⟩:=spec_l1Span.mono_l k
  refine⟨?_,?_⟩
  ·intro y0 y1
   unfold spec_l1Span.f
   repeat' first|(with_reducible first|exact ih0 _ _|exact ih1 _ _ _ _|exact LeO.refl _|exact LeO.none _|refine LeO.ite ?_ ?_|refine LeO.bind ?_ (fun _=>?_))|exact ih0 _ _|exact ih1 _ _ _ _|exact LeO.none _|refine LeO.ite ?_ ?_|refine LeO.bind ?_ (fun _=>?_)
  ·intro y0 y1 y2 y3
   unfold spec_l1Span.l0
   repeat' first|(with_reducible first|exact ih0 _ _|exact ih1 _ _ _ _|exact LeO.refl _|exact LeO.none _|refine LeO.ite ?_ ?_|refine LeO.bind ?_ (fun _=>?_))|exact ih0 _ _|exact ih1 _ _ _ _|exact LeO.none _|refine LeO.ite ?_ ?_|refine LeO.bind ?_ (fun _=>?_)
theorem spec_l1Span.mono:∀ a0 a1 k,LeO (spec_l1Span.f k a0 a1) (spec_l1Span.f (k+1) a0 a1):=by
 intro a0 a1 k;obtain⟨ih0,ih1⟩:=spec_l1Span.mono_l k;exact ih0 a0 a1
set_option maxHeartbeats 8000000 in
set_option maxRecDepth 100000 in
theorem spec_l1Span.calls (k:Nat):∀ (A0:Option Addr) (c0:Nat) (l0:List Int) (a1:Int) (r:Int) (w:World) (hr0:Kd.C (Kd.int .i64) w A0 l0.length l0) (hc0:l0.length≤c0) (h:spec_l1Span.f k l0 a1=some r),
  Calls Try.prog 73 #[.slice A0 l0.length c0,.int .i64 a1] w fun e w'=>e=.returned (.int .i64 r)∧Drawn0 w w':=by
 induction k using Nat.strongRecOn with
 | _ k ih =>
 intro A0 c0 l0 a1 r w hr0 hc0 h
 cases k with
 | zero=>exact absurd h (by simp[spec_l1Span.f])
 | succ k =>
 simp only[spec_l1Span.f] at h;have HR0:=Sd.mk hr0;have HC0:=Sd.mk hc0;clear hr0 hc0;have H:(if 0≤a1 then(if a1<(l0.length:Int) then(spec_l1Span.l0 k l0 (wrap64 (a1+1)) (rd l0 a1) 0) else(none)) else(none))=some r:=h;clear h
 by_cases c3:0≤a1
 ·rw[if_pos c3] at H
  have c3b0:decide (0≤a1)=true:=decide_eq_true c3;clear c3
  by_cases c4:a1<(l0.length:Int)
  ·rw[if_pos c4] at H
   have c4b0:decide (a1<(l0.length:Int))=true:=decide_eq_true c4;clear c4;have H':=Sd.mk H;clear H;have p110:0≤(a1:Int):=dz;have q110:a1<(l0.length:Int):=dz;obtain⟨ad110,e110,hx110_0⟩:=Kd.at_int HR0.out a1 p110 q110;cases e110;replace p110:=eq_true p110;replace q110:=eq_true q110;go_enter Try.func73,Try.ntmps73;go_wp2
   go_loopg [1,6] k (fun kq v1 v6 w'=>∃ (x1_1:Int) (x6_1:Int),v1=.int .i64 x1_1∧v6=.int .i64 x6_1∧Sd (spec_l1Span.l0 kq l0 x1_1 (rd l0 a1) x6_1=some r)∧Sd (kq≤k)∧Drawn0 w w')
   case atStart=>exact⟨(wrap64 (a1+1)),(0),(by first|rfl|(simp;done)|(simp[*];done)),(by first|rfl|(simp;done)|(simp[*];done)),H',⟨Nat.le_refl _⟩,by repeat (first|exact Drawn0.refl _|apply Drawn0.step)⟩
   case round =>
    clear H'
    try clear p1
    try clear q1
    try clear hx1
    try clear p2
    try clear c3
    try clear c3b0
    try clear c4
    try clear c4b0
    try clear hx110_0
    try clear p110
    try clear q110
    obtain⟨x1_1,x6_1,rfl,rfl,HA,HK1,⟨m1,rfl⟩⟩:=hrel
    cases gk with
    | zero=>exact absurd HA.out (by simp[spec_l1Span.l0])
    | succ k1 =>
     have H:=HA.out;clear HA;simp only[spec_l1Span.l0] at H
     by_cases c5:x6_1<(rd l0 a1)
     ·rw[if_pos c5] at H
      have c5b0:decide (x6_1<(rd l0 a1))=true:=decide_eq_true c5;clear c5;replace H:=Option.bind_eq_some_iff.mp H;obtain⟨t111,A60,H⟩:=H;replace H:(spec_l1Span.l0 k1 l0 t111 (rd l0 a1) (wrap64 (x6_1+1)))=some r:=H;have A6:=Sd.mk A60;clear A60;have H':=Sd.mk H;clear H;go_wp2_with (first|((with_reducible refine gate_callee (f:=73) rfl ?_);refine goesL_ (some 21) rfl rfl Try.func73 (by kernel_rfl) rfl #[.slice (some ad110) l0.length c0,.int .i64 (wrap64 (x1_1+1))] rfl az ?_;(with_reducible refine(ih k1 (by have:=HK1.out;omega) _ _ l0 (wrap64 (x1_1+1)) t111 _ ?side1 ?side2 A6.out).mono ?_);(case side1=>exact Kd.Cz HR0.out);(case side2=>exact HC0.out);rintro e w' ⟨rfl,⟨nd,rfl⟩⟩;refine⟨_,rfl,?_⟩))
      go_roundg k1
      case measure=>have:=HK1.out;omega
      case rel=>exact⟨(t111),(wrap64 (x6_1+1)),(by first|rfl|(simp;done)|(simp[*];done)),(by first|rfl|(simp;done)|(simp[*];done)),H',⟨by have:=HK1.out;omega⟩,by repeat (first|exact Drawn0.refl _|apply Drawn0.step)⟩
     ·rw[if_neg c5] at H
      have c5b0:decide (x6_1<(rd l0 a1))=false:=decide_eq_false c5;clear c5;obtain rfl:=Option.some.inj H;go_wp2;go_ret;exact⟨by first|rfl|(simp;done)|(simp[*];done),by repeat (first|exact Drawn0.refl _|apply Drawn0.step)⟩
  ·rw[if_neg c4] at H
   exact absurd H (by simp)
 ·rw[if_neg c3] at H
  exact absurd H (by simp)
end Go.Proofs.Ytfblcanijhnhmaa.P