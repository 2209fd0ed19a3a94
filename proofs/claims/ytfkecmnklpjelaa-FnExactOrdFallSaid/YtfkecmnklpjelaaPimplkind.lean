/- One Go function comes to what its Lean function tells. -/
import Derived.Test.YtfkecmnklpjelaaP0
namespace Go.Proofs.Ytfkecmnklpjelaa.P
open Go.RowKit YtfkecmnklpjelaaW.PrintWords YtfkecmnklpjelaaW.PrintLast YtfkecmnklpjelaaW.PrintMore
set_option linter.unusedVariables false
set_option linter.unusedSimpArgs false
/-! ### impl_kind: function 34 -/
def impl_kind.f (l0:List (S60)):Option (Int):=if(l0.length:Int)=0 then(some 0) else(if 0≤(wrap64 ((l0.length:Int)-1)) then(if(wrap64 ((l0.length:Int)-1))<(l0.length:Int) then(if(((rd_T60 l0 (wrap64 ((l0.length:Int)-1))).f1).length:Int)=0 then(some 1) else(some 2)) else(none)) else(none))
set_option maxHeartbeats 8000000 in
set_option maxRecDepth 100000 in
theorem impl_kind.calls (A0:Option Addr)(c0:Nat)(l0:List (S60))(r:Int)(w:World)(hr0:Kd.C k60 w A0 l0.length l0)(hc0:l0.length≤c0)(h:impl_kind.f l0=some r) :
  Calls Try.prog 34 #[.slice A0 l0.length c0] w fun e w'=>e=.returned (.int .i64 r)∧Drawn0 w w':=by
 have HR0:=Sd.mk hr0
 have HC0:=Sd.mk hc0
 clear hr0 hc0
 have H:(if(l0.length:Int)=0 then(some 0) else(if 0≤(wrap64 ((l0.length:Int)-1)) then(if(wrap64 ((l0.length:Int)-1))<(l0.length:Int) then(if(((rd_T60 l0 (wrap64 ((l0.length:Int)-1))).f1).length:Int)=0 then(some 1) else(some 2)) else(none)) else(none)))=some r:=h
 clear h
 by_cases c2:(l0.length:Int)=0
 ·rw[if_pos c2] at H
  have c2b0:((l0.length:Int) == 0)=true:=beq_iff_eq.mpr c2
  have c2b1:((l0.length:Int) != 0)=false:=bne_eq_false_iff_eq.mpr c2
  clear c2
  obtain rfl:=Option.some.inj H
  go_enter Try.func34,Try.ntmps34
  go_wp2
  go_ret
  exact⟨by first|rfl|(simp;done)|(simp[*];done),by repeat (first|exact Drawn0.refl _|apply Drawn0.step)⟩
 ·rw[if_neg c2] at H
  have c2b0:((l0.length:Int) == 0)=false:=beq_eq_false_iff_ne.mpr c2
  have c2b1:((l0.length:Int) != 0)=true:=bne_iff_ne.mpr c2
  have c2b2:¬ (l0=[]):=fun h_=>c2 (by rw[h_];rfl)
  obtain⟨ji3,hji3⟩:∃ j_:Int,(wrap64 ((l0.length:Int)-1))=j_:=⟨_,rfl⟩
  replace H:(if 0≤(ji3) then(if(ji3)<(l0.length:Int) then(if(((rd_T60 l0 (ji3)).f1).length:Int)=0 then(some 1) else(some 2)) else(none)) else(none))=some r:=by first|(rw[hji3] at H;exact H)|(simp only[hji3] at H ⊢;exact H)
  have hji3w:(IntKind.i64.wrap ((l0.length:Int)-1))=ji3:=(i64_w _).trans hji3
  by_cases c4:0≤(ji3)
  ·rw[if_pos c4] at H
   have c4b0:decide (0≤(ji3))=true:=decide_eq_true c4
   clear c4
   by_cases c5:(ji3)<(l0.length:Int)
   ·rw[if_pos c5] at H
    have c5b0:decide ((ji3)<(l0.length:Int))=true:=decide_eq_true c5
    clear c5
    by_cases c6:(((rd_T60 l0 (ji3)).f1).length:Int)=0
    ·rw[if_pos c6] at H
     have c6b0:((((rd_T60 l0 (ji3)).f1).length:Int) == 0)=true:=beq_iff_eq.mpr c6
     have c6b1:((((rd_T60 l0 (ji3)).f1).length:Int) != 0)=false:=bne_eq_false_iff_eq.mpr c6
     clear c6
     obtain rfl:=Option.some.inj H
     have p327:0≤((ji3):Int):=dz
     have q327:(ji3)<(l0.length:Int):=dz
     obtain⟨ad327,A327_1,c327_1,e327,hx327_0,hx327_1,hl327_1,hi327_1⟩:=at_T60 HR0.out (ji3) p327 q327
     cases e327
     have HR327_1:=Sd.mk hi327_1
     have HC327_1:=Sd.mk hl327_1
     clear hi327_1 hl327_1
     replace p327:=eq_true p327
     replace q327:=eq_true q327
     go_enter Try.func34,Try.ntmps34
     go_wp2
     go_ret
     exact⟨by first|rfl|(simp;done)|(simp only[← hji3]<;>(first|rfl|simp))|(simp[*];done),by repeat (first|exact Drawn0.refl _|apply Drawn0.step)⟩
    ·rw[if_neg c6] at H
     have c6b0:((((rd_T60 l0 (ji3)).f1).length:Int) == 0)=false:=beq_eq_false_iff_ne.mpr c6
     have c6b1:((((rd_T60 l0 (ji3)).f1).length:Int) != 0)=true:=bne_iff_ne.mpr c6
     have c6b2:¬ (((rd_T60 l0 (ji3)).f1)=[]):=fun h_=>c6 (by rw[h_];rfl)
     obtain rfl:=Option.some.inj H
     have p327:0≤((ji3):Int):=dz
     have q327:(ji3)<(l0.length:Int):=dz
     obtain⟨ad327,A327_1,c327_1,e327,hx327_0,hx327_1,hl327_1,hi327_1⟩:=at_T60 HR0.out (ji3) p327 q327
     cases e327
     have HR327_1:=Sd.mk hi327_1
     have HC327_1:=Sd.mk hl327_1
     clear hi327_1 hl327_1
     replace p327:=eq_true p327
     replace q327:=eq_true q327
     go_enter Try.func34,Try.ntmps34
     go_wp2
     go_ret
     exact⟨by first|rfl|(simp;done)|(simp only[← hji3]<;>(first|rfl|simp))|(simp[*];done),by repeat (first|exact Drawn0.refl _|apply Drawn0.step)⟩
   ·rw[if_neg c5] at H
    exact absurd H (by simp)
  ·rw[if_neg c4] at H
   exact absurd H (by simp)
end Go.Proofs.Ytfkecmnklpjelaa.P