/- One Go function comes to what its Lean function tells. -/
import Derived.Test.YtfkecmnklpjelaaP0
namespace Go.Proofs.Ytfkecmnklpjelaa.P
open Go.RowKit YtfkecmnklpjelaaW.PrintWords YtfkecmnklpjelaaW.PrintLast YtfkecmnklpjelaaW.PrintMore
set_option linter.unusedVariables false
set_option linter.unusedSimpArgs false
/-! ### slices_Clip_ord: function 36 (by hand) -/
def slices_Clip_ord.f (l0:List (S60)):Option (List (S60)):=some l0
theorem slices_Clip_ord.exact (A0:Option Addr)(c0 n:Nat)(w:World)(hc:n≤c0)(hn:n≤9223372036854775807)(hz:A0=none→n=0) :
  Calls Try.prog 36 #[.slice A0 n c0] w fun e w'=>e=.returned (.slice A0 n n)∧w=w':=by
 go_enter Try.func36,Try.ntmps36
 go_wp2
 go_ret
 exact⟨rfl,rfl⟩
theorem N_clip {d:Kd S60}{e m n c:Nat}{w:World}{base:Nat}{ok:Nat→Prop}{A:Option Addr}{xs:List S60}(h:d.N e w base ok (.slice A n c) xs)(h1:n≤m)(h2:m≤c):d.N e w base ok (.slice A n m) xs:=by
 obtain⟨h0,rows,hl,hR,hf⟩:=h
 have hb:(Value.slice A n m).ownBlock=(Value.slice A n c).ownBlock:=by cases A<;>rfl
 exact⟨fun k hk=>h0 k (by rw[← hb];exact hk),rows,hl,by rw[hb];exact Kd.R_clip hR h1 h2,by rw[hb];exact hf⟩
theorem slices_Clip_ord.calls (P0_:Nat→Prop)(A0:Option Addr)(c0:Nat)(l0:List (S60))(r:List (S60))(w:World)(hs0:Kd.V k60 60 w w.heap.size (fun k_=>P0_ k_) (.slice A0 l0.length c0) l0)(h:slices_Clip_ord.f l0=some r) :
  Calls Try.prog 36 #[.slice A0 l0.length c0] w fun e w'=>∃ v0_:Value,e=.returned (v0_)∧Kd.V k60 60 w' w.heap.size (fun k_=>(P0_ k_∨w.heap.size≤k_)) v0_ r∧Below w.heap.size w w':=by
 obtain rfl:=Option.some.inj h
 have hC:=(Kd.V_reads' hs0).2.2
 refine(slices_Clip_ord.exact A0 c0 l0.length w (Kd.V_reads' hs0).2.1 hC.2.1 ?_).mono ?_
 ·intro hA
  by_cases hl:0<l0.length
  ·obtain⟨ad,hd,_⟩:=hC.2.2 hl
   rw[hA] at hd;cases hd
  ·omega
 ·rintro e w' ⟨rfl,rfl⟩
  exact⟨_,rfl,Kd.V_mono (Kd.V_mk (Nat.le_refl _) (Kd.V_F hs0)) (fun _ hk=>.inl hk),Below.refl _ _⟩
end Go.Proofs.Ytfkecmnklpjelaa.P