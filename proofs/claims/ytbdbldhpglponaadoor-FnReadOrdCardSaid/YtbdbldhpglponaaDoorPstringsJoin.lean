/- One Go function comes to what its Lean function tells. -/
import Derived.Test.YtbdbldhpglponaaDoorP0
import Derived.Test.YtbdbldhpglponaaDoorShelf
namespace Go.Proofs.YtbdbldhpglponaaDoor.P
open Go.RowKit YtbdbldhpglponaaDoorW.PrintWords YtbdbldhpglponaaDoorW.PrintLast YtbdbldhpglponaaDoorW.PrintMore
set_option linter.unusedVariables false
set_option linter.unusedSimpArgs false
/-! ### strings_Join: function 36 (by hand) -/
def strings_Join.v (l0:List ByteArray)(a1:ByteArray):List UInt8:=Lib.join (l0.map (·.data.toList)) a1.data.toList
def strings_Join.f (l0:List ByteArray)(a1:ByteArray):Option ByteArray:=if l0.length≤140737488355328 then(if(strings_Join.v l0 a1).length≤140737488355328 then some ⟨(strings_Join.v l0 a1).toArray⟩ else none) else none
theorem strings_Join.calls (z:Option Addr)(m:Nat)(l0:List ByteArray)(o:ByteArray)(r:ByteArray)(w:World)(G:∃ b ok,Kd.R Kd.string 9 w b ok (.slice z l0.length m) l0)(I:l0.length≤m)(h:strings_Join.f l0 o=some r) :
  Calls Tryd.prog 36 #[.slice z l0.length m,.string o] w fun e w'=>e=.returned (.string r)∧Below w.heap.size w w':=by
 obtain⟨b,ok,hR⟩:=G;unfold strings_Join.f at h
 by_cases D:l0.length≤140737488355328
 ·rw[if_pos D] at h
  by_cases E:(strings_Join.v l0 o).length≤140737488355328
  ·rw[if_pos E] at h
   obtain rfl:=Option.some.inj h;have hC:=(Kd.R_reads' hR).2.2
   cases z with
   | none =>
    have hl:l0=[]:=by
     by_cases hz:0<l0.length
     ·obtain⟨ad,hd,_⟩:=hC.2.2 hz
      cases hd
     ·exact List.eq_nil_of_length_eq_zero (by omega)
    subst hl;refine(sh_strings_Join_none none m o w).mono ?_;rintro e w' ⟨rfl,rfl⟩;exact⟨rfl,Below.refl _ _⟩
   | some ad =>
    obtain⟨g,rfl⟩:=Kd.R_head hR;refine sh_strings_Join g 0 m l0 o w ?_ (Kd.R_lt hR g rfl) D I E;intro j y hj
    have hlt:j<l0.length:=by
     rcases Nat.lt_or_ge j l0.length with q|q
     ·exact q
     ·rw[List.getElem?_eq_none q] at hj;cases hj
    obtain⟨ad,he,hx⟩:=Kd.at_string hC (j:Int) (by omega) (by omega)
    injection he with he
    subst he
    have hy:rdOf ByteArray.empty l0 (j:Int)=y:=by
     unfold rdOf
     simp[hj]
    rw[hy] at hx
    have ha:(⟨g,0,none⟩:Addr).add ((j:Int)).toNat=⟨g,0+j,none⟩:=by
     unfold Addr.add
     split
     ·next J=>simp at J;subst J;rfl
     ·simp
    rw[ha] at hx;exact hx
  ·rw[if_neg E] at h;cases h
 ·rw[if_neg D] at h;cases h
end Go.Proofs.YtbdbldhpglponaaDoor.P