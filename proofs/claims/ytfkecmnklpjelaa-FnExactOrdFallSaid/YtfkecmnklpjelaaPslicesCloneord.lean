/- One Go function comes to what its Lean function tells. -/
import Derived.Test.YtfkecmnklpjelaaP0
import Derived.Lib.SliceRun
namespace Go.Proofs.Ytfkecmnklpjelaa.P
open Go.RowKit YtfkecmnklpjelaaW.PrintWords YtfkecmnklpjelaaW.PrintLast YtfkecmnklpjelaaW.PrintMore
set_option linter.unusedVariables false
set_option linter.unusedSimpArgs false
/-! ### slices_Clone_ord: function 48 (by hand) -/
def slices_Clone_ord.f (l0:List (S60)):Option (List (S60)):=if l0.length<4398046511104 then some l0 else none
theorem slices_Clone_ord.eql (w:World)(a:Option Addr)(n c:Nat):(binOp .eql 42 (.slice a n c) (.slice none 0 0)).run Try.prog w=.ok (.bool a.isNone) w:=Lib.run_eql_slice_nil w 42 60 a n c 0 0 Try.underlying42
set_option maxHeartbeats 1000000 in
set_option maxRecDepth 100000 in
theorem slices_Clone_ord.calls (P0_:Nat→Prop)(A0:Option Addr)(c0:Nat)(l0:List (S60))(r:List (S60))(w:World)(hs0:Kd.V k60 60 w w.heap.size (fun k_=>P0_ k_) (.slice A0 l0.length c0) l0)(h:slices_Clone_ord.f l0=some r) :
  Calls Try.prog 48 #[.slice A0 l0.length c0] w fun e w'=>∃ v0_:Value,e=.returned (v0_)∧Kd.N k60 60 w' w.heap.size (fun k_=>(P0_ k_∨w.heap.size≤k_)) v0_ r∧Below w.heap.size w w':=by
 have hu:=Try.underlying60
 unfold slices_Clone_ord.f at h
 by_cases hlim:l0.length<4398046511104
 ·rw[if_pos hlim] at h
  obtain rfl:=Option.some.inj h
  clear h
  have LM:=Sd.mk hlim
  clear hlim
  have HO0:=Sd.mk (show Kd.V k60 60 w w.heap.size (fun k_=>(P0_ k_∨w.heap.size≤k_)) (.slice A0 l0.length c0) l0 from Kd.V_mono hs0 (fun k_ hk=>.inl hk))
  have HB:=Sd.mk (Below.refl w.heap.size w)
  cases A0 with
  | none =>
   have hl:l0=[]:=by
    have hC:=(Kd.V_reads' hs0).2.2
    cases l0 with
    | nil=>rfl
    | cons t r =>
     obtain⟨ad,hd,_⟩:=hC.2.2 (by simp)
     cases hd
   subst hl
   clear hs0
   have he:(binOp .eql 42 (.slice none 0 c0) (.slice none 0 0)).run Try.prog w=.ok (.bool true) w:=slices_Clone_ord.eql w none _ _
   go_enter Try.func48,Try.ntmps48
   go_wp2
   go_ret
   exact⟨_,rfl,Kd.N_nil _ _ _ _ _,HB.out⟩
  | some a0 =>
   clear hs0
   have he:(binOp .eql 42 (.slice (some a0) l0.length c0) (.slice none 0 0)).run Try.prog w=.ok (.bool false) w:=slices_Clone_ord.eql w (some a0) _ _
   go_enter Try.func48,Try.ntmps48
   go_wp2_with (first|((with_reducible refine gate_dst (N:=5) rfl ?_);refine Kd.N_lit k60 _ 60 ?hg (N':=5) ?hd (xs:=([]:List (S60))) (inner:=[]) (ok:=(fun k_=>(P0_ k_∨w.heap.size≤k_))) (okp:=(fun k_=>(P0_ k_∨w.heap.size≤k_))) ?hr ?hp (fun _ hk=>hk) (.inr (Nat.le_refl _)) (Below.refl _ _) (Nat.le_refl _) (by simp) ?_;(case hd=>rfl);(case hg=>rfl);(case hr=>first|(go_simp;done)|(go_simp;rfl));(case hp=>exact(Reps.none _ _));intro v5 w3 ho4 hb hg_ hnew_;clear hg_ hnew_;have n0_:=Sd.mk (Kd.V_elder' HO0.out (Kd.N_base ho4) hb);have n2_:=Sd.mk (Kd.N_lower ho4 (below_size HB.out));have n3_:=Sd.mk (below_step HB.out hb);clear HO0 HB;have HO0:=n0_;have HO5:=n2_;have HB:=n3_;clear n0_ n2_ n3_;clear hb ho4)|((with_reducible refine gate_builtin (b:=.append) (xs:=#[.tmp 5,.tmp 6]) rfl ?_);at_builtin;refine Kd.N_append_rows k60 (w0:=w) w.heap.size rfl (.tmp 5) (.tmp 6) 42 60 (.agg #[(.int .i64 0),(.slice none 0 0)]) 32 rfl Try.underlying42 info60 rfl (by decide) (by omega) v5 [] l0 _ _ _ (fun k_=>(P0_ k_∨w.heap.size≤k_)) (fun k_=>(P0_ k_∨w.heap.size≤k_)∧some k_≠(v5:Value).ownBlock) rfl rfl ?aO ?aR (fun _ hk=>hk) ?aF ?aB ?aS ?aL ?_;(case aR=>exact Kd.V_F HO0.out);(case aB=>exact HB.out);(case aF=>exact(fun k_ hk=>.inr (Nat.le_trans (below_size HB.out) hk)));(case aO=>exact HO5.out);(case aS=>exact(below_size HB.out));(case aL=>have:=LM.out;simp only[List.length_nil,Nat.zero_add];omega);intro v7 w7 ho hb hg hat;have n5_:=Sd.mk hb;have n6_:=Sd.mk ho;clear HB HO5;have HB:=n5_;have HO7:=n6_;clear n5_ n6_;clear ho hb hg hat))
   go_ret
   exact⟨_,rfl,HO7.out,HB.out⟩
 ·rw[if_neg hlim] at h
  cases h
end Go.Proofs.Ytfkecmnklpjelaa.P