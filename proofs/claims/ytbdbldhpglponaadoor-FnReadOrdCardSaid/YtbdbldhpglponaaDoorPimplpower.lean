/- One Go function comes to what its Lean function tells. -/
import Derived.Test.YtbdbldhpglponaaDoorP0
namespace Go.Proofs.YtbdbldhpglponaaDoor.P
open Go.RowKit YtbdbldhpglponaaDoorW.PrintWords YtbdbldhpglponaaDoorW.PrintLast YtbdbldhpglponaaDoorW.PrintMore
set_option linter.unusedVariables false
set_option linter.unusedSimpArgs false
-- NOT PRINTED: function 84 (strconv_ParseUint)
-- NOT PRINTED: function 74 (strconv_ParseInt)
-- NOT PRINTED: function 65 (strconv_Atoi_65)
-- NOT PRINTED: function 85 (stringslite_Clone)
-- NOT PRINTED: function 75 (strconv_syntaxError)
-- NOT PRINTED: function 76 (strconv_rangeError)
/-! ### impl_power: function 49 -/
def impl_power.f (l0:List (S57)):Option ((List (S57))):=some (([(⟨1,l0⟩:S57)]:List (S57)))
set_option maxHeartbeats 8000000 in
set_option maxRecDepth 100000 in
theorem impl_power.calls (j:Nat→Prop)(E:Option Addr)(G:Nat)(l0:List (S57))(r:List (S57))(w:World)(M:Kd.V k57 57 w w.heap.size (fun k_=>j k_) (.slice E l0.length G) l0)(h:impl_power.f l0=some r) :
  Calls Tryd.prog 49 #[.slice E l0.length G] w fun e w'=>∃ J:Value,e=.returned (J)∧Kd.N k57 57 w' w.heap.size (fun k_=>(j k_∨w.heap.size≤k_)) J r∧Below w.heap.size w w':=by
 have U:=Tryd.underlying57;have z:=Sd.mk (show Kd.V k57 57 w w.heap.size (fun k_=>(j k_∨w.heap.size≤k_)) (.slice E l0.length G) l0 from Kd.V_mono M (fun k_ hk=>.inl hk));have HB:=Sd.mk (Below.refl w.heap.size w);have H:(some (([(⟨1,l0⟩:S57)]:List (S57))))=some r:=h;clear h;obtain⟨L,o⟩:∃ y_:List (S57),y_=(([(⟨1,l0⟩:S57)]:List (S57))):=⟨_,rfl⟩;replace H:(some L)=some r:=hz o H;have D:=Sd.mk o;clear o;obtain rfl:=Option.some.inj H;go_enter Tryd.func49,Tryd.ntmps49;go_wp2_with (first|((with_reducible refine gate_dst (N:=5) rfl ?_);refine Kd.N_lit k57 _ 57 ?hg (N':=5) ?hd (xs:=([(⟨1,l0⟩:S57)]:List (S57))) (inner:=[.int .i64 1,.slice E l0.length G]) (ok:=(fun k_=>(j k_∨w.heap.size≤k_))) (okp:=(fun k_=>(j k_∨w.heap.size≤k_))) ?hr ?hp (fun _ hk=>hk) ((show ∀ k_,w.heap.size≤k_→(fun k_=>(j k_∨w.heap.size≤k_)) k_ from fun k_ hk=>(.inr (Nat.le_trans (below_size bz) hk))) _ (Nat.le_refl _)) (Below.refl _ _) (Nat.le_refl _) (by simp) ?_;(case hd=>rfl);(case hg=>rfl);(case hr=>first|(go_simp;done)|(go_simp;rfl));(case hp=>exact(Reps.c2 (show Kd.FK k57 _ _ (⟨1,l0⟩:S57) [.int .i64 1,.slice E l0.length G] from(k57_mkF _ _ (⟨1,l0⟩:S57) (Kd.V_reads' (Kd.V_mono (ok':=(fun k_=>(j k_∨w.heap.size≤k_))) (z.out) (fun k_ hk=>hk))).2.1 (Kd.V_F (Kd.V_mono (ok':=(fun k_=>(j k_∨w.heap.size≤k_))) (z.out) (fun k_ hk=>hk))))) (Reps.none _ _)));intro X Y m hb O hnew_;clear O hnew_;(first|rw[← D.out] at m|(simp only[Int.reduceToNat] at m;rw[← D.out] at m));replace z:=Sd.mk (Kd.V_elder' (Kd.Vz z.out) (Kd.N_base m) hb);have I:=Sd.mk (Kd.N_lower m (below_size bz));replace HB:=Sd.mk (below_step bz hb);clear hb m));go_ret;exact⟨_,by first|rfl|(simp[errW_none,errW_some]<;>rfl)|(simp[*,errW_none,errW_some]<;>rfl),by(with_reducible repeat (first|apply Kd.N_alloc|apply Kd.N_drewN|apply Kd.N_drew));exact I.out,bz⟩
end Go.Proofs.YtbdbldhpglponaaDoor.P