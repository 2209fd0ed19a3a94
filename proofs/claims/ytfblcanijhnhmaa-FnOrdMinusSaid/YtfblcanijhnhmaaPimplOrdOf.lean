/- One Go function comes to what its Lean function tells. -/
import Derived.Test.YtfblcanijhnhmaaP0
import Derived.Test.YtfblcanijhnhmaaPimplnumber
import Derived.Test.YtfblcanijhnhmaaPimplrowOf
namespace Go.Proofs.Ytfblcanijhnhmaa.P
open Go.RowKit YtfblcanijhnhmaaW.PrintWords YtfblcanijhnhmaaW.PrintLast YtfblcanijhnhmaaW.PrintMore
set_option linter.unusedVariables false
set_option linter.unusedSimpArgs false
/-! ### impl_OrdOf: function 38 -/
def impl_OrdOf.j0:Nat→Int→Bool→Option (List Int)
 | 0,_,_=>none
 | k+1,x0,x8=>if x8=true then(some ([]:List Int)) else((impl_number.f x0).bind fun t1398=>((impl_rowOf.f k t1398).bind fun t1401=>(some t1401)))
def impl_OrdOf.f (k:Nat)(a0:Int):Option (List Int):=if a0<0 then(impl_OrdOf.j0 k a0 true) else(impl_OrdOf.j0 k a0 (decide (a0>9999)))
theorem impl_OrdOf.mono_l:∀ k,(∀ y0 y1,LeO (impl_OrdOf.j0 k y0 y1) (impl_OrdOf.j0 (k+1) y0 y1))
 | 0=>fun _ _ r h=>by simp[impl_OrdOf.j0] at h
 | k+1=>by
  have ih0:=impl_OrdOf.mono_l k
  ·intro y0 y1
   unfold impl_OrdOf.j0
   repeat' first|(with_reducible first|exact ih0 _ _|exact impl_rowOf.mono _ _|exact LeO.refl _|exact LeO.none _|refine LeO.ite ?_ ?_|refine LeO.bind ?_ (fun _=>?_))|exact ih0 _ _|exact impl_rowOf.mono _ _|exact LeO.none _|refine LeO.ite ?_ ?_|refine LeO.bind ?_ (fun _=>?_)
theorem impl_OrdOf.mono:∀ a0 k,LeO (impl_OrdOf.f k a0) (impl_OrdOf.f (k+1) a0):=by
 intro a0 k
 have ih0:=impl_OrdOf.mono_l k
 unfold impl_OrdOf.f
 repeat' first|(with_reducible first|exact ih0 _ _|exact LeO.refl _|exact LeO.none _|refine LeO.ite ?_ ?_|refine LeO.bind ?_ (fun _=>?_))|exact ih0 _ _|exact LeO.none _|refine LeO.ite ?_ ?_|refine LeO.bind ?_ (fun _=>?_)
set_option maxHeartbeats 8000000 in
set_option maxRecDepth 100000 in
theorem impl_OrdOf.calls (k:Nat)(a0:Int)(r:List Int)(w:World)(h:impl_OrdOf.f k a0=some r) :
  Calls Try.prog 38 #[.int .i64 a0] w fun e w'=>∃ v0_:Value,e=.returned (v0_)∧Kd.R (Kd.int .i64) 3 w' w.heap.size (fun _=>True) v0_ r∧Below w.heap.size w w':=by
 have HB:=Sd.mk (Below.refl w.heap.size w)
 have H:(if a0<0 then(impl_OrdOf.j0 k a0 true) else(impl_OrdOf.j0 k a0 (decide (a0>9999))))=some r:=h
 clear h
 have HC2:=Sd.mk H
 clear H
 go_enter Try.func38,Try.ntmps38
 go_upto_region 1 with (fail)
 go_cut [8] (fun v8 wc=>∃ (kq:Nat) (x8_1:Bool),v8=.bool x8_1∧Sd (impl_OrdOf.j0 kq a0 x8_1=some r)∧Sd (kq≤k)∧Sd (Below w.heap.size w wc))
 case first =>
  have H:=HC2.out
  clear HC2
  by_cases c3:a0<0
  ·rw[if_pos c3] at H
   have c3b0:decide (a0<0)=true:=decide_eq_true c3
   clear c3
   (first|rw[c3b0]|(simp only[i64_w,i32_w];rw[c3b0])|skip)
   have H':=Sd.mk H
   clear H
   go_wp2
   go_meet
   case rel=>exact⟨_,(true),(by first|rfl|(simp;done)|(simp[*];done)),H',⟨by first|omega|exact Nat.le_refl _⟩,⟨bz⟩⟩
  ·rw[if_neg c3] at H
   have c3b0:decide (a0<0)=false:=decide_eq_false c3
   clear c3
   (first|rw[c3b0]|(simp only[i64_w,i32_w];rw[c3b0])|skip)
   have H':=Sd.mk H
   clear H
   go_wp2
   go_meet
   case rel=>exact⟨_,(decide (a0>9999)),(by first|rfl|(simp;done)|(simp[*];done)),H',⟨by first|omega|exact Nat.le_refl _⟩,⟨bz⟩⟩
 case rest =>
  clear HC2
  try clear p2
  try clear c3
  try clear c3b0
  obtain⟨kq,x8_1,rfl,HA,HJ1,HB⟩:=hcut
  cases kq with
  | zero=>exact absurd HA.out (by simp[impl_OrdOf.j0])
  | succ kj1 =>
   have H:=HA.out
   clear HA
   simp only[impl_OrdOf.j0] at H
   by_cases c4:x8_1=true
   ·subst c4
    have H1:(some ([]:List Int))=some r:=by rw[if_pos rfl] at H;exact H
    clear H
    have H:=H1
    clear H1
    obtain rfl:=Option.some.inj H
    go_wp2
    go_ret
    exact⟨_,by first|rfl|(simp[errW_none,errW_some]<;>rfl)|(simp[*,errW_none,errW_some]<;>rfl),by first|exact Kd.R_nil _ _ _ _ _|exact Kd.N_nil _ _ _ _ _|exact Kd.V_nil _ _ _ _ _|exact Kd.Q_nil _ _ _ _ _|exact Kd.S_nil _ _ _ _ _,bz⟩
   ·replace c4:=Bool.eq_false_iff.mpr c4
    subst c4
    have H1:((impl_number.f a0).bind fun t1398=>((impl_rowOf.f kj1 t1398).bind fun t1401=>(some t1401)))=some r:=by rw[if_neg (show ¬ (false=true) by decide)] at H;exact H
    clear H
    have H:=H1
    clear H1
    replace H:=Option.bind_eq_some_iff.mp H
    obtain⟨t1398,A50,H⟩:=H
    replace H:((impl_rowOf.f kj1 t1398).bind fun t1401=>(some t1401))=some r:=H
    have A5:=Sd.mk A50
    clear A50
    replace H:=Option.bind_eq_some_iff.mp H
    obtain⟨t1401,A60,H⟩:=H
    replace H:(some t1401)=some r:=H
    have A6:=Sd.mk A60
    clear A60
    obtain rfl:=Option.some.inj H
    go_wp2_with (first|((with_reducible refine gate_callee (f:=60) rfl ?_);refine goesL_ (some 10) rfl rfl Try.func60 (by kernel_rfl) rfl #[.int .i64 a0] rfl az ?_;(with_reducible refine(impl_number.calls a0 t1398 _ A5.out).mono ?_);rintro e w7 ⟨v1399,rfl,ho0,hb⟩;refine⟨_,rfl,?_⟩;have HO1400:=Sd.mk (Kd.R_lower ho0 (below_size bz));replace HB:=Sd.mk (below_step bz hb);(try clear hb);(try clear hb2);(try clear hk);(try clear hi);(try clear ho0);obtain⟨Ao8,co8,eo8⟩:=Kd.R_slice HO1400.out;subst eo8)|((with_reducible refine gate_callee (f:=65) rfl ?_);refine goesL_ (some 11) rfl rfl Try.func65 (by kernel_rfl) rfl #[.slice Ao8 t1398.length co8] rfl az ?_;(with_reducible refine(impl_rowOf.calls kj1 _ _ t1398 t1401 _ ?side1 ?side2 A6.out).mono ?_);(case side1=>exact Kd.Cz (Kd.R_reads' HO1400.out).2.2);(case side2=>exact(Kd.R_reads' HO1400.out).2.1);rintro e w9 ⟨v1402,rfl,ho0,hb⟩;refine⟨_,rfl,?_⟩;replace HO1400:=Sd.mk (Kd.R_below (Kd.Rz HO1400.out) hb);have HO1403:=Sd.mk (Kd.R_lower ho0 (below_size bz));replace HB:=Sd.mk (below_step bz hb);(try clear hb);(try clear hb2);(try clear hk);(try clear hi);(try clear ho0)))
    go_ret
    exact⟨_,by first|rfl|(simp[errW_none,errW_some]<;>rfl)|(simp[*,errW_none,errW_some]<;>rfl),by(with_reducible repeat (first|apply Kd.R_alloc|apply Kd.R_drewN|apply Kd.R_drew));exact HO1403.out,bz⟩
end Go.Proofs.Ytfblcanijhnhmaa.P