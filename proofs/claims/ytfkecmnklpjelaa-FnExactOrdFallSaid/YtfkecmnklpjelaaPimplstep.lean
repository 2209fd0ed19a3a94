/- One Go function comes to what its Lean function tells. -/
import Derived.Test.YtfkecmnklpjelaaP0
import Derived.Test.YtfkecmnklpjelaaPimplbefore
import Derived.Test.YtfkecmnklpjelaaPimplkind
import Derived.Test.YtfkecmnklpjelaaPslicesClipord
namespace Go.Proofs.Ytfkecmnklpjelaa.P
open Go.RowKit YtfkecmnklpjelaaW.PrintWords YtfkecmnklpjelaaW.PrintLast YtfkecmnklpjelaaW.PrintMore
set_option linter.unusedVariables false
set_option linter.unusedSimpArgs false
/-! ### impl_step: function 21 (by hand) -/
def impl_step.f:Nat→List (S60)→Int→Option (List (S60))
 | 0,_,_=>none
 | k+1,l0,a1=>(impl_kind.f l0).bind fun q=>if q=0 then some [] else if q=1 then impl_before.f l0 else if 0≤wrap64 ((l0.length:Int)-1) then(if wrap64 ((l0.length:Int)-1)<(l0.length:Int) then((impl_before.f l0).bind fun o=>(impl_kind.f (rd_T60 l0 (wrap64 ((l0.length:Int)-1))).f1).bind fun p=>if p=2 then((impl_step.f k (rd_T60 l0 (wrap64 ((l0.length:Int)-1))).f1 a1).bind fun s=>if o.length<4398046511104 then some (o++[(⟨1,s⟩:S60)]) else none) else if a1>0 then((impl_before.f (rd_T60 l0 (wrap64 ((l0.length:Int)-1))).f1).bind fun s=>if o.length<4398046511104 then some (o++[(⟨a1,s⟩:S60)]) else none) else some o) else none) else none
theorem impl_step.mono:∀ a0 a1 k,LeO (impl_step.f k a0 a1) (impl_step.f (k+1) a0 a1):=by
 intro a0 a1 k
 induction k generalizing a0 a1 with
 | zero=>intro r h;simp[impl_step.f] at h
 | succ k ih =>
  unfold impl_step.f
  repeat' first|(with_reducible first|exact ih _ _|exact LeO.refl _|exact LeO.none _|refine LeO.ite ?_ ?_|refine LeO.bind ?_ (fun _=>?_))
theorem impl_step.exp_at {w:World}{b:Nat}{ok:Nat→Prop}{A:Option Addr}{m c:Nat}{xs:List (S60)}(h:Kd.V k60 60 w b ok (.slice A m c) xs)(i:Int)(h0:0≤i)(h1:i<m):∃ ad A1 c1,A=some ad∧w.cell? ⟨(ad.add (i.toNat*2)).block,(ad.add (i.toNat*2)).off+1,none⟩=some (.slice A1 (rd_T60 xs i).f1.length c1)∧Kd.V k60 60 w b ok (.slice A1 (rd_T60 xs i).f1.length c1) (rd_T60 xs i).f1:=by
 obtain⟨ad,A1,c1,e,_,hx,_,_⟩:=at_T60 (Kd.V_reads' h).2.2 i h0 (by have:=(Kd.V_reads' h).1;omega)
 subst e
 obtain⟨cs,_,hK,hcc⟩:=Kd.V_get h z60 i h0 h1
 obtain⟨ua,uc,rfl,ul,ge⟩:=k60_openF hK
 have hv:=hcc 1 _ rfl
 rw[show (k60).sz=2 from rfl,add_field _ _ 1 (by omega),hx] at hv
 injection hv with hv
 injection hv with hva hvn hvc
 subst hva;subst hvc
 exact⟨ad,_,_,rfl,hx,Kd.V_mk ul ge⟩
theorem impl_step.own {A:Option Addr}(n m c d:Nat):(Value.slice A n c).ownBlock=(Value.slice A m d).ownBlock:=by cases A<;>rfl
theorem impl_step.nz {w:World}{b:Nat}{ok:Nat→Prop}{A:Option Addr}{m c:Nat}{xs:List (S60)}(h:Kd.N k60 60 w b ok (.slice A m c) xs):A=none→m=0:=by
 intro hA
 have hV:=Kd.N_V (base':=b) h
 by_cases hl:0<m
 ·obtain⟨ad,_,_,e,_,_⟩:=impl_step.exp_at hV 0 (by omega) (by omega)
  rw[hA] at e;cases e
 ·omega
set_option maxHeartbeats 8000000 in
set_option maxRecDepth 100000 in
theorem impl_step.calls (k:Nat):∀ (P0_:Nat→Prop) (A0:Option Addr) (c0:Nat) (l0:List (S60)) (a1:Int) (r:List (S60)) (w:World) (hs0:Kd.V k60 60 w w.heap.size (fun k_=>P0_ k_) (.slice A0 l0.length c0) l0) (h:impl_step.f k l0 a1=some r),
  Calls Try.prog 21 #[.slice A0 l0.length c0,.int .i64 a1] w fun e w'=>∃ v0_:Value,e=.returned (v0_)∧Kd.N k60 60 w' w.heap.size (fun k_=>(P0_ k_∨w.heap.size≤k_)) v0_ r∧Below w.heap.size w w':=by
 induction k with
 | zero=>intro P0_ A0 c0 l0 a1 r w hs0 h;simp[impl_step.f] at h
 | succ k ih =>
 intro P0_ A0 c0 l0 a1 r w hs0 h
 have HO0:=Sd.mk (show Kd.V k60 60 w w.heap.size (fun k_=>(P0_ k_∨w.heap.size≤k_)) (.slice A0 l0.length c0) l0 from Kd.V_mono hs0 (fun k_ hk=>.inl hk))
 have HB:=Sd.mk (Below.refl w.heap.size w)
 rw[impl_step.f] at h
 obtain⟨q_,AQ0,H⟩:=Option.bind_eq_some_iff.mp h
 clear h hs0
 have AQ:=Sd.mk AQ0
 clear AQ0
 by_cases e0:q_=0
 ·have q0b:(q_ == 0)=true:=beq_iff_eq.mpr e0
  rw[if_pos e0] at H
  obtain rfl:=Option.some.inj H
  clear H
  go_enter Try.func21,Try.ntmps21
  go_wp2_with (first|((with_reducible refine gate_callee (f:=34) rfl ?_);refine goesL_ (some 8) rfl rfl Try.func34 (by kernel_rfl) rfl #[.slice A0 l0.length c0] rfl az ?_;(with_reducible refine(impl_kind.calls _ _ l0 q_ _ ?side1 ?side2 AQ.out).mono ?_);(case side1=>exact(Kd.V_reads' HO0.out).2.2);(case side2=>exact(Kd.V_reads' HO0.out).2.1);rintro e w1 ⟨rfl,⟨nd,rfl⟩⟩;refine⟨_,rfl,?_⟩;have n0_:=Sd.mk (show Kd.V k60 60 (w.drewN nd) w.heap.size (fun k_=>(P0_ k_∨w.heap.size≤k_)) (.slice A0 l0.length c0) l0 from by(apply Kd.V_drewN;exact HO0.out));have n1_:=Sd.mk (pw_below_drewN HB.out nd);clear HO0 HB;have HO0:=n0_;have HB:=n1_;clear n0_ n1_))
  go_ret
  exact⟨_,rfl,Kd.N_nil _ _ _ _ _,HB.out⟩
 have q0b:(q_ == 0)=false:=beq_eq_false_iff_ne.mpr e0
 rw[if_neg e0] at H
 by_cases e1:q_=1
 ·have q1b:(q_ == 1)=true:=beq_iff_eq.mpr e1
  rw[if_pos e1] at H
  have AB:=Sd.mk H
  clear H
  go_enter Try.func21,Try.ntmps21
  go_wp2_with (first|((with_reducible refine gate_callee (f:=34) rfl ?_);refine goesL_ (some 8) rfl rfl Try.func34 (by kernel_rfl) rfl #[.slice A0 l0.length c0] rfl az ?_;(with_reducible refine(impl_kind.calls _ _ l0 q_ _ ?side1 ?side2 AQ.out).mono ?_);(case side1=>exact(Kd.V_reads' HO0.out).2.2);(case side2=>exact(Kd.V_reads' HO0.out).2.1);rintro e w1 ⟨rfl,⟨nd,rfl⟩⟩;refine⟨_,rfl,?_⟩;have n0_:=Sd.mk (show Kd.V k60 60 (w.drewN nd) w.heap.size (fun k_=>(P0_ k_∨w.heap.size≤k_)) (.slice A0 l0.length c0) l0 from by(apply Kd.V_drewN;exact HO0.out));have n1_:=Sd.mk (pw_below_drewN HB.out nd);clear HO0 HB;have HO0:=n0_;have HB:=n1_;clear n0_ n1_)|((with_reducible refine gate_callee (f:=35) rfl ?_);refine goesL_ (some 14) rfl rfl Try.func35 (by kernel_rfl) rfl #[.slice A0 l0.length c0] rfl az ?_;(with_reducible refine(impl_before.calls (fun k_=>(P0_ k_∨w.heap.size≤k_)) _ _ l0 r _ ?side1 AB.out).mono ?_);(case side1=>exact HO0.out);rintro e w2 ⟨v1_,rfl,ho,hb⟩;refine⟨_,rfl,?_⟩;have n1_:=Sd.mk (Kd.N_lower (Kd.N_mono (ok':=(fun k_=>(P0_ k_∨w.heap.size≤k_))) ho (fun k_ hk_=>Or.elim hk_ (fun hs_=>hs_) (fun hn_=>(.inr (Nat.le_trans (below_size HB.out) hn_))))) (below_size HB.out));have n2_:=Sd.mk (below_step HB.out hb);clear HB;have HN:=n1_;have HB:=n2_;clear n1_ n2_;clear hb ho))
  go_ret
  exact⟨_,rfl,HN.out,HB.out⟩
 have q1b:(q_ == 1)=false:=beq_eq_false_iff_ne.mpr e1
 rw[if_neg e1] at H
 obtain⟨j_,hj_⟩:∃ j:Int,wrap64 ((l0.length:Int)-1)=j:=⟨_,rfl⟩
 rw[hj_] at H
 have hjw:IntKind.i64.wrap ((l0.length:Int)-1)=j_:=(i64_w _).trans hj_
 by_cases c4:0≤j_
 case neg=>rw[if_neg c4] at H;cases H
 rw[if_pos c4] at H
 by_cases c5:j_<(l0.length:Int)
 case neg=>rw[if_neg c5] at H;cases H
 rw[if_pos c5] at H
 have p_:(0≤j_)=True:=eq_true c4
 have q5_:(j_<(l0.length:Int))=True:=eq_true c5
 have pd_:decide (0≤j_)=true:=decide_eq_true c4
 have qd_:decide (j_<(l0.length:Int))=true:=decide_eq_true c5
 obtain⟨o_,AO0,H⟩:=Option.bind_eq_some_iff.mp H
 obtain⟨p2_,AP0,H⟩:=Option.bind_eq_some_iff.mp H
 have AB:=Sd.mk AO0
 have AP:=Sd.mk AP0
 clear AO0 AP0
 obtain⟨ad,eA⟩:∃ ad,A0=some ad:=by
  obtain⟨ad,_,_,e,_,_⟩:=impl_step.exp_at HO0.out j_ c4 c5
  exact⟨ad,e⟩
 subst eA
 by_cases e2:p2_=2
 ·have q2b:(p2_ == 2)=true:=beq_iff_eq.mpr e2
  rw[if_pos e2] at H
  obtain⟨s_,AS0,H⟩:=Option.bind_eq_some_iff.mp H
  by_cases lm:o_.length<4398046511104
  case neg=>rw[if_neg lm] at H;cases H
  rw[if_pos lm] at H
  obtain rfl:=Option.some.inj H
  have AS:=Sd.mk AS0
  have LM:=Sd.mk lm
  clear AS0 lm H
  go_enter Try.func21,Try.ntmps21
  go_wp2_with (first|((with_reducible refine gate_callee (f:=34) rfl ?_);refine goesL_ (some 8) rfl rfl Try.func34 (by kernel_rfl) rfl #[.slice (some ad) l0.length c0] rfl az ?_;(with_reducible refine(impl_kind.calls _ _ l0 q_ _ ?side1 ?side2 AQ.out).mono ?_);(case side1=>exact(Kd.V_reads' HO0.out).2.2);(case side2=>exact(Kd.V_reads' HO0.out).2.1);rintro e w1 ⟨rfl,⟨nd,rfl⟩⟩;refine⟨_,rfl,?_⟩;have n0_:=Sd.mk (show Kd.V k60 60 (w.drewN nd) w.heap.size (fun k_=>(P0_ k_∨w.heap.size≤k_)) (.slice (some ad) l0.length c0) l0 from by(apply Kd.V_drewN;exact HO0.out));have n1_:=Sd.mk (pw_below_drewN HB.out nd);clear HO0 HB;have HO0:=n0_;have HB:=n1_;clear n0_ n1_;obtain⟨ad_,A1,c1,ea_,hx1_,hl1_⟩:=impl_step.exp_at HO0.out j_ c4 c5;(injection ea_ with ea_);subst ea_;have HL:=Sd.mk hl1_;clear hl1_)|((with_reducible refine gate_callee (f:=35) rfl ?_);refine goesL_ (some 23) rfl rfl Try.func35 (by kernel_rfl) rfl #[.slice (some ad) l0.length c0] rfl az ?_;(with_reducible refine(impl_before.calls (fun k_=>(P0_ k_∨w.heap.size≤k_)) _ _ l0 o_ _ ?side1 AB.out).mono ?_);(case side1=>exact HO0.out);rintro e w2 ⟨v1_,rfl,ho,hb⟩;refine⟨_,rfl,?_⟩;have n1_:=Sd.mk (Kd.N_lower (Kd.N_mono (ok':=(fun k_=>(P0_ k_∨w.heap.size≤k_))) ho (fun k_ hk_=>Or.elim hk_ (fun hs_=>hs_) (fun hn_=>(.inr (Nat.le_trans (below_size HB.out) hn_))))) (below_size HB.out));have n2_:=Sd.mk (below_step HB.out hb);have n3_:=Sd.mk (Kd.V_elder' HL.out (Kd.N_base ho) hb);clear HL;have HL:=n3_;clear n3_;clear HB;have HN:=n1_;have HB:=n2_;clear n1_ n2_;clear hb ho;obtain⟨Ao,co,eo⟩:=Kd.N_slice HN.out;subst eo;have HLC:=Sd.mk (Kd.N_reads' HN.out).2.1;have HZ:=Sd.mk (impl_step.nz HN.out);clear HO0 hx1_)|((with_reducible refine gate_callee (f:=34) rfl ?_);refine goesL_ (some 26) rfl rfl Try.func34 (by kernel_rfl) rfl #[.slice A1 (rd_T60 l0 j_).f1.length c1] rfl az ?_;(with_reducible refine(impl_kind.calls _ _ (rd_T60 l0 j_).f1 p2_ _ ?side1 ?side2 AP.out).mono ?_);(case side1=>exact(Kd.V_reads' HL.out).2.2);(case side2=>exact(Kd.V_reads' HL.out).2.1);rintro e w3 ⟨rfl,⟨nd2,rfl⟩⟩;refine⟨_,rfl,?_⟩;have n0_:=Sd.mk (show Kd.V k60 60 (w2.drewN nd2) w.heap.size (fun k=>(fun k_=>(P0_ k_∨w.heap.size≤k_)) k∧some k≠(Value.slice Ao o_.length co).ownBlock) (.slice A1 (rd_T60 l0 j_).f1.length c1) (rd_T60 l0 j_).f1 from by(apply Kd.V_drewN;exact HL.out));have n1_:=Sd.mk (pw_below_drewN HB.out nd2);have n2_:=Sd.mk (show Kd.N k60 60 (w2.drewN nd2) w.heap.size (fun k_=>(P0_ k_∨w.heap.size≤k_)) (.slice Ao o_.length co) o_ from by(apply Kd.N_drewN;exact HN.out));clear HL HB HN;have HL:=n0_;have HB:=n1_;have HN:=n2_;clear n0_ n1_ n2_)|((with_reducible refine gate_callee (f:=36) rfl ?_);refine goesL_ (some 29) rfl rfl Try.func36 (by kernel_rfl) rfl #[.slice Ao o_.length co] rfl az ?_;(with_reducible refine(slices_Clip_ord.exact Ao co o_.length _ HLC.out (by have:=LM.out;omega) HZ.out).mono ?_);rintro e w4 ⟨rfl,rfl⟩;refine⟨_,rfl,?_⟩;have n0_:=Sd.mk (N_clip HN.out (Nat.le_refl _) HLC.out);have n1_:=Sd.mk (Kd.V_mono (ok':=fun k=>(fun k_=>(P0_ k_∨w.heap.size≤k_)) k∧some k≠(Value.slice Ao o_.length o_.length).ownBlock) HL.out (fun k hk=>⟨hk.1,by rw[impl_step.own _ o_.length _ co];exact hk.2⟩));clear HN HL;have HN:=n0_;have HL:=n1_;clear n0_ n1_)|((with_reducible refine gate_callee (f:=21) rfl ?_);refine goesL_ (some 32) rfl rfl Try.func21 (by kernel_rfl) rfl #[.slice A1 (rd_T60 l0 j_).f1.length c1,.int .i64 a1] rfl az ?_;(with_reducible refine(ih (fun k=>(fun k_=>(P0_ k_∨w.heap.size≤k_)) k∧some k≠(Value.slice Ao o_.length o_.length).ownBlock) _ _ (rd_T60 l0 j_).f1 a1 s_ _ ?side1 AS.out).mono ?_);(case side1=>exact HL.out);rintro e w5 ⟨v2_,rfl,ho,hb⟩;refine⟨_,rfl,?_⟩;have n1_:=Sd.mk (Kd.V_mono (ok':=fun k=>(fun k_=>(P0_ k_∨w.heap.size≤k_)) k∧some k≠(Value.slice Ao o_.length o_.length).ownBlock) (Kd.N_V (base':=w.heap.size) ho) (fun k_ hk_=>Or.elim hk_ (fun hs_=>hs_) (fun hn_=>⟨.inr (Nat.le_trans (below_size HB.out) hn_),fun he_=>absurd (Kd.N_lt HN.out k_ he_.symm) (Nat.not_lt.mpr hn_)⟩)));have n0_:=Sd.mk (Kd.N_below HN.out hb);have n2_:=Sd.mk (below_step HB.out hb);clear HN HB HL;have HN:=n0_;have HL:=n1_;have HB:=n2_;clear n0_ n1_ n2_;clear hb ho;obtain⟨Ab,cb,eb⟩:=Kd.V_slice HL.out;subst eb)|((with_reducible refine gate_builtin (b:=.append) (xs:=#[.tmp 29,.tmp 34]) rfl ?_);at_builtin;refine Kd.N_append k60 (w0:=w) w.heap.size rfl (.tmp 29) (.tmp 34) 42 60 (.agg #[(.int .i64 0),(.slice none 0 0)]) 32 rfl Try.underlying42 info60 rfl (by decide) (by omega) (.slice Ao o_.length o_.length) o_ (⟨1,s_⟩:S60) [.int .i64 (1),.slice Ab s_.length cb] (fun k_=>(P0_ k_∨w.heap.size≤k_)) (fun k=>(fun k_=>(P0_ k_∨w.heap.size≤k_)) k∧some k≠(Value.slice Ao o_.length o_.length).ownBlock) rfl rfl ?aP (fun _ hk=>hk) ?aF ?aO ?aB ?aS ?aL ?_;(case aP=>exact(k60_mkF _ _ (⟨1,s_⟩:S60) (Kd.V_reads' HL.out).2.1 (Kd.V_F HL.out)));(case aB=>exact HB.out);(case aF=>exact(fun k_ hk=>(.inr (Nat.le_trans (below_size HB.out) hk))));(case aO=>exact HN.out);(case aS=>exact(below_size HB.out));(case aL=>have:=LM.out;omega);intro v6_ w6 ho hb hg hat;clear HN HB HL;have HN:=Sd.mk ho;have HB:=Sd.mk hb;clear ho hb hg hat))
  go_ret
  exact⟨_,rfl,HN.out,HB.out⟩
 have q2b:(p2_ == 2)=false:=beq_eq_false_iff_ne.mpr e2
 rw[if_neg e2] at H
 by_cases e3:a1>0
 ·have q3b:decide (0<a1)=true:=decide_eq_true e3
  have q3c:(a1>0)=True:=eq_true e3
  have q3d:(0<a1)=True:=eq_true e3
  rw[if_pos e3] at H
  obtain⟨s_,AS0,H⟩:=Option.bind_eq_some_iff.mp H
  by_cases lm:o_.length<4398046511104
  case neg=>rw[if_neg lm] at H;cases H
  rw[if_pos lm] at H
  obtain rfl:=Option.some.inj H
  have AS:=Sd.mk AS0
  have LM:=Sd.mk lm
  clear AS0 lm H
  go_enter Try.func21,Try.ntmps21
  go_wp2_with (first|((with_reducible refine gate_callee (f:=34) rfl ?_);refine goesL_ (some 8) rfl rfl Try.func34 (by kernel_rfl) rfl #[.slice (some ad) l0.length c0] rfl az ?_;(with_reducible refine(impl_kind.calls _ _ l0 q_ _ ?side1 ?side2 AQ.out).mono ?_);(case side1=>exact(Kd.V_reads' HO0.out).2.2);(case side2=>exact(Kd.V_reads' HO0.out).2.1);rintro e w1 ⟨rfl,⟨nd,rfl⟩⟩;refine⟨_,rfl,?_⟩;have n0_:=Sd.mk (show Kd.V k60 60 (w.drewN nd) w.heap.size (fun k_=>(P0_ k_∨w.heap.size≤k_)) (.slice (some ad) l0.length c0) l0 from by(apply Kd.V_drewN;exact HO0.out));have n1_:=Sd.mk (pw_below_drewN HB.out nd);clear HO0 HB;have HO0:=n0_;have HB:=n1_;clear n0_ n1_;obtain⟨ad_,A1,c1,ea_,hx1_,hl1_⟩:=impl_step.exp_at HO0.out j_ c4 c5;(injection ea_ with ea_);subst ea_;have HL:=Sd.mk hl1_;clear hl1_)|((with_reducible refine gate_callee (f:=35) rfl ?_);refine goesL_ (some 23) rfl rfl Try.func35 (by kernel_rfl) rfl #[.slice (some ad) l0.length c0] rfl az ?_;(with_reducible refine(impl_before.calls (fun k_=>(P0_ k_∨w.heap.size≤k_)) _ _ l0 o_ _ ?side1 AB.out).mono ?_);(case side1=>exact HO0.out);rintro e w2 ⟨v1_,rfl,ho,hb⟩;refine⟨_,rfl,?_⟩;have n1_:=Sd.mk (Kd.N_lower (Kd.N_mono (ok':=(fun k_=>(P0_ k_∨w.heap.size≤k_))) ho (fun k_ hk_=>Or.elim hk_ (fun hs_=>hs_) (fun hn_=>(.inr (Nat.le_trans (below_size HB.out) hn_))))) (below_size HB.out));have n2_:=Sd.mk (below_step HB.out hb);have n3_:=Sd.mk (Kd.V_elder' HL.out (Kd.N_base ho) hb);clear HL;have HL:=n3_;clear n3_;clear HB;have HN:=n1_;have HB:=n2_;clear n1_ n2_;clear hb ho;obtain⟨Ao,co,eo⟩:=Kd.N_slice HN.out;subst eo;have HLC:=Sd.mk (Kd.N_reads' HN.out).2.1;have HZ:=Sd.mk (impl_step.nz HN.out);clear HO0 hx1_)|((with_reducible refine gate_callee (f:=34) rfl ?_);refine goesL_ (some 26) rfl rfl Try.func34 (by kernel_rfl) rfl #[.slice A1 (rd_T60 l0 j_).f1.length c1] rfl az ?_;(with_reducible refine(impl_kind.calls _ _ (rd_T60 l0 j_).f1 p2_ _ ?side1 ?side2 AP.out).mono ?_);(case side1=>exact(Kd.V_reads' HL.out).2.2);(case side2=>exact(Kd.V_reads' HL.out).2.1);rintro e w3 ⟨rfl,⟨nd2,rfl⟩⟩;refine⟨_,rfl,?_⟩;have n0_:=Sd.mk (show Kd.V k60 60 (w2.drewN nd2) w.heap.size (fun k=>(fun k_=>(P0_ k_∨w.heap.size≤k_)) k∧some k≠(Value.slice Ao o_.length co).ownBlock) (.slice A1 (rd_T60 l0 j_).f1.length c1) (rd_T60 l0 j_).f1 from by(apply Kd.V_drewN;exact HL.out));have n1_:=Sd.mk (pw_below_drewN HB.out nd2);have n2_:=Sd.mk (show Kd.N k60 60 (w2.drewN nd2) w.heap.size (fun k_=>(P0_ k_∨w.heap.size≤k_)) (.slice Ao o_.length co) o_ from by(apply Kd.N_drewN;exact HN.out));clear HL HB HN;have HL:=n0_;have HB:=n1_;have HN:=n2_;clear n0_ n1_ n2_)|((with_reducible refine gate_callee (f:=36) rfl ?_);refine goesL_ (some 40) rfl rfl Try.func36 (by kernel_rfl) rfl #[.slice Ao o_.length co] rfl az ?_;(with_reducible refine(slices_Clip_ord.exact Ao co o_.length _ HLC.out (by have:=LM.out;omega) HZ.out).mono ?_);rintro e w4 ⟨rfl,rfl⟩;refine⟨_,rfl,?_⟩;have n0_:=Sd.mk (N_clip HN.out (Nat.le_refl _) HLC.out);have n1_:=Sd.mk (Kd.V_mono (ok':=fun k=>(fun k_=>(P0_ k_∨w.heap.size≤k_)) k∧some k≠(Value.slice Ao o_.length o_.length).ownBlock) HL.out (fun k hk=>⟨hk.1,by rw[impl_step.own _ o_.length _ co];exact hk.2⟩));clear HN HL;have HN:=n0_;have HL:=n1_;clear n0_ n1_)|((with_reducible refine gate_callee (f:=35) rfl ?_);refine goesL_ (some 43) rfl rfl Try.func35 (by kernel_rfl) rfl #[.slice A1 (rd_T60 l0 j_).f1.length c1] rfl az ?_;(with_reducible refine(impl_before.calls (fun k=>(fun k_=>(P0_ k_∨w.heap.size≤k_)) k∧some k≠(Value.slice Ao o_.length o_.length).ownBlock) _ _ (rd_T60 l0 j_).f1 s_ _ ?side1 AS.out).mono ?_);(case side1=>exact HL.out);rintro e w5 ⟨v2_,rfl,ho,hb⟩;refine⟨_,rfl,?_⟩;have n1_:=Sd.mk (Kd.V_mono (ok':=fun k=>(fun k_=>(P0_ k_∨w.heap.size≤k_)) k∧some k≠(Value.slice Ao o_.length o_.length).ownBlock) (Kd.N_V (base':=w.heap.size) ho) (fun k_ hk_=>Or.elim hk_ (fun hs_=>hs_) (fun hn_=>⟨.inr (Nat.le_trans (below_size HB.out) hn_),fun he_=>absurd (Kd.N_lt HN.out k_ he_.symm) (Nat.not_lt.mpr hn_)⟩)));have n0_:=Sd.mk (Kd.N_below HN.out hb);have n2_:=Sd.mk (below_step HB.out hb);clear HN HB HL;have HN:=n0_;have HL:=n1_;have HB:=n2_;clear n0_ n1_ n2_;clear hb ho;obtain⟨Ab,cb,eb⟩:=Kd.V_slice HL.out;subst eb)|((with_reducible refine gate_builtin (b:=.append) (xs:=#[.tmp 40,.tmp 45]) rfl ?_);at_builtin;refine Kd.N_append k60 (w0:=w) w.heap.size rfl (.tmp 40) (.tmp 45) 42 60 (.agg #[(.int .i64 0),(.slice none 0 0)]) 32 rfl Try.underlying42 info60 rfl (by decide) (by omega) (.slice Ao o_.length o_.length) o_ (⟨a1,s_⟩:S60) [.int .i64 (a1),.slice Ab s_.length cb] (fun k_=>(P0_ k_∨w.heap.size≤k_)) (fun k=>(fun k_=>(P0_ k_∨w.heap.size≤k_)) k∧some k≠(Value.slice Ao o_.length o_.length).ownBlock) rfl rfl ?aP (fun _ hk=>hk) ?aF ?aO ?aB ?aS ?aL ?_;(case aP=>exact(k60_mkF _ _ (⟨a1,s_⟩:S60) (Kd.V_reads' HL.out).2.1 (Kd.V_F HL.out)));(case aB=>exact HB.out);(case aF=>exact(fun k_ hk=>(.inr (Nat.le_trans (below_size HB.out) hk))));(case aO=>exact HN.out);(case aS=>exact(below_size HB.out));(case aL=>have:=LM.out;omega);intro v6_ w6 ho hb hg hat;clear HN HB HL;have HN:=Sd.mk ho;have HB:=Sd.mk hb;clear ho hb hg hat))
  go_ret
  exact⟨_,rfl,HN.out,HB.out⟩
 have q3b:decide (0<a1)=false:=decide_eq_false e3
 have q3c:(a1>0)=False:=eq_false e3
 have q3d:(0<a1)=False:=eq_false e3
 rw[if_neg e3] at H
 obtain rfl:=Option.some.inj H
 clear H
 go_enter Try.func21,Try.ntmps21
 go_wp2_with (first|((with_reducible refine gate_callee (f:=34) rfl ?_);refine goesL_ (some 8) rfl rfl Try.func34 (by kernel_rfl) rfl #[.slice (some ad) l0.length c0] rfl az ?_;(with_reducible refine(impl_kind.calls _ _ l0 q_ _ ?side1 ?side2 AQ.out).mono ?_);(case side1=>exact(Kd.V_reads' HO0.out).2.2);(case side2=>exact(Kd.V_reads' HO0.out).2.1);rintro e w1 ⟨rfl,⟨nd,rfl⟩⟩;refine⟨_,rfl,?_⟩;have n0_:=Sd.mk (show Kd.V k60 60 (w.drewN nd) w.heap.size (fun k_=>(P0_ k_∨w.heap.size≤k_)) (.slice (some ad) l0.length c0) l0 from by(apply Kd.V_drewN;exact HO0.out));have n1_:=Sd.mk (pw_below_drewN HB.out nd);clear HO0 HB;have HO0:=n0_;have HB:=n1_;clear n0_ n1_;obtain⟨ad_,A1,c1,ea_,hx1_,hl1_⟩:=impl_step.exp_at HO0.out j_ c4 c5;(injection ea_ with ea_);subst ea_;have HL:=Sd.mk hl1_;clear hl1_)|((with_reducible refine gate_callee (f:=35) rfl ?_);refine goesL_ (some 23) rfl rfl Try.func35 (by kernel_rfl) rfl #[.slice (some ad) l0.length c0] rfl az ?_;(with_reducible refine(impl_before.calls (fun k_=>(P0_ k_∨w.heap.size≤k_)) _ _ l0 o_ _ ?side1 AB.out).mono ?_);(case side1=>exact HO0.out);rintro e w2 ⟨v1_,rfl,ho,hb⟩;refine⟨_,rfl,?_⟩;have n1_:=Sd.mk (Kd.N_lower (Kd.N_mono (ok':=(fun k_=>(P0_ k_∨w.heap.size≤k_))) ho (fun k_ hk_=>Or.elim hk_ (fun hs_=>hs_) (fun hn_=>(.inr (Nat.le_trans (below_size HB.out) hn_))))) (below_size HB.out));have n2_:=Sd.mk (below_step HB.out hb);have n3_:=Sd.mk (Kd.V_elder' HL.out (Kd.N_base ho) hb);clear HL;have HL:=n3_;clear n3_;clear HB;have HN:=n1_;have HB:=n2_;clear n1_ n2_;clear hb ho;obtain⟨Ao,co,eo⟩:=Kd.N_slice HN.out;subst eo;have HLC:=Sd.mk (Kd.N_reads' HN.out).2.1;clear HO0 hx1_)|((with_reducible refine gate_callee (f:=34) rfl ?_);refine goesL_ (some 26) rfl rfl Try.func34 (by kernel_rfl) rfl #[.slice A1 (rd_T60 l0 j_).f1.length c1] rfl az ?_;(with_reducible refine(impl_kind.calls _ _ (rd_T60 l0 j_).f1 p2_ _ ?side1 ?side2 AP.out).mono ?_);(case side1=>exact(Kd.V_reads' HL.out).2.2);(case side2=>exact(Kd.V_reads' HL.out).2.1);rintro e w3 ⟨rfl,⟨nd2,rfl⟩⟩;refine⟨_,rfl,?_⟩;have n0_:=Sd.mk (show Kd.V k60 60 (w2.drewN nd2) w.heap.size (fun k=>(fun k_=>(P0_ k_∨w.heap.size≤k_)) k∧some k≠(Value.slice Ao o_.length co).ownBlock) (.slice A1 (rd_T60 l0 j_).f1.length c1) (rd_T60 l0 j_).f1 from by(apply Kd.V_drewN;exact HL.out));have n1_:=Sd.mk (pw_below_drewN HB.out nd2);have n2_:=Sd.mk (show Kd.N k60 60 (w2.drewN nd2) w.heap.size (fun k_=>(P0_ k_∨w.heap.size≤k_)) (.slice Ao o_.length co) o_ from by(apply Kd.N_drewN;exact HN.out));clear HL HB HN;have HL:=n0_;have HB:=n1_;have HN:=n2_;clear n0_ n1_ n2_))
 go_ret
 exact⟨_,rfl,HN.out,HB.out⟩
end Go.Proofs.Ytfkecmnklpjelaa.P