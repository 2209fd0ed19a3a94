/- One Go function comes to what its Lean function tells. -/
import Derived.Test.YtfkecmnklpjelaaP0
import Derived.Test.YtfkecmnklpjelaaPspecl1Make
import Derived.Test.YtfkecmnklpjelaaPspecl1Terms
namespace Go.Proofs.Ytfkecmnklpjelaa.P
open Go.RowKit YtfkecmnklpjelaaW.PrintWords YtfkecmnklpjelaaW.PrintLast YtfkecmnklpjelaaW.PrintMore
set_option linter.unusedVariables false
set_option linter.unusedSimpArgs false
/-! ### spec_l3Step: function 32 -/
mutual
def spec_l3Step.j0:Nat→Int→List (List Int)→Int→List Int→List (List Int)→Option (List Int)
 | 0,_,_,_,_,_=>none
 | k+1,x1,x6,x7,x8,x9=>if 0≤x7 then(if x7<(x6.length:Int) then(if((rd_L1 x6 x7).length:Int)=1 then((spec_l1Make.f k x8 x9).bind fun t224=>(some t224)) else((spec_l1Terms.f k (rd_L1 x6 x7)).bind fun bt227=>(if 0≤(wrap64 ((bt227.2.length:Int)-1)) then(if(wrap64 ((bt227.2.length:Int)-1))<(bt227.2.length:Int) then(if((rd_L1 bt227.2 (wrap64 ((bt227.2.length:Int)-1))).length:Int)=1 then(if x1>0 then(if x8.length<17592186044416 then((spec_l3Step.f k (rd_L1 x6 x7) x1).bind fun t237=>(if x9.length<5864062014805 then((spec_l1Make.f k (x8++[x1]) (x9++[t237])).bind fun t243=>(some t243)) else(none))) else(none)) else((spec_l1Make.f k x8 x9).bind fun t246=>(some t246))) else(if x8.length<17592186044416 then((spec_l3Step.f k (rd_L1 x6 x7) x1).bind fun t252=>(if x9.length<5864062014805 then((spec_l1Make.f k (x8++[1]) (x9++[t252])).bind fun t258=>(some t258)) else(none))) else(none))) else(none)) else(none)))) else(none)) else(none)
def spec_l3Step.f:Nat→List Int→Int→Option (List Int)
 | 0,_,_=>none
 | k+1,l0,a1=>(spec_l1Terms.f k l0).bind fun bt183=>(if(wrap64 ((bt183.1.length:Int)-1))<0 then(some (([0]:List Int))) else((some (([]:List Int):List Int)).bind fun y192=>(if 0≤(wrap64 ((bt183.1.length:Int)-1)) then(if(wrap64 ((bt183.1.length:Int)-1))≤(bt183.1.length:Int) then((some (bt183.1.take ((wrap64 ((bt183.1.length:Int)-1)):Int).toNat:List Int)).bind fun y195=>(if y192.length+y195.length<17592186044416 then((some (y192++y195:List Int)).bind fun y200=>((some (([]:List (List Int)):List (List Int))).bind fun y203=>(if(wrap64 ((bt183.1.length:Int)-1))≤(bt183.2.length:Int) then((some (bt183.2.take ((wrap64 ((bt183.1.length:Int)-1)):Int).toNat:List (List Int))).bind fun y206=>(if y203.length+y206.length<5864062014805 then((some (y203++y206:List (List Int))).bind fun y211=>(if(wrap64 ((bt183.1.length:Int)-1))<(bt183.1.length:Int) then(if(rd bt183.1 (wrap64 ((bt183.1.length:Int)-1)))>1 then(if y200.length<17592186044416 then(if(wrap64 ((bt183.1.length:Int)-1))<(bt183.2.length:Int) then(if y211.length<5864062014805 then(spec_l3Step.j0 k a1 bt183.2 (wrap64 ((bt183.1.length:Int)-1)) (y200++[wrap64 ((rd bt183.1 (wrap64 ((bt183.1.length:Int)-1)))-1)]) (y211++[rd_L1 bt183.2 (wrap64 ((bt183.1.length:Int)-1))])) else(none)) else(none)) else(none)) else(spec_l3Step.j0 k a1 bt183.2 (wrap64 ((bt183.1.length:Int)-1)) y200 y211)) else(none))) else(none))) else(none)))) else(none))) else(none)) else(none))))
end
theorem spec_l3Step.mono_l:∀ k,(∀ y0 y1,LeO (spec_l3Step.f k y0 y1) (spec_l3Step.f (k+1) y0 y1))∧(∀ y0 y1 y2 y3 y4,LeO (spec_l3Step.j0 k y0 y1 y2 y3 y4) (spec_l3Step.j0 (k+1) y0 y1 y2 y3 y4))
 | 0=>⟨fun _ _ r h=>by simp[spec_l3Step.f] at h,fun _ _ _ _ _ r h=>by simp[spec_l3Step.j0] at h⟩
 | k+1=>by
  obtain⟨ih0,ih1⟩:=spec_l3Step.mono_l k
  refine⟨?_,?_⟩
  ·intro y0 y1
   unfold spec_l3Step.f
   repeat' first|(with_reducible first|exact ih0 _ _|exact ih1 _ _ _ _ _|exact spec_l1Terms.mono _ _|exact LeO.refl _|exact LeO.none _|refine LeO.ite ?_ ?_|refine LeO.bind ?_ (fun _=>?_))|exact ih0 _ _|exact ih1 _ _ _ _ _|exact spec_l1Terms.mono _ _|exact LeO.none _|refine LeO.ite ?_ ?_|refine LeO.bind ?_ (fun _=>?_)
  ·intro y0 y1 y2 y3 y4
   unfold spec_l3Step.j0
   repeat' first|(with_reducible first|exact ih0 _ _|exact ih1 _ _ _ _ _|exact spec_l1Make.mono _ _ _|exact spec_l1Terms.mono _ _|exact LeO.refl _|exact LeO.none _|refine LeO.ite ?_ ?_|refine LeO.bind ?_ (fun _=>?_))|exact ih0 _ _|exact ih1 _ _ _ _ _|exact spec_l1Make.mono _ _ _|exact spec_l1Terms.mono _ _|exact LeO.none _|refine LeO.ite ?_ ?_|refine LeO.bind ?_ (fun _=>?_)
theorem spec_l3Step.mono:∀ a0 a1 k,LeO (spec_l3Step.f k a0 a1) (spec_l3Step.f (k+1) a0 a1):=by
 intro a0 a1 k
 obtain⟨ih0,ih1⟩:=spec_l3Step.mono_l k
 exact ih0 a0 a1
set_option maxHeartbeats 8000000 in
set_option maxRecDepth 100000 in
theorem spec_l3Step.calls (k:Nat):∀ (A0:Option Addr) (c0:Nat) (l0:List Int) (a1:Int) (r:List Int) (w:World) (hr0:Kd.C (Kd.int .i64) w A0 l0.length l0) (hc0:l0.length≤c0) (h:spec_l3Step.f k l0 a1=some r),
  Calls Try.prog 32 #[.slice A0 l0.length c0,.int .i64 a1] w fun e w'=>∃ v0_:Value,e=.returned (v0_)∧Kd.R (Kd.int .i64) 3 w' w.heap.size (fun _=>True) v0_ r∧Below w.heap.size w w':=by
 induction k using Nat.strongRecOn with
 | _ k ih =>
 intro A0 c0 l0 a1 r w hr0 hc0 h
 cases k with
 | zero=>exact absurd h (by simp[spec_l3Step.f])
 | succ k =>
 simp only[spec_l3Step.f] at h
 have HR0:=Sd.mk hr0
 have HC0:=Sd.mk hc0
 clear hr0 hc0
 have HB:=Sd.mk (Below.refl w.heap.size w)
 have H:((spec_l1Terms.f k l0).bind fun bt183=>(if(wrap64 ((bt183.1.length:Int)-1))<0 then(some (([0]:List Int))) else((some (([]:List Int):List Int)).bind fun y192=>(if 0≤(wrap64 ((bt183.1.length:Int)-1)) then(if(wrap64 ((bt183.1.length:Int)-1))≤(bt183.1.length:Int) then((some (bt183.1.take ((wrap64 ((bt183.1.length:Int)-1)):Int).toNat:List Int)).bind fun y195=>(if y192.length+y195.length<17592186044416 then((some (y192++y195:List Int)).bind fun y200=>((some (([]:List (List Int)):List (List Int))).bind fun y203=>(if(wrap64 ((bt183.1.length:Int)-1))≤(bt183.2.length:Int) then((some (bt183.2.take ((wrap64 ((bt183.1.length:Int)-1)):Int).toNat:List (List Int))).bind fun y206=>(if y203.length+y206.length<5864062014805 then((some (y203++y206:List (List Int))).bind fun y211=>(if(wrap64 ((bt183.1.length:Int)-1))<(bt183.1.length:Int) then(if(rd bt183.1 (wrap64 ((bt183.1.length:Int)-1)))>1 then(if y200.length<17592186044416 then(if(wrap64 ((bt183.1.length:Int)-1))<(bt183.2.length:Int) then(if y211.length<5864062014805 then(spec_l3Step.j0 k a1 bt183.2 (wrap64 ((bt183.1.length:Int)-1)) (y200++[wrap64 ((rd bt183.1 (wrap64 ((bt183.1.length:Int)-1)))-1)]) (y211++[rd_L1 bt183.2 (wrap64 ((bt183.1.length:Int)-1))])) else(none)) else(none)) else(none)) else(spec_l3Step.j0 k a1 bt183.2 (wrap64 ((bt183.1.length:Int)-1)) y200 y211)) else(none))) else(none))) else(none)))) else(none))) else(none)) else(none)))))=some r:=h
 clear h
 replace H:=Option.bind_eq_some_iff.mp H
 obtain⟨⟨t183,t186⟩,A30,H⟩:=H
 replace H:(if(wrap64 ((t183.length:Int)-1))<0 then(some (([0]:List Int))) else((some (([]:List Int):List Int)).bind fun y192=>(if 0≤(wrap64 ((t183.length:Int)-1)) then(if(wrap64 ((t183.length:Int)-1))≤(t183.length:Int) then((some (t183.take ((wrap64 ((t183.length:Int)-1)):Int).toNat:List Int)).bind fun y195=>(if y192.length+y195.length<17592186044416 then((some (y192++y195:List Int)).bind fun y200=>((some (([]:List (List Int)):List (List Int))).bind fun y203=>(if(wrap64 ((t183.length:Int)-1))≤(t186.length:Int) then((some (t186.take ((wrap64 ((t183.length:Int)-1)):Int).toNat:List (List Int))).bind fun y206=>(if y203.length+y206.length<5864062014805 then((some (y203++y206:List (List Int))).bind fun y211=>(if(wrap64 ((t183.length:Int)-1))<(t183.length:Int) then(if(rd t183 (wrap64 ((t183.length:Int)-1)))>1 then(if y200.length<17592186044416 then(if(wrap64 ((t183.length:Int)-1))<(t186.length:Int) then(if y211.length<5864062014805 then(spec_l3Step.j0 k a1 t186 (wrap64 ((t183.length:Int)-1)) (y200++[wrap64 ((rd t183 (wrap64 ((t183.length:Int)-1)))-1)]) (y211++[rd_L1 t186 (wrap64 ((t183.length:Int)-1))])) else(none)) else(none)) else(none)) else(spec_l3Step.j0 k a1 t186 (wrap64 ((t183.length:Int)-1)) y200 y211)) else(none))) else(none))) else(none)))) else(none))) else(none)) else(none))))=some r:=H
 have A3:=Sd.mk A30
 clear A30
 by_cases c4:(wrap64 ((t183.length:Int)-1))<0
 ·rw[if_pos c4] at H
  have c4b0:decide ((wrap64 ((t183.length:Int)-1))<0)=true:=decide_eq_true c4
  clear c4
  obtain⟨y189,hy189⟩:∃ y_:List Int,y_=(([0]:List Int)):=⟨_,rfl⟩
  replace H:(some y189)=some r:=hz hy189 H
  have Ny189:=Sd.mk hy189
  clear hy189
  obtain rfl:=Option.some.inj H
  go_enter Try.func32,Try.ntmps32
  go_wp2_with (first|((with_reducible refine gate_callee (f:=46) rfl ?_);refine goesL_ (some 15) rfl rfl Try.func46 (by kernel_rfl) rfl #[.slice A0 l0.length c0] rfl az ?_;(with_reducible refine(spec_l1Terms.calls k (fun k_=>k_<w.heap.size) _ _ l0 t183 t186 _ ?side1 A3.out).mono ?_);(case side1=>exact Kd.V_mk HC0.out (Kd.F_below (Kd.C_F (Kd.heap_int .i64) HR0.out) bz));rintro e w5 ⟨v184,v187,rfl,ho0,ho1,hb⟩;refine⟨_,rfl,?_⟩;have HO185:=Sd.mk (Kd.R_lower (Kd.R_mono (ok':=fun k_=>True) ho0 (fun _ hk_=>trivial)) (below_size bz));have HO188:=Sd.mk (Kd.N_lower (Kd.N_mono (ok':=fun k_=>some k_≠(v184:Value).ownBlock) ho1 (fun k_ hk_=>hk_.2)) (below_size bz));replace HB:=Sd.mk (below_step bz hb);(try clear hb);(try clear hb2);(try clear hk);(try clear hi);(try clear ho0);(try clear ho1);obtain⟨Ao6,co6,eo6⟩:=Kd.R_slice HO185.out;subst eo6)|((with_reducible refine gate_dst (N:=23) rfl ?_);refine Kd.R_lit (Kd.int .i64) _ 3 ?hg (N:=23) ?hd (xs:=([0]:List Int)) (inner:=[.int .i64 0]) (ok:=fun _=>True) (okp:=fun _=>True) ?hr ?hp (fun _ hk=>hk) trivial (Below.refl _ _) (Nat.le_refl _) (by simp) ?_;(case hd=>rfl);(case hg=>rfl);(case hr=>first|(go_simp;done)|(go_simp;rfl));(case hp=>exact(Reps.one (show Kd.M (Kd.int .i64) _ _ _ 0 [.int .i64 0] from rfl) (Reps.none _ _)));intro v190 w7 ho8 hb hg_ hnew_;clear hg_ hnew_;(first|rw[← Ny189.out] at ho8|(simp only[Int.reduceToNat] at ho8;rw[← Ny189.out] at ho8));replace HO188:=Sd.mk (Kd.N_elder' (Kd.Nz HO188.out) (Kd.R_base ho8) hb);have HO191:=Sd.mk (Kd.R_lower (Kd.R_new' ho8 (Kd.R_lt (Kd.Rz HO185.out))) (below_size bz));replace HO185:=Sd.mk (Kd.R_elder' (Kd.Rz HO185.out) (Kd.R_base ho8) hb);replace HB:=Sd.mk (below_step bz hb);clear hb ho8))
  go_ret
  exact⟨_,by first|rfl|(simp[errW_none,errW_some]<;>rfl)|(simp[*,errW_none,errW_some]<;>rfl),Kd.Rz <| Kd.R_mono HO191.out (fun _ hk=>trivial),bz⟩
 ·rw[if_neg c4] at H
  have c4b0:decide ((wrap64 ((t183.length:Int)-1))<0)=false:=decide_eq_false c4
  clear c4
  obtain⟨y192,hy192⟩:∃ y_:List Int,y_=(([]:List Int)):=⟨_,rfl⟩
  replace H:(if 0≤(wrap64 ((t183.length:Int)-1)) then(if(wrap64 ((t183.length:Int)-1))≤(t183.length:Int) then((some (t183.take ((wrap64 ((t183.length:Int)-1)):Int).toNat:List Int)).bind fun y195=>(if y192.length+y195.length<17592186044416 then((some (y192++y195:List Int)).bind fun y200=>((some (([]:List (List Int)):List (List Int))).bind fun y203=>(if(wrap64 ((t183.length:Int)-1))≤(t186.length:Int) then((some (t186.take ((wrap64 ((t183.length:Int)-1)):Int).toNat:List (List Int))).bind fun y206=>(if y203.length+y206.length<5864062014805 then((some (y203++y206:List (List Int))).bind fun y211=>(if(wrap64 ((t183.length:Int)-1))<(t183.length:Int) then(if(rd t183 (wrap64 ((t183.length:Int)-1)))>1 then(if y200.length<17592186044416 then(if(wrap64 ((t183.length:Int)-1))<(t186.length:Int) then(if y211.length<5864062014805 then(spec_l3Step.j0 k a1 t186 (wrap64 ((t183.length:Int)-1)) (y200++[wrap64 ((rd t183 (wrap64 ((t183.length:Int)-1)))-1)]) (y211++[rd_L1 t186 (wrap64 ((t183.length:Int)-1))])) else(none)) else(none)) else(none)) else(spec_l3Step.j0 k a1 t186 (wrap64 ((t183.length:Int)-1)) y200 y211)) else(none))) else(none))) else(none)))) else(none))) else(none)) else(none))=some r:=hz hy192 H
  have Ny192:=Sd.mk hy192
  clear hy192
  obtain⟨ji9,hji9⟩:∃ j_:Int,(wrap64 ((t183.length:Int)-1))=j_:=⟨_,rfl⟩
  replace H:(if 0≤(ji9) then(if(ji9)≤(t183.length:Int) then((some (t183.take ((ji9):Int).toNat:List Int)).bind fun y195=>(if y192.length+y195.length<17592186044416 then((some (y192++y195:List Int)).bind fun y200=>((some (([]:List (List Int)):List (List Int))).bind fun y203=>(if(ji9)≤(t186.length:Int) then((some (t186.take ((ji9):Int).toNat:List (List Int))).bind fun y206=>(if y203.length+y206.length<5864062014805 then((some (y203++y206:List (List Int))).bind fun y211=>(if(ji9)<(t183.length:Int) then(if(rd t183 (ji9))>1 then(if y200.length<17592186044416 then(if(ji9)<(t186.length:Int) then(if y211.length<5864062014805 then(spec_l3Step.j0 k a1 t186 ji9 (y200++[wrap64 ((rd t183 (ji9))-1)]) (y211++[rd_L1 t186 (ji9)])) else(none)) else(none)) else(none)) else(spec_l3Step.j0 k a1 t186 ji9 y200 y211)) else(none))) else(none))) else(none)))) else(none))) else(none)) else(none))=some r:=by first|(rw[hji9] at H;exact H)|(simp only[hji9] at H ⊢;exact H)
  (try rw[hji9] at c4b0)
  (try rw[hji9] at A3)
  have hji9w:(IntKind.i64.wrap ((t183.length:Int)-1))=ji9:=(i64_w _).trans hji9
  by_cases c10:0≤(ji9)
  ·rw[if_pos c10] at H
   have c10b0:=eq_true c10
   have c10b1:decide (0≤(ji9))=true:=decide_eq_true c10
   clear c10
   by_cases c11:(ji9)≤(t183.length:Int)
   ·rw[if_pos c11] at H
    have c11b0:=eq_true c11
    have c11b1:decide ((ji9)≤(t183.length:Int))=true:=decide_eq_true c11
    clear c11
    obtain⟨y195,hy195⟩:∃ y_:List Int,y_=(t183.take ((ji9):Int).toNat):=⟨_,rfl⟩
    replace H:(if y192.length+y195.length<17592186044416 then((some (y192++y195:List Int)).bind fun y200=>((some (([]:List (List Int)):List (List Int))).bind fun y203=>(if(ji9)≤(t186.length:Int) then((some (t186.take ((ji9):Int).toNat:List (List Int))).bind fun y206=>(if y203.length+y206.length<5864062014805 then((some (y203++y206:List (List Int))).bind fun y211=>(if(ji9)<(t183.length:Int) then(if(rd t183 (ji9))>1 then(if y200.length<17592186044416 then(if(ji9)<(t186.length:Int) then(if y211.length<5864062014805 then(spec_l3Step.j0 k a1 t186 ji9 (y200++[wrap64 ((rd t183 (ji9))-1)]) (y211++[rd_L1 t186 (ji9)])) else(none)) else(none)) else(none)) else(spec_l3Step.j0 k a1 t186 ji9 y200 y211)) else(none))) else(none))) else(none)))) else(none))=some r:=hz hy195 H
    have Ny195:=Sd.mk hy195
    clear hy195
    by_cases c12:y192.length+y195.length<17592186044416
    ·rw[if_pos c12] at H
     have LMc12:=Sd.mk c12
     clear c12
     obtain⟨y200,hy200⟩:∃ y_:List Int,y_=(y192++y195):=⟨_,rfl⟩
     replace H:((some (([]:List (List Int)):List (List Int))).bind fun y203=>(if(ji9)≤(t186.length:Int) then((some (t186.take ((ji9):Int).toNat:List (List Int))).bind fun y206=>(if y203.length+y206.length<5864062014805 then((some (y203++y206:List (List Int))).bind fun y211=>(if(ji9)<(t183.length:Int) then(if(rd t183 (ji9))>1 then(if y200.length<17592186044416 then(if(ji9)<(t186.length:Int) then(if y211.length<5864062014805 then(spec_l3Step.j0 k a1 t186 ji9 (y200++[wrap64 ((rd t183 (ji9))-1)]) (y211++[rd_L1 t186 (ji9)])) else(none)) else(none)) else(none)) else(spec_l3Step.j0 k a1 t186 ji9 y200 y211)) else(none))) else(none))) else(none)))=some r:=hz hy200 H
     have Ny200:=Sd.mk hy200
     clear hy200
     obtain⟨y203,hy203⟩:∃ y_:List (List Int),y_=(([]:List (List Int))):=⟨_,rfl⟩
     replace H:(if(ji9)≤(t186.length:Int) then((some (t186.take ((ji9):Int).toNat:List (List Int))).bind fun y206=>(if y203.length+y206.length<5864062014805 then((some (y203++y206:List (List Int))).bind fun y211=>(if(ji9)<(t183.length:Int) then(if(rd t183 (ji9))>1 then(if y200.length<17592186044416 then(if(ji9)<(t186.length:Int) then(if y211.length<5864062014805 then(spec_l3Step.j0 k a1 t186 ji9 (y200++[wrap64 ((rd t183 (ji9))-1)]) (y211++[rd_L1 t186 (ji9)])) else(none)) else(none)) else(none)) else(spec_l3Step.j0 k a1 t186 ji9 y200 y211)) else(none))) else(none))) else(none))=some r:=hz hy203 H
     have Ny203:=Sd.mk hy203
     clear hy203
     have c13b0:=eq_true (dz:0≤(ji9))
     by_cases c14:(ji9)≤(t186.length:Int)
     ·rw[if_pos c14] at H
      have c14b0:=eq_true c14
      have c14b1:decide ((ji9)≤(t186.length:Int))=true:=decide_eq_true c14
      clear c14
      obtain⟨y206,hy206⟩:∃ y_:List (List Int),y_=(t186.take ((ji9):Int).toNat):=⟨_,rfl⟩
      replace H:(if y203.length+y206.length<5864062014805 then((some (y203++y206:List (List Int))).bind fun y211=>(if(ji9)<(t183.length:Int) then(if(rd t183 (ji9))>1 then(if y200.length<17592186044416 then(if(ji9)<(t186.length:Int) then(if y211.length<5864062014805 then(spec_l3Step.j0 k a1 t186 ji9 (y200++[wrap64 ((rd t183 (ji9))-1)]) (y211++[rd_L1 t186 (ji9)])) else(none)) else(none)) else(none)) else(spec_l3Step.j0 k a1 t186 ji9 y200 y211)) else(none))) else(none))=some r:=hz hy206 H
      have Ny206:=Sd.mk hy206
      clear hy206
      by_cases c15:y203.length+y206.length<5864062014805
      ·rw[if_pos c15] at H
       have LMc15:=Sd.mk c15
       clear c15
       obtain⟨y211,hy211⟩:∃ y_:List (List Int),y_=(y203++y206):=⟨_,rfl⟩
       replace H:(if(ji9)<(t183.length:Int) then(if(rd t183 (ji9))>1 then(if y200.length<17592186044416 then(if(ji9)<(t186.length:Int) then(if y211.length<5864062014805 then(spec_l3Step.j0 k a1 t186 ji9 (y200++[wrap64 ((rd t183 (ji9))-1)]) (y211++[rd_L1 t186 (ji9)])) else(none)) else(none)) else(none)) else(spec_l3Step.j0 k a1 t186 ji9 y200 y211)) else(none))=some r:=hz hy211 H
       have Ny211:=Sd.mk hy211
       clear hy211
       by_cases c16:(ji9)<(t183.length:Int)
       ·rw[if_pos c16] at H
        have c16b0:decide ((ji9)<(t183.length:Int))=true:=decide_eq_true c16
        clear c16
        have HC17:=Sd.mk H
        clear H
        go_enter Try.func32,Try.ntmps32
        go_upto_if 38 with (first|((with_reducible refine gate_callee (f:=46) rfl ?_);refine goesL_ (some 15) rfl rfl Try.func46 (by kernel_rfl) rfl #[.slice A0 l0.length c0] rfl az ?_;(with_reducible refine(spec_l1Terms.calls k (fun k_=>k_<w.heap.size) _ _ l0 t183 t186 _ ?side1 A3.out).mono ?_);(case side1=>exact Kd.V_mk HC0.out (Kd.F_below (Kd.C_F (Kd.heap_int .i64) HR0.out) bz));rintro e w18 ⟨v184,v187,rfl,ho0,ho1,hb⟩;refine⟨_,rfl,?_⟩;have HO185:=Sd.mk (Kd.R_lower (Kd.R_mono (ok':=fun k_=>True) ho0 (fun _ hk_=>trivial)) (below_size bz));have HO188:=Sd.mk (Kd.N_lower (Kd.N_mono (ok':=fun k_=>some k_≠(v184:Value).ownBlock) ho1 (fun k_ hk_=>hk_.2)) (below_size bz));replace HB:=Sd.mk (below_step bz hb);(try clear hb);(try clear hb2);(try clear hk);(try clear hi);(try clear ho0);(try clear ho1);obtain⟨Ao19,co19,eo19⟩:=Kd.R_slice HO185.out;subst eo19)|((with_reducible refine gate_dst (N:=24) rfl ?_);refine Kd.R_lit (Kd.int .i64) _ 3 ?hg (N:=24) ?hd (xs:=([]:List Int)) (inner:=[]) (ok:=fun _=>True) (okp:=fun _=>True) ?hr ?hp (fun _ hk=>hk) trivial (Below.refl _ _) (Nat.le_refl _) (by simp) ?_;(case hd=>rfl);(case hg=>rfl);(case hr=>first|(go_simp;done)|(go_simp;rfl));(case hp=>exact(Reps.none _ _));intro v193 w20 ho21 hb hg_ hnew_;clear hg_ hnew_;(first|rw[← Ny192.out] at ho21|(simp only[Int.reduceToNat] at ho21;rw[← Ny192.out] at ho21));replace HO188:=Sd.mk (Kd.N_elder' (Kd.Nz HO188.out) (Kd.R_base ho21) hb);have HO194:=Sd.mk (Kd.R_lower (Kd.R_new' ho21 (Kd.R_lt (Kd.Rz HO185.out))) (below_size bz));replace HO185:=Sd.mk (Kd.R_elder' (Kd.Rz HO185.out) (Kd.R_base ho21) hb);replace HB:=Sd.mk (below_step bz hb);clear hb ho21;have q22:((ji9):Int)≤((t183.length:Int):Int):=dz;obtain⟨i022,hi022,_,hsz22,_⟩:=info_parts info3;have hroom22:t183.length≤co19:=(Kd.R_reads' HO185.out).2.1;have hC22:Kd.F (Kd.int .i64) _ _ Ao19 t183.length t183:=(Kd.V_at (base:=w.heap.size) (Kd.R_V (Kd.R_apart' (HO185.out) (Kd.N_typed HO188.out) (by decide)))).2.2;have hcut22:=cut_to (P:=Try.prog) 22 3 .i64 Try.underlying22 hi022 Ao19 t183.length co19 (ji9) (dz) q22 hroom22;have hr22:=Kd.F_take (m:=((ji9):Int).toNat) hC22 (by omega);have hy22:y195.length=((ji9):Int).toNat:=(by rw[Ny195.out,List.length_take];omega);rw[← Ny195.out] at hr22;rw[← hy22] at hcut22;have HO199:=Sd.mk (show Kd.V (Kd.int .i64) 3 _ w.heap.size _ (.slice Ao19 y195.length co19) y195 from Kd.V_mk (by omega) hr22);have HC199:=Sd.mk (show y195.length≤co19 from by omega);clear hr22 hC22 hroom22 hi022 hsz22;have KY22:=Sd.mk hy22;clear hy22;replace q22:=eq_true q22)|((with_reducible refine gate_builtin (b:=.append) (xs:=#[.tmp 24,.tmp 27]) rfl ?_);at_builtin;refine Kd.R_append_rows (Kd.int .i64) (w0:=w) w.heap.size rfl (.tmp 24) (.tmp 27) 22 3 (.int .i64 0) 8 rfl Try.underlying22 info3 rfl (by decide) (by omega) v193 y192 y195 _ _ _ (fun k_=>some k_≠(.slice Ao19 t183.length co19:Value).ownBlock) (fun _=>False) rfl rfl ?aO ?aR (fun _ _ h=>h) (fun _ h=>h.elim) ?aF ?aB ?aS ?aL ?_;(case aR=>repeat (first|exact(Kd.V_reads' HO199.out).2.2|(with_reducible refine Kd.C_alloc ?_ _)|(with_reducible refine Kd.C_drewN ?_ _)|(with_reducible refine Kd.C_drew ?_)));(case aB=>exact bz);(case aF=>exact(fun k_ hk=>Kd.fresh' (Kd.R_lt (Kd.Rz HO185.out)) k_ hk));(case aO=>exact(Kd.Rz <| Kd.R_mono HO194.out (fun _ hk=>hk.2)));(case aS=>exact(below_size bz));(case aL=>have:=LMc12.out;omega);intro v201 w23 ho hb hg hat;rw[← Ny200.out] at ho;replace HO185:=Sd.mk (Kd.R_after (ok:=(fun _=>True)) (Kd.Rz HO185.out) hg hat);replace HO188:=Sd.mk (Kd.N_afterv (ok:=(fun k_=>some k_≠(.slice Ao19 t183.length co19:Value).ownBlock)) (Kd.Nz HO188.out) hg hat);replace HO199:=Sd.mk (Kd.V_afterv (ok:=(fun k_=>some k_≠(v187:Value).ownBlock)) (Kd.Vz <| Kd.V_mono HO199.out (fun _ hk=>⟨hk.2,hk.1.2⟩)) hg hat);replace HB:=Sd.mk (hb);have HO202:=Sd.mk (ho);clear HO194;clear ho hb hg hat)|((with_reducible refine gate_dst (N:=29) rfl ?_);refine Kd.N_lit (Kd.slice 3 (Kd.int .i64)) _ 22 ?hg (N':=29) ?hd (xs:=([]:List (List Int))) (inner:=[]) (ok:=(fun k_=>some k_≠(.slice Ao19 t183.length co19:Value).ownBlock∧some k_≠(v187:Value).ownBlock∧some k_≠(v201:Value).ownBlock)) (okp:=(fun k_=>some k_≠(.slice Ao19 t183.length co19:Value).ownBlock∧some k_≠(v187:Value).ownBlock∧some k_≠(v201:Value).ownBlock)) ?hr ?hp (fun _ hk=>hk) ((show ∀ k_,w23.heap.size≤k_→(fun k_=>some k_≠(.slice Ao19 t183.length co19:Value).ownBlock∧some k_≠(v187:Value).ownBlock∧some k_≠(v201:Value).ownBlock) k_ from fun k_ hk=>⟨Kd.fresh' (Kd.R_lt (Kd.Rz HO185.out)) k_ hk,Kd.fresh' (Kd.N_lt (Kd.Nz HO188.out)) k_ hk,Kd.fresh' (Kd.R_lt (Kd.Rz HO202.out)) k_ hk⟩) _ (Nat.le_refl _)) (Below.refl _ _) (Nat.le_refl _) (by simp) ?_;(case hd=>rfl);(case hg=>rfl);(case hr=>first|(go_simp;done)|(go_simp;rfl));(case hp=>exact(Reps.none _ _));intro v204 w24 ho25 hb hg_ hnew_;clear hg_ hnew_;(first|rw[← Ny203.out] at ho25|(simp only[Int.reduceToNat] at ho25;rw[← Ny203.out] at ho25));replace HO185:=Sd.mk (Kd.R_below (Kd.Rz HO185.out) hb);replace HO188:=Sd.mk (Kd.N_elder' (Kd.Nz HO188.out) (Kd.N_base ho25) hb);replace HO199:=Sd.mk (Kd.V_elder' (Kd.Vz HO199.out) (Kd.N_base ho25) hb);replace HO202:=Sd.mk (Kd.R_below (Kd.Rz HO202.out) hb);have HO205:=Sd.mk (Kd.N_lower ho25 (below_size bz));replace HB:=Sd.mk (below_step bz hb);clear hb ho25;obtain⟨Ao27,co27,eo27⟩:=Kd.N_slice HO188.out;subst eo27;have q26:((ji9):Int)≤((t186.length:Int):Int):=dz;obtain⟨i026,hi026,_,hsz26,_⟩:=info_parts info22;have hroom26:t186.length≤co27:=(Kd.N_reads' HO188.out).2.1;have hC26:Kd.F (Kd.slice 3 (Kd.int .i64)) _ _ Ao27 t186.length t186:=(Kd.V_at (base:=w.heap.size) (Kd.N_V HO188.out)).2.2;have hcut26:=cut_to (P:=Try.prog) 23 22 .i64 Try.underlying23 hi026 Ao27 t186.length co27 (ji9) (dz) q26 hroom26;have hr26:=Kd.F_take (m:=((ji9):Int).toNat) hC26 (by omega);have hy26:y206.length=((ji9):Int).toNat:=(by rw[Ny206.out,List.length_take];omega);rw[← Ny206.out] at hr26;rw[← hy26] at hcut26;have HO210:=Sd.mk (show Kd.V (Kd.slice 3 (Kd.int .i64)) 22 _ w.heap.size _ (.slice Ao27 y206.length co27) y206 from Kd.V_mk (by omega) hr26);have HC210:=Sd.mk (show y206.length≤co27 from by omega);clear hr26 hC26 hroom26 hi026 hsz26;have KY26:=Sd.mk hy26;clear hy26;replace q26:=eq_true q26)|((with_reducible refine gate_builtin (b:=.append) (xs:=#[.tmp 29,.tmp 32]) rfl ?_);at_builtin;refine Kd.N_append_rows (Kd.slice 3 (Kd.int .i64)) (w0:=w) w.heap.size rfl (.tmp 29) (.tmp 32) 23 22 (.slice none 0 0) 24 rfl Try.underlying23 info22 rfl (by decide) (by omega) v204 y203 y206 _ _ _ (fun k_=>some k_≠(.slice Ao19 t183.length co19:Value).ownBlock∧some k_≠(v201:Value).ownBlock) (fun k_=>((fun k_=>some k_≠(.slice Ao19 t183.length co19:Value).ownBlock∧some k_≠(v201:Value).ownBlock)) k_∧some k_≠(v204:Value).ownBlock) rfl rfl ?aO ?aR (fun _ hk=>hk) ?aF ?aB ?aS ?aL ?_;(case aR=>exact(by skip;exact Kd.V_F (Kd.V_mono (ok':=(fun k_=>((fun k_=>some k_≠(.slice Ao19 t183.length co19:Value).ownBlock∧some k_≠(v201:Value).ownBlock)) k_∧some k_≠(v204:Value).ownBlock)) (HO210.out) (fun k_ hk=>⟨⟨hk.1.1,hk.1.2⟩,hk.2⟩))));(case aB=>exact bz);(case aF=>exact(fun k_ hk=>⟨Kd.fresh' (Kd.R_lt (Kd.Rz HO185.out)) k_ hk,Kd.fresh' (Kd.R_lt (Kd.Rz HO202.out)) k_ hk⟩));(case aO=>exact(Kd.Nz <| Kd.N_mono HO205.out (fun _ hk=>⟨hk.1,hk.2.2⟩)));(case aS=>exact(below_size bz));(case aL=>have:=LMc15.out;omega);intro v212 w28 ho hb hg hat;rw[← Ny211.out] at ho;replace HO185:=Sd.mk (Kd.R_over' (Kd.Rz HO185.out) (Kd.N_typed (Kd.Nz HO205.out)) (by decide) hg);replace HO188:=Sd.mk (Kd.N_afterv (ok:=(fun k_=>some k_≠(.slice Ao19 t183.length co19:Value).ownBlock∧some k_≠(v201:Value).ownBlock)) (Kd.Nz HO188.out) hg hat);replace HO199:=Sd.mk (Kd.V_afterv (ok:=(fun k_=>some k_≠(.slice Ao27 t186.length co27:Value).ownBlock∧some k_≠(v201:Value).ownBlock)) (Kd.Vz HO199.out) hg hat);replace HO202:=Sd.mk (Kd.R_over' (Kd.Rz HO202.out) (Kd.N_typed (Kd.Nz HO205.out)) (by decide) hg);replace HO210:=Sd.mk (Kd.V_afterv (ok:=(fun k_=>some k_≠(.slice Ao19 t183.length co19:Value).ownBlock∧some k_≠(v201:Value).ownBlock)) (Kd.Vz HO210.out) hg hat);replace HB:=Sd.mk (hb);have HO213:=Sd.mk (ho);clear HO205;clear ho hb hg hat;have p214:0≤((ji9):Int):=dz;have q214:(ji9)<(t183.length:Int):=dz;obtain⟨ad214,e214,hx214_0⟩:=Kd.at_int (Kd.R_reads' HO185.out).2.2 (ji9) p214 q214;cases e214;replace p214:=eq_true p214;replace q214:=eq_true q214))
        (try simp only[Act.put,List.setIfInBounds_toArray,List.set_cons_zero,List.set_cons_succ])
        go_cut [8,9] (fun v8 v9 wc=>∃ (kq:Nat) (x8_16:List Int) (x9_16:List (List Int)),Sd (spec_l3Step.j0 kq a1 t186 ji9 x8_16 x9_16=some r)∧Sd (kq≤k)∧Sd (Kd.N (Kd.slice 3 (Kd.int .i64)) 22 wc w.heap.size (fun k_=>some k_≠(v8:Value).ownBlock∧some k_≠(v9:Value).ownBlock) (.slice Ao27 t186.length co27) t186)∧Sd (Kd.R (Kd.int .i64) 3 wc w.heap.size (fun _=>True) v8 x8_16)∧Sd (Kd.N (Kd.slice 3 (Kd.int .i64)) 22 wc w.heap.size (fun k_=>some k_≠(v8:Value).ownBlock) v9 x9_16)∧Sd (Below w.heap.size w wc))
        case first =>
         have H:=HC17.out
         clear HC17
         by_cases c29:(rd t183 (ji9))>1
         ·rw[if_pos c29] at H
          have c29b0:decide (1<(rd t183 (ji9)))=true:=decide_eq_true c29
          clear c29
          (first|rw[c29b0]|(simp only[i64_w,i32_w];rw[c29b0])|skip)
          by_cases c30:y200.length<17592186044416
          ·rw[if_pos c30] at H
           have LMc30:=Sd.mk c30
           clear c30
           obtain⟨y216,hy216⟩:∃ y_:List Int,y_=(y200++[wrap64 ((rd t183 (ji9))-1)]):=⟨_,rfl⟩
           replace H:(if(ji9)<(t186.length:Int) then(if y211.length<5864062014805 then(spec_l3Step.j0 k a1 t186 ji9 y216 (y211++[rd_L1 t186 (ji9)])) else(none)) else(none))=some r:=hz hy216 H
           have Ny216:=Sd.mk hy216
           clear hy216
           by_cases c31:(ji9)<(t186.length:Int)
           ·rw[if_pos c31] at H
            have c31b0:decide ((ji9)<(t186.length:Int))=true:=decide_eq_true c31
            clear c31
            by_cases c32:y211.length<5864062014805
            ·rw[if_pos c32] at H
             have LMc32:=Sd.mk c32
             clear c32
             obtain⟨y220,hy220⟩:∃ y_:List (List Int),y_=(y211++[rd_L1 t186 (ji9)]):=⟨_,rfl⟩
             replace H:(spec_l3Step.j0 k a1 t186 ji9 y216 y220)=some r:=hz hy220 H
             have Ny220:=Sd.mk hy220
             clear hy220
             have H':=Sd.mk H
             clear H
             have p215:0≤((ji9):Int):=dz
             have q215:(ji9)<(t183.length:Int):=dz
             obtain⟨ad215,e215,hx215_0⟩:=Kd.at_int (Kd.R_reads' HO185.out).2.2 (ji9) p215 q215
             obtain rfl:ad214=ad215:=(by injection e215)
             replace p215:=eq_true p215
             replace q215:=eq_true q215
             go_wp2_with (first|((with_reducible refine gate_builtin (b:=.append) (xs:=#[.tmp 39,.tmp 45]) rfl ?_);at_builtin;refine Kd.R_append (Kd.int .i64) (w0:=w) w.heap.size rfl (.tmp 39) (.tmp 45) 22 3 (.int .i64 0) 8 rfl Try.underlying22 info3 rfl (by decide) (by omega) v201 y200 (wrap64 ((rd t183 (ji9))-1)) [.int .i64 (wrap64 ((rd t183 (ji9))-1))] (fun k_=>some k_≠(.slice (some ad214) t183.length co19:Value).ownBlock) (fun _=>False) rfl rfl ?aP (fun _ hk=>hk.elim) ?aF ?aO ?aB ?aS ?aL ?_;(case aP=>exact rfl);(case aB=>exact bz);(case aF=>exact(fun k_ hk=>Kd.fresh' (Kd.R_lt (Kd.Rz HO185.out)) k_ hk));(case aO=>exact(Kd.Rz HO202.out));(case aS=>exact(below_size bz));(case aL=>have:=LMc30.out;omega);intro v217 w33 ho hb hg hat;rw[← Ny216.out] at ho;replace HO185:=Sd.mk (Kd.R_after (ok:=(fun _=>True)) (Kd.Rz HO185.out) hg hat);replace HO188:=Sd.mk (Kd.N_afterv (ok:=(fun k_=>some k_≠(.slice (some ad214) t183.length co19:Value).ownBlock∧some k_≠(v212:Value).ownBlock)) (Kd.Nz <| Kd.N_mono HO188.out (fun _ hk=>⟨⟨hk.1.1,hk.2⟩,hk.1.2⟩)) hg hat);replace HO199:=Sd.mk (Kd.V_afterv (ok:=(fun k_=>some k_≠(.slice Ao27 t186.length co27:Value).ownBlock∧some k_≠(v212:Value).ownBlock)) (Kd.Vz <| Kd.V_mono HO199.out (fun _ hk=>⟨⟨hk.1.1,hk.2⟩,hk.1.2⟩)) hg hat);replace HO210:=Sd.mk (Kd.V_afterv (ok:=(fun k_=>some k_≠(.slice (some ad214) t183.length co19:Value).ownBlock∧some k_≠(v212:Value).ownBlock)) (Kd.Vz <| Kd.V_mono HO210.out (fun _ hk=>⟨⟨hk.1.1,hk.2⟩,hk.1.2⟩)) hg hat);replace HO213:=Sd.mk (Kd.N_afterv (ok:=(fun k_=>some k_≠(.slice (some ad214) t183.length co19:Value).ownBlock)) (Kd.Nz HO213.out) hg hat);replace HB:=Sd.mk (hb);have HO218:=Sd.mk (ho);clear HO202;clear ho hb hg hat;have p219:0≤((ji9):Int):=dz;have q219:(ji9)<(t186.length:Int):=dz;obtain⟨ad219,A219_0,c219_0,e219,hx219_0,hl219_0,hi219_0⟩:=at_L1 (Kd.N_reads' HO188.out).2.2 (ji9) p219 q219;cases e219;obtain⟨ce219,hce219,hMe219,hcc219⟩:=Kd.N_get HO188.out [] (ji9) p219 (by first|exact q219|exact dz|(have e_:=(Kd.N_reads' HO188.out).1;omega));obtain⟨ua219_0,uc219_0,rfl,ul219_0,ge219_0⟩:=Kd.FK_slice_open hMe219;have hv219_0:=hcc219 0 _ rfl;rw[Nat.add_zero,show ((Kd.slice 3 (Kd.int .i64))).sz=1 from rfl,Nat.mul_one] at hv219_0;replace hv219_0:=Option.some.inj (hv219_0.symm.trans hx219_0);injection hv219_0 with hva_ hvn_ hvc_;rw[hva_] at ge219_0;rw[hvc_] at ul219_0;have HL219_0:=Sd.mk (show Kd.V (Kd.int .i64) 3 _ w.heap.size _ _ (rd_L1 t186 (ji9)) from Kd.V_mk ul219_0 ge219_0);clear hva_ hvn_ hvc_ ge219_0 ul219_0;clear hcc219 hce219;have HR219_0:=Sd.mk hi219_0;have HC219_0:=Sd.mk hl219_0;clear hi219_0 hl219_0;replace p219:=eq_true p219;replace q219:=eq_true q219)|((with_reducible refine gate_builtin (b:=.append) (xs:=#[.tmp 47,.tmp 52]) rfl ?_);at_builtin;refine Kd.N_append (Kd.slice 3 (Kd.int .i64)) (w0:=w) w.heap.size rfl (.tmp 47) (.tmp 52) 23 22 (.slice none 0 0) 24 rfl Try.underlying23 info22 rfl (by decide) (by omega) v212 y211 (rd_L1 t186 (ji9)) [.slice A219_0 (rd_L1 t186 (ji9)).length c219_0] (fun k_=>some k_≠(.slice (some ad214) t183.length co19:Value).ownBlock∧some k_≠(v217:Value).ownBlock) (fun k_=>((fun k_=>some k_≠(.slice (some ad214) t183.length co19:Value).ownBlock∧some k_≠(v217:Value).ownBlock)) k_∧some k_≠(v212:Value).ownBlock) rfl rfl ?aP (fun _ hk=>hk) ?aF ?aO ?aB ?aS ?aL ?_;(case aP=>exact(Kd.FK_slice_mk (Kd.V_reads' (Kd.V_mono (ok':=(fun k_=>((fun k_=>some k_≠(.slice (some ad214) t183.length co19:Value).ownBlock∧some k_≠(v217:Value).ownBlock)) k_∧some k_≠(v212:Value).ownBlock)) (HL219_0.out) (fun k_ hk=>⟨⟨hk.1.1.1,hk.1.2⟩,hk.1.1.2⟩))).2.1 (Kd.V_F (Kd.V_mono (ok':=(fun k_=>((fun k_=>some k_≠(.slice (some ad214) t183.length co19:Value).ownBlock∧some k_≠(v217:Value).ownBlock)) k_∧some k_≠(v212:Value).ownBlock)) (HL219_0.out) (fun k_ hk=>⟨⟨hk.1.1.1,hk.1.2⟩,hk.1.1.2⟩)))));(case aB=>exact bz);(case aF=>exact(fun k_ hk=>⟨Kd.fresh' (Kd.R_lt (Kd.Rz HO185.out)) k_ hk,Kd.fresh' (Kd.R_lt (Kd.Rz HO218.out)) k_ hk⟩));(case aO=>exact(Kd.Nz HO213.out));(case aS=>exact(below_size bz));(case aL=>have:=LMc32.out;omega);intro v221 w34 ho hb hg hat;rw[← Ny220.out] at ho;replace HO185:=Sd.mk (Kd.R_over' (Kd.Rz HO185.out) (Kd.N_typed (Kd.Nz HO213.out)) (by decide) hg);replace HO188:=Sd.mk (Kd.N_afterv (ok:=(fun k_=>some k_≠(.slice (some ad214) t183.length co19:Value).ownBlock∧some k_≠(v217:Value).ownBlock)) (Kd.Nz <| Kd.N_mono HO188.out (fun _ hk=>⟨⟨hk.1.1,hk.2⟩,hk.1.2⟩)) hg hat);replace HO199:=Sd.mk (Kd.V_afterv (ok:=(fun k_=>some k_≠(.slice (some ad219) t186.length co27:Value).ownBlock∧some k_≠(v217:Value).ownBlock)) (Kd.Vz <| Kd.V_mono HO199.out (fun _ hk=>⟨⟨hk.1.1,hk.2⟩,hk.1.2⟩)) hg hat);replace HO210:=Sd.mk (Kd.V_afterv (ok:=(fun k_=>some k_≠(.slice (some ad214) t183.length co19:Value).ownBlock∧some k_≠(v217:Value).ownBlock)) (Kd.Vz <| Kd.V_mono HO210.out (fun _ hk=>⟨⟨hk.1.1,hk.2⟩,hk.1.2⟩)) hg hat);replace HO218:=Sd.mk (Kd.R_over' (Kd.Rz HO218.out) (Kd.N_typed (Kd.Nz HO213.out)) (by decide) hg);replace HL219_0:=Sd.mk (Kd.V_afterv (ok:=(fun k_=>some k_≠(.slice (some ad214) t183.length co19:Value).ownBlock∧some k_≠(.slice (some ad219) t186.length co27:Value).ownBlock∧some k_≠(v217:Value).ownBlock)) (Kd.Vz <| Kd.V_mono HL219_0.out (fun _ hk=>⟨⟨hk.1.1.1,⟨hk.2,hk.1.2⟩⟩,hk.1.1.2⟩)) hg hat);replace HB:=Sd.mk (hb);have HO222:=Sd.mk (ho);clear HO213;clear ho hb hg hat))
             go_meet
             case rel=>exact⟨_,(y216),(y220),H',⟨by first|omega|exact Nat.le_refl _⟩,⟨Kd.Nz <| Kd.N_mono HO188.out (fun _ hk=>⟨hk.1.2,hk.2⟩)⟩,⟨Kd.Rz <| Kd.R_mono HO218.out (fun _ hk=>trivial)⟩,⟨Kd.Nz <| Kd.N_mono HO222.out (fun _ hk=>hk.2)⟩,⟨bz⟩⟩
            ·rw[if_neg c32] at H
             exact absurd H (by simp)
           ·rw[if_neg c31] at H
            exact absurd H (by simp)
          ·rw[if_neg c30] at H
           exact absurd H (by simp)
         ·rw[if_neg c29] at H
          have c29b0:decide (1<(rd t183 (ji9)))=false:=decide_eq_false c29
          clear c29
          (first|rw[c29b0]|(simp only[i64_w,i32_w];rw[c29b0])|skip)
          have H':=Sd.mk H
          clear H
          go_wp2
          go_meet
          case rel=>exact⟨_,(y200),(y211),H',⟨by first|omega|exact Nat.le_refl _⟩,⟨Kd.Nz <| Kd.N_mono HO188.out (fun _ hk=>⟨hk.1.2,hk.2⟩)⟩,⟨Kd.Rz <| Kd.R_mono HO202.out (fun _ hk=>trivial)⟩,⟨Kd.Nz <| Kd.N_mono HO213.out (fun _ hk=>hk.2)⟩,⟨bz⟩⟩
        case rest =>
         clear HC17
         try clear c1
         try clear c2
         try clear p2
         try clear q2
         try clear hx2
         try clear c3
         try clear c4
         try clear c4b0
         try clear p6
         try clear c10
         try clear c10b0
         try clear c10b1
         try clear c11
         try clear c11b0
         try clear c11b1
         try clear c12
         try clear c13
         try clear c13b0
         try clear c14
         try clear c14b0
         try clear c14b1
         try clear c15
         try clear c16
         try clear c16b0
         try clear c21
         try clear p21
         try clear q21
         try clear hx21
         try clear q22
         try clear q26
         try clear c29
         try clear c29b0
         try clear c30
         try clear c31
         try clear c31b0
         try clear c32
         try clear hx214_0
         try clear hx215_0
         try clear hx219_0
         try clear p214
         try clear p215
         try clear p219
         try clear q214
         try clear q215
         try clear q219
         try clear q22
         try clear q26
         obtain⟨kq,x8_16,x9_16,HA,HJ16,HO_6,HO_8,HO_9,HB⟩:=hcut
         cases kq with
         | zero=>exact absurd HA.out (by simp[spec_l3Step.j0])
         | succ kj16 =>
          have H:=HA.out
          clear HA
          simp only[spec_l3Step.j0] at H
          by_cases c35:0≤ji9
          ·rw[if_pos c35] at H
           have c35b0:decide (0≤ji9)=true:=decide_eq_true c35
           clear c35
           by_cases c36:ji9<(t186.length:Int)
           ·rw[if_pos c36] at H
            have c36b0:decide (ji9<(t186.length:Int))=true:=decide_eq_true c36
            clear c36
            by_cases c37:((rd_L1 t186 ji9).length:Int)=1
            ·rw[if_pos c37] at H
             have c37b0:(((rd_L1 t186 ji9).length:Int) == 1)=true:=beq_iff_eq.mpr c37
             have c37b1:(((rd_L1 t186 ji9).length:Int) != 1)=false:=bne_eq_false_iff_eq.mpr c37
             clear c37
             replace H:=Option.bind_eq_some_iff.mp H
             obtain⟨t224,A380,H⟩:=H
             replace H:(some t224)=some r:=H
             have A38:=Sd.mk A380
             clear A380
             obtain rfl:=Option.some.inj H
             have p223:0≤(ji9:Int):=dz
             have q223:ji9<(t186.length:Int):=dz
             obtain⟨ad223,A223_0,c223_0,e223,hx223_0,hl223_0,hi223_0⟩:=at_L1 (Kd.N_reads' HO_6.out).2.2 ji9 p223 q223
             cases e223
             obtain⟨ce223,hce223,hMe223,hcc223⟩:=Kd.N_get HO_6.out [] ji9 p223 (by first|exact q223|exact dz|(have e_:=(Kd.N_reads' HO_6.out).1;omega))
             obtain⟨ua223_0,uc223_0,rfl,ul223_0,ge223_0⟩:=Kd.FK_slice_open hMe223
             have hv223_0:=hcc223 0 _ rfl
             rw[Nat.add_zero,show ((Kd.slice 3 (Kd.int .i64))).sz=1 from rfl,Nat.mul_one] at hv223_0
             replace hv223_0:=Option.some.inj (hv223_0.symm.trans hx223_0)
             injection hv223_0 with hva_ hvn_ hvc_
             rw[hva_] at ge223_0
             rw[hvc_] at ul223_0
             have HL223_0:=Sd.mk (show Kd.V (Kd.int .i64) 3 _ w.heap.size _ _ (rd_L1 t186 ji9) from Kd.V_mk ul223_0 ge223_0)
             clear hva_ hvn_ hvc_ ge223_0 ul223_0
             clear hcc223 hce223
             have HR223_0:=Sd.mk hi223_0
             have HC223_0:=Sd.mk hl223_0
             clear hi223_0 hl223_0
             replace p223:=eq_true p223
             replace q223:=eq_true q223
             obtain⟨Ao39,co39,eo39⟩:=Kd.R_slice HO_8.out
             subst eo39
             obtain⟨Ao40,co40,eo40⟩:=Kd.N_slice HO_9.out
             subst eo40
             go_wp2_with (first|((with_reducible refine gate_callee (f:=47) rfl ?_);refine goesL_ (some 63) rfl rfl Try.func47 (by kernel_rfl) rfl #[.slice Ao39 x8_16.length co39,.slice Ao40 x9_16.length co40] rfl az ?_;(with_reducible refine(spec_l1Make.calls kj16 _ _ x8_16 _ _ x9_16 t224 _ ?side1 ?side2 ?side3 ?side4 A38.out).mono ?_);(case side1=>exact Kd.Cz (Kd.R_reads' HO_8.out).2.2);(case side2=>exact(Kd.R_reads' HO_8.out).2.1);(case side3=>exact Kd.Cz (Kd.N_reads' HO_9.out).2.2);(case side4=>exact(Kd.N_reads' HO_9.out).2.1);rintro e w41 ⟨v225,rfl,ho0,hb⟩;refine⟨_,rfl,?_⟩;replace HO_6:=Sd.mk (Kd.N_elder' (Kd.Nz HO_6.out) (Kd.R_base ho0) hb);replace HO_9:=Sd.mk (Kd.N_elder' (Kd.Nz HO_9.out) (Kd.R_base ho0) hb);replace HL223_0:=Sd.mk (Kd.V_elder' (Kd.Vz HL223_0.out) (Kd.R_base ho0) hb);have HO226:=Sd.mk (Kd.R_lower (Kd.R_new' ho0 (Kd.R_lt (Kd.Rz HO_8.out))) (below_size bz));replace HO_8:=Sd.mk (Kd.R_elder' (Kd.Rz HO_8.out) (Kd.R_base ho0) hb);replace HR223_0:=Sd.mk (Kd.C_below (Kd.Cz HR223_0.out) hb);replace HB:=Sd.mk (below_step bz hb);(try clear hb);(try clear hb2);(try clear hk);(try clear hi);(try clear ho0)))
             go_ret
             exact⟨_,by first|rfl|(simp[errW_none,errW_some]<;>rfl)|(simp only[← hji9];first|rfl|(simp[errW_none,errW_some]<;>rfl))|(simp[*,errW_none,errW_some]<;>rfl),Kd.Rz <| Kd.R_mono HO226.out (fun _ hk=>trivial),bz⟩
            ·rw[if_neg c37] at H
             have c37b0:(((rd_L1 t186 ji9).length:Int) == 1)=false:=beq_eq_false_iff_ne.mpr c37
             have c37b1:(((rd_L1 t186 ji9).length:Int) != 1)=true:=bne_iff_ne.mpr c37
             replace H:=Option.bind_eq_some_iff.mp H
             obtain⟨⟨t227,t230⟩,A420,H⟩:=H
             replace H:(if 0≤(wrap64 ((t230.length:Int)-1)) then(if(wrap64 ((t230.length:Int)-1))<(t230.length:Int) then(if((rd_L1 t230 (wrap64 ((t230.length:Int)-1))).length:Int)=1 then(if a1>0 then(if x8_16.length<17592186044416 then((spec_l3Step.f kj16 (rd_L1 t186 ji9) a1).bind fun t237=>(if x9_16.length<5864062014805 then((spec_l1Make.f kj16 (x8_16++[a1]) (x9_16++[t237])).bind fun t243=>(some t243)) else(none))) else(none)) else((spec_l1Make.f kj16 x8_16 x9_16).bind fun t246=>(some t246))) else(if x8_16.length<17592186044416 then((spec_l3Step.f kj16 (rd_L1 t186 ji9) a1).bind fun t252=>(if x9_16.length<5864062014805 then((spec_l1Make.f kj16 (x8_16++[1]) (x9_16++[t252])).bind fun t258=>(some t258)) else(none))) else(none))) else(none)) else(none))=some r:=H
             have A42:=Sd.mk A420
             clear A420
             obtain⟨ji43,hji43⟩:∃ j_:Int,(wrap64 ((t230.length:Int)-1))=j_:=⟨_,rfl⟩
             replace H:(if 0≤(ji43) then(if(ji43)<(t230.length:Int) then(if((rd_L1 t230 (ji43)).length:Int)=1 then(if a1>0 then(if x8_16.length<17592186044416 then((spec_l3Step.f kj16 (rd_L1 t186 ji9) a1).bind fun t237=>(if x9_16.length<5864062014805 then((spec_l1Make.f kj16 (x8_16++[a1]) (x9_16++[t237])).bind fun t243=>(some t243)) else(none))) else(none)) else((spec_l1Make.f kj16 x8_16 x9_16).bind fun t246=>(some t246))) else(if x8_16.length<17592186044416 then((spec_l3Step.f kj16 (rd_L1 t186 ji9) a1).bind fun t252=>(if x9_16.length<5864062014805 then((spec_l1Make.f kj16 (x8_16++[1]) (x9_16++[t252])).bind fun t258=>(some t258)) else(none))) else(none))) else(none)) else(none))=some r:=by first|(rw[hji43] at H;exact H)|(simp only[hji43] at H ⊢;exact H)
             (try rw[hji43] at A42)
             have hji43w:(IntKind.i64.wrap ((t230.length:Int)-1))=ji43:=(i64_w _).trans hji43
             by_cases c44:0≤(ji43)
             ·rw[if_pos c44] at H
              have c44b0:decide (0≤(ji43))=true:=decide_eq_true c44
              clear c44
              by_cases c45:(ji43)<(t230.length:Int)
              ·rw[if_pos c45] at H
               have c45b0:decide ((ji43)<(t230.length:Int))=true:=decide_eq_true c45
               clear c45
               by_cases c46:((rd_L1 t230 (ji43)).length:Int)=1
               ·rw[if_pos c46] at H
                have c46b0:(((rd_L1 t230 (ji43)).length:Int) == 1)=true:=beq_iff_eq.mpr c46
                have c46b1:(((rd_L1 t230 (ji43)).length:Int) != 1)=false:=bne_eq_false_iff_eq.mpr c46
                clear c46
                by_cases c47:a1>0
                ·rw[if_pos c47] at H
                 have c47b0:decide (0<a1)=true:=decide_eq_true c47
                 clear c47
                 by_cases c48:x8_16.length<17592186044416
                 ·rw[if_pos c48] at H
                  have LMc48:=Sd.mk c48
                  clear c48
                  obtain⟨y234,hy234⟩:∃ y_:List Int,y_=(x8_16++[a1]):=⟨_,rfl⟩
                  replace H:((spec_l3Step.f kj16 (rd_L1 t186 ji9) a1).bind fun t237=>(if x9_16.length<5864062014805 then((spec_l1Make.f kj16 y234 (x9_16++[t237])).bind fun t243=>(some t243)) else(none)))=some r:=hz hy234 H
                  have Ny234:=Sd.mk hy234
                  clear hy234
                  replace H:=Option.bind_eq_some_iff.mp H
                  obtain⟨t237,A490,H⟩:=H
                  replace H:(if x9_16.length<5864062014805 then((spec_l1Make.f kj16 y234 (x9_16++[t237])).bind fun t243=>(some t243)) else(none))=some r:=H
                  have A49:=Sd.mk A490
                  clear A490
                  by_cases c50:x9_16.length<5864062014805
                  ·rw[if_pos c50] at H
                   have LMc50:=Sd.mk c50
                   clear c50
                   obtain⟨y240,hy240⟩:∃ y_:List (List Int),y_=(x9_16++[t237]):=⟨_,rfl⟩
                   replace H:((spec_l1Make.f kj16 y234 y240).bind fun t243=>(some t243))=some r:=hz hy240 H
                   have Ny240:=Sd.mk hy240
                   clear hy240
                   replace H:=Option.bind_eq_some_iff.mp H
                   obtain⟨t243,A510,H⟩:=H
                   replace H:(some t243)=some r:=H
                   have A51:=Sd.mk A510
                   clear A510
                   obtain rfl:=Option.some.inj H
                   have p223:0≤(ji9:Int):=dz
                   have q223:ji9<(t186.length:Int):=dz
                   obtain⟨ad223,A223_0,c223_0,e223,hx223_0,hl223_0,hi223_0⟩:=at_L1 (Kd.N_reads' HO_6.out).2.2 ji9 p223 q223
                   cases e223
                   obtain⟨ce223,hce223,hMe223,hcc223⟩:=Kd.N_get HO_6.out [] ji9 p223 (by first|exact q223|exact dz|(have e_:=(Kd.N_reads' HO_6.out).1;omega))
                   obtain⟨ua223_0,uc223_0,rfl,ul223_0,ge223_0⟩:=Kd.FK_slice_open hMe223
                   have hv223_0:=hcc223 0 _ rfl
                   rw[Nat.add_zero,show ((Kd.slice 3 (Kd.int .i64))).sz=1 from rfl,Nat.mul_one] at hv223_0
                   replace hv223_0:=Option.some.inj (hv223_0.symm.trans hx223_0)
                   injection hv223_0 with hva_ hvn_ hvc_
                   rw[hva_] at ge223_0
                   rw[hvc_] at ul223_0
                   have HL223_0:=Sd.mk (show Kd.V (Kd.int .i64) 3 _ w.heap.size _ _ (rd_L1 t186 ji9) from Kd.V_mk ul223_0 ge223_0)
                   clear hva_ hvn_ hvc_ ge223_0 ul223_0
                   clear hcc223 hce223
                   have HR223_0:=Sd.mk hi223_0
                   have HC223_0:=Sd.mk hl223_0
                   clear hi223_0 hl223_0
                   replace p223:=eq_true p223
                   replace q223:=eq_true q223
                   go_wp2_with (first|((with_reducible refine gate_callee (f:=46) rfl ?_);refine goesL_ (some 66) rfl rfl Try.func46 (by kernel_rfl) rfl #[.slice A223_0 (rd_L1 t186 ji9).length c223_0] rfl (by(try simp only[List.map_toArray,List.map_cons,List.map_nil]);first|done|(simp only[hji9];rfl)|rfl|(simp only[List.length_drop,List.length_take];rfl)) ?_;(with_reducible refine(spec_l1Terms.calls kj16 (fun k_=>((some k_≠(u8:Value).ownBlock∧some k_≠(u9:Value).ownBlock)∧some k_≠(.slice (some ad223) t186.length co27:Value).ownBlock)) _ _ (rd_L1 t186 ji9) t227 t230 _ ?side1 A42.out).mono ?_);(case side1=>exact HL223_0.out);rintro e w52 ⟨v228,v231,rfl,ho0,ho1,hb⟩;refine⟨_,rfl,?_⟩;replace HL223_0:=Sd.mk (Kd.V_mono (Kd.V_told (Kd.V_told (Kd.V_old (Kd.Vz HL223_0.out) hb) (Kd.R_base ho0)) (Kd.N_base ho1)) (fun _ h_=>h_.1));have HO229:=Sd.mk (Kd.R_lower (Kd.R_new' (Kd.R_mono (ok':=fun k_=>True) ho0 (fun _ hk_=>trivial)) (Kd.R_lt (Kd.Rz HO_8.out))) (below_size bz));have HO232:=Sd.mk (Kd.N_lower (Kd.N_mono (ok':=fun k_=>some k_≠(v228:Value).ownBlock∧some k_≠(.slice (some ad223) t186.length co27:Value).ownBlock∧some k_≠(u8:Value).ownBlock∧some k_≠(u9:Value).ownBlock) ho1 (fun k_ hk_=>⟨hk_.2,Or.elim hk_.1 (fun hs_=>hs_.2) (fun hn_=>(Kd.fresh' (Kd.N_lt (Kd.Nz HO_6.out)) k_ hn_)),Or.elim hk_.1 (fun hs_=>hs_.1.1) (fun hn_=>(Kd.fresh' (Kd.R_lt (Kd.Rz HO_8.out)) k_ hn_)),Or.elim hk_.1 (fun hs_=>hs_.1.2) (fun hn_=>(Kd.fresh' (Kd.N_lt (Kd.Nz HO_9.out)) k_ hn_))⟩)) (below_size bz));replace HO_6:=Sd.mk (Kd.N_mono (Kd.N_told (Kd.N_told (Kd.N_old (Kd.Nz HO_6.out) hb) (Kd.R_base ho0)) (Kd.N_base ho1)) (fun _ h_=>h_.1));replace HO_8:=Sd.mk (Kd.R_elder' (Kd.Rz HO_8.out) (Kd.R_base ho0) hb);replace HO_9:=Sd.mk (Kd.N_mono (Kd.N_told (Kd.N_told (Kd.N_old (Kd.Nz HO_9.out) hb) (Kd.R_base ho0)) (Kd.N_base ho1)) (fun _ h_=>h_.1));replace HR223_0:=Sd.mk (Kd.C_below (Kd.Cz HR223_0.out) hb);replace HB:=Sd.mk (below_step bz hb);(try clear hb);(try clear hb2);(try clear hk);(try clear hi);(try clear ho0);(try clear ho1);obtain⟨Ao53,co53,eo53⟩:=Kd.N_slice HO232.out;subst eo53;have p233:0≤((ji43):Int):=dz;have q233:(ji43)<(t230.length:Int):=dz;obtain⟨ad233,A233_0,c233_0,e233,hx233_0,hl233_0,hi233_0⟩:=at_L1 (Kd.N_reads' HO232.out).2.2 (ji43) p233 q233;cases e233;obtain⟨ce233,hce233,hMe233,hcc233⟩:=Kd.N_get HO232.out [] (ji43) p233 (by first|exact q233|exact dz|(have e_:=(Kd.N_reads' HO232.out).1;omega));obtain⟨ua233_0,uc233_0,rfl,ul233_0,ge233_0⟩:=Kd.FK_slice_open hMe233;have hv233_0:=hcc233 0 _ rfl;rw[Nat.add_zero,show ((Kd.slice 3 (Kd.int .i64))).sz=1 from rfl,Nat.mul_one] at hv233_0;replace hv233_0:=Option.some.inj (hv233_0.symm.trans hx233_0);injection hv233_0 with hva_ hvn_ hvc_;rw[hva_] at ge233_0;rw[hvc_] at ul233_0;have HL233_0:=Sd.mk (show Kd.V (Kd.int .i64) 3 _ w.heap.size _ _ (rd_L1 t230 (ji43)) from Kd.V_mk ul233_0 ge233_0);clear hva_ hvn_ hvc_ ge233_0 ul233_0;clear hcc233 hce233;have HR233_0:=Sd.mk hi233_0;have HC233_0:=Sd.mk hl233_0;clear hi233_0 hl233_0;replace p233:=eq_true p233;replace q233:=eq_true q233)|((with_reducible refine gate_builtin (b:=.append) (xs:=#[.tmp 79,.tmp 81]) rfl ?_);at_builtin;refine Kd.R_append (Kd.int .i64) (w0:=w) w.heap.size rfl (.tmp 79) (.tmp 81) 22 3 (.int .i64 0) 8 rfl Try.underlying22 info3 rfl (by decide) (by omega) u8 x8_16 a1 [.int .i64 a1] (fun k_=>some k_≠(v228:Value).ownBlock) (fun _=>False) rfl rfl ?aP (fun _ hk=>hk.elim) ?aF ?aO ?aB ?aS ?aL ?_;(case aP=>exact rfl);(case aB=>exact bz);(case aF=>exact(fun k_ hk=>Kd.fresh' (Kd.R_lt (Kd.Rz HO229.out)) k_ hk));(case aO=>exact(Kd.Rz <| Kd.R_mono HO_8.out (fun _ hk=>hk.2)));(case aS=>exact(below_size bz));(case aL=>have:=LMc48.out;omega);intro v235 w54 ho hb hg hat;rw[← Ny234.out] at ho;replace HO_6:=Sd.mk (Kd.N_afterv (ok:=(fun k_=>some k_≠(u9:Value).ownBlock∧some k_≠(v228:Value).ownBlock∧some k_≠(.slice (some ad233) t230.length co53:Value).ownBlock)) (Kd.Nz <| Kd.N_mono HO_6.out (fun _ hk=>⟨⟨hk.1.1.2,⟨hk.1.2,hk.2⟩⟩,hk.1.1.1⟩)) hg hat);replace HO_9:=Sd.mk (Kd.N_afterv (ok:=(fun k_=>some k_≠(v228:Value).ownBlock∧some k_≠(.slice (some ad233) t230.length co53:Value).ownBlock)) (Kd.Nz <| Kd.N_mono HO_9.out (fun _ hk=>⟨⟨hk.1.2,hk.2⟩,hk.1.1⟩)) hg hat);replace HL223_0:=Sd.mk (Kd.V_afterv (ok:=(fun k_=>some k_≠(.slice (some ad223) t186.length co27:Value).ownBlock∧some k_≠(u9:Value).ownBlock∧some k_≠(v228:Value).ownBlock∧some k_≠(.slice (some ad233) t230.length co53:Value).ownBlock)) (Kd.Vz <| Kd.V_mono HL223_0.out (fun _ hk=>⟨⟨hk.1.1.2,⟨hk.1.1.1.2,⟨hk.1.2,hk.2⟩⟩⟩,hk.1.1.1.1⟩)) hg hat);replace HO229:=Sd.mk (Kd.R_after (ok:=(fun _=>True)) (Kd.Rz HO229.out) hg hat);replace HO232:=Sd.mk (Kd.N_afterv (ok:=(fun k_=>some k_≠(.slice (some ad223) t186.length co27:Value).ownBlock∧some k_≠(u9:Value).ownBlock∧some k_≠(v228:Value).ownBlock)) (Kd.Nz <| Kd.N_mono HO232.out (fun _ hk=>⟨⟨hk.2.1,⟨hk.2.2.2,hk.1⟩⟩,hk.2.2.1⟩)) hg hat);replace HL233_0:=Sd.mk (Kd.V_afterv (ok:=(fun k_=>some k_≠(.slice (some ad223) t186.length co27:Value).ownBlock∧some k_≠(u9:Value).ownBlock∧some k_≠(v228:Value).ownBlock∧some k_≠(.slice (some ad233) t230.length co53:Value).ownBlock)) (Kd.Vz <| Kd.V_mono HL233_0.out (fun _ hk=>⟨⟨hk.1.2.1,⟨hk.1.2.2.2,⟨hk.1.1,hk.2⟩⟩⟩,hk.1.2.2.1⟩)) hg hat);replace HB:=Sd.mk (hb);have HO236:=Sd.mk (ho);clear HO_8;clear ho hb hg hat)|((with_reducible refine gate_callee (f:=32) rfl ?_);refine goesL_ (some 86) rfl rfl Try.func32 (by kernel_rfl) rfl #[.slice A223_0 (rd_L1 t186 ji9).length c223_0,.int .i64 a1] rfl (by(try simp only[List.map_toArray,List.map_cons,List.map_nil]);first|done|(simp only[hji9];rfl)|rfl|(simp only[List.length_drop,List.length_take];rfl)) ?_;(with_reducible refine(ih kj16 (by have:=HJ16.out;omega) _ _ (rd_L1 t186 ji9) a1 t237 _ ?side1 ?side2 A49.out).mono ?_);(case side1=>repeat (first|exact((Kd.V_reads' (Kd.Vz HL223_0.out)).2.2)|(with_reducible refine Kd.C_alloc ?_ _)|(with_reducible refine Kd.C_drewN ?_ _)|(with_reducible refine Kd.C_drew ?_)));(case side2=>exact HC223_0.out);rintro e w55 ⟨v238,rfl,ho0,hb⟩;refine⟨_,rfl,?_⟩;replace HO_6:=Sd.mk (Kd.N_elder' (Kd.Nz HO_6.out) (Kd.R_base ho0) hb);replace HO_9:=Sd.mk (Kd.N_elder' (Kd.Nz HO_9.out) (Kd.R_base ho0) hb);replace HL223_0:=Sd.mk (Kd.V_elder' (Kd.Vz HL223_0.out) (Kd.R_base ho0) hb);replace HO232:=Sd.mk (Kd.N_elder' (Kd.Nz HO232.out) (Kd.R_base ho0) hb);replace HL233_0:=Sd.mk (Kd.V_elder' (Kd.Vz HL233_0.out) (Kd.R_base ho0) hb);have HO239:=Sd.mk (Kd.R_lower (Kd.R_new' (Kd.R_new' ho0 (Kd.R_lt (Kd.Rz HO229.out))) (Kd.R_lt (Kd.Rz HO236.out))) (below_size bz));replace HO229:=Sd.mk (Kd.R_elder' (Kd.Rz HO229.out) (Kd.R_base ho0) hb);replace HO236:=Sd.mk (Kd.R_elder' (Kd.Rz HO236.out) (Kd.R_base ho0) hb);replace HB:=Sd.mk (below_step bz hb);(try clear hb);(try clear hb2);(try clear hk);(try clear hi);(try clear ho0);obtain⟨Ao57,co57,eo57⟩:=Kd.R_slice HO239.out;subst eo57)|((with_reducible refine gate_builtin (b:=.append) (xs:=#[.tmp 83,.tmp 87]) rfl ?_);at_builtin;refine Kd.N_append (Kd.slice 3 (Kd.int .i64)) (w0:=w) w.heap.size rfl (.tmp 83) (.tmp 87) 23 22 (.slice none 0 0) 24 rfl Try.underlying23 info22 rfl (by decide) (by omega) u9 x9_16 t237 [.slice Ao57 t237.length co57] (fun k_=>some k_≠(v228:Value).ownBlock∧some k_≠(.slice (some ad233) t230.length co53:Value).ownBlock∧some k_≠(v235:Value).ownBlock) (fun k_=>((fun k_=>some k_≠(v228:Value).ownBlock∧some k_≠(.slice (some ad233) t230.length co53:Value).ownBlock∧some k_≠(v235:Value).ownBlock)) k_∧some k_≠(u9:Value).ownBlock) rfl rfl ?aP (fun _ hk=>hk) ?aF ?aO ?aB ?aS ?aL ?_;(case aP=>exact(Kd.FK_slice_mk (Kd.R_reads' (Kd.R_mono (ok':=(fun k_=>((fun k_=>some k_≠(v228:Value).ownBlock∧some k_≠(.slice (some ad233) t230.length co53:Value).ownBlock∧some k_≠(v235:Value).ownBlock)) k_∧some k_≠(u9:Value).ownBlock)) (Kd.R_apart' (Kd.R_apart' (HO239.out) (Kd.N_typed HO232.out) (by decide)) (Kd.N_typed HO_9.out) (by decide)) (fun k_ hk=>⟨⟨hk.1.1.1.2,⟨hk.1.2,hk.1.1.2⟩⟩,hk.2⟩))).2.1 (Kd.R_F (Kd.R_mono (ok':=(fun k_=>((fun k_=>some k_≠(v228:Value).ownBlock∧some k_≠(.slice (some ad233) t230.length co53:Value).ownBlock∧some k_≠(v235:Value).ownBlock)) k_∧some k_≠(u9:Value).ownBlock)) (Kd.R_apart' (Kd.R_apart' (HO239.out) (Kd.N_typed HO232.out) (by decide)) (Kd.N_typed HO_9.out) (by decide)) (fun k_ hk=>⟨⟨hk.1.1.1.2,⟨hk.1.2,hk.1.1.2⟩⟩,hk.2⟩)))));(case aB=>exact bz);(case aF=>exact(fun k_ hk=>⟨Kd.fresh' (Kd.R_lt (Kd.Rz HO229.out)) k_ hk,Kd.fresh' (Kd.N_lt (Kd.Nz HO232.out)) k_ hk,Kd.fresh' (Kd.R_lt (Kd.Rz HO236.out)) k_ hk⟩));(case aO=>exact(Kd.Nz <| Kd.N_mono HO_9.out (fun _ hk=>⟨hk.1.1.1,⟨hk.1.1.2,hk.1.2⟩⟩)));(case aS=>exact(below_size bz));(case aL=>have:=LMc50.out;omega);intro v241 w56 ho hb hg hat;rw[← Ny240.out] at ho;replace HO_6:=Sd.mk (Kd.N_afterv (ok:=(fun k_=>some k_≠(v228:Value).ownBlock∧some k_≠(.slice (some ad233) t230.length co53:Value).ownBlock∧some k_≠(v235:Value).ownBlock∧some k_≠(.slice Ao57 t237.length co57:Value).ownBlock)) (Kd.Nz <| Kd.N_mono HO_6.out (fun _ hk=>⟨⟨hk.1.1.2.1,⟨hk.1.1.2.2,⟨hk.1.2,hk.2⟩⟩⟩,hk.1.1.1⟩)) hg hat);replace HL223_0:=Sd.mk (Kd.V_afterv (ok:=(fun k_=>some k_≠(.slice (some ad223) t186.length co27:Value).ownBlock∧some k_≠(v228:Value).ownBlock∧some k_≠(.slice (some ad233) t230.length co53:Value).ownBlock∧some k_≠(v235:Value).ownBlock∧some k_≠(.slice Ao57 t237.length co57:Value).ownBlock)) (Kd.Vz <| Kd.V_mono HL223_0.out (fun _ hk=>⟨⟨hk.1.1.1,⟨hk.1.1.2.2.1,⟨hk.1.1.2.2.2,⟨hk.1.2,hk.2⟩⟩⟩⟩,hk.1.1.2.1⟩)) hg hat);replace HO229:=Sd.mk (Kd.R_over' (Kd.Rz HO229.out) (Kd.N_typed (Kd.Nz HO_9.out)) (by decide) hg);replace HO232:=Sd.mk (Kd.N_afterv (ok:=(fun k_=>some k_≠(.slice (some ad223) t186.length co27:Value).ownBlock∧some k_≠(v228:Value).ownBlock∧some k_≠(v235:Value).ownBlock∧some k_≠(.slice Ao57 t237.length co57:Value).ownBlock)) (Kd.Nz <| Kd.N_mono HO232.out (fun _ hk=>⟨⟨hk.1.1.1,⟨hk.1.1.2.2,⟨hk.1.2,hk.2⟩⟩⟩,hk.1.1.2.1⟩)) hg hat);replace HL233_0:=Sd.mk (Kd.V_afterv (ok:=(fun k_=>some k_≠(.slice (some ad223) t186.length co27:Value).ownBlock∧some k_≠(v228:Value).ownBlock∧some k_≠(.slice (some ad233) t230.length co53:Value).ownBlock∧some k_≠(v235:Value).ownBlock∧some k_≠(.slice Ao57 t237.length co57:Value).ownBlock)) (Kd.Vz <| Kd.V_mono HL233_0.out (fun _ hk=>⟨⟨hk.1.1.1,⟨hk.1.1.2.2.1,⟨hk.1.1.2.2.2,⟨hk.1.2,hk.2⟩⟩⟩⟩,hk.1.1.2.1⟩)) hg hat);replace HO236:=Sd.mk (Kd.R_over' (Kd.Rz HO236.out) (Kd.N_typed (Kd.Nz HO_9.out)) (by decide) hg);replace HB:=Sd.mk (hb);have HO242:=Sd.mk (ho);clear HO_9 HO239;clear ho hb hg hat;obtain⟨Ao58,co58,eo58⟩:=Kd.R_slice HO236.out;subst eo58;obtain⟨Ao59,co59,eo59⟩:=Kd.N_slice HO242.out;subst eo59)|((with_reducible refine gate_callee (f:=47) rfl ?_);refine goesL_ (some 91) rfl rfl Try.func47 (by kernel_rfl) rfl #[.slice Ao58 y234.length co58,.slice Ao59 y240.length co59] rfl az ?_;(with_reducible refine(spec_l1Make.calls kj16 _ _ y234 _ _ y240 t243 _ ?side1 ?side2 ?side3 ?side4 A51.out).mono ?_);(case side1=>exact Kd.Cz (Kd.R_reads' HO236.out).2.2);(case side2=>exact(Kd.R_reads' HO236.out).2.1);(case side3=>exact Kd.Cz (Kd.N_reads' HO242.out).2.2);(case side4=>exact(Kd.N_reads' HO242.out).2.1);rintro e w60 ⟨v244,rfl,ho0,hb⟩;refine⟨_,rfl,?_⟩;replace HO_6:=Sd.mk (Kd.N_elder' (Kd.Nz HO_6.out) (Kd.R_base ho0) hb);replace HL223_0:=Sd.mk (Kd.V_elder' (Kd.Vz HL223_0.out) (Kd.R_base ho0) hb);replace HO232:=Sd.mk (Kd.N_elder' (Kd.Nz HO232.out) (Kd.R_base ho0) hb);replace HL233_0:=Sd.mk (Kd.V_elder' (Kd.Vz HL233_0.out) (Kd.R_base ho0) hb);replace HO242:=Sd.mk (Kd.N_elder' (Kd.Nz HO242.out) (Kd.R_base ho0) hb);have HO245:=Sd.mk (Kd.R_lower (Kd.R_new' (Kd.R_new' ho0 (Kd.R_lt (Kd.Rz HO229.out))) (Kd.R_lt (Kd.Rz HO236.out))) (below_size bz));replace HO229:=Sd.mk (Kd.R_elder' (Kd.Rz HO229.out) (Kd.R_base ho0) hb);replace HO236:=Sd.mk (Kd.R_elder' (Kd.Rz HO236.out) (Kd.R_base ho0) hb);replace HB:=Sd.mk (below_step bz hb);(try clear hb);(try clear hb2);(try clear hk);(try clear hi);(try clear ho0)))
                   go_ret
                   exact⟨_,by first|rfl|(simp[errW_none,errW_some]<;>rfl)|(simp only[← hji9,← hji43];first|rfl|(simp[errW_none,errW_some]<;>rfl))|(simp[*,errW_none,errW_some]<;>rfl),Kd.Rz <| Kd.R_mono HO245.out (fun _ hk=>trivial),bz⟩
                  ·rw[if_neg c50] at H
                   exact absurd H (by simp)
                 ·rw[if_neg c48] at H
                  exact absurd H (by simp)
                ·rw[if_neg c47] at H
                 have c47b0:decide (0<a1)=false:=decide_eq_false c47
                 clear c47
                 replace H:=Option.bind_eq_some_iff.mp H
                 obtain⟨t246,A610,H⟩:=H
                 replace H:(some t246)=some r:=H
                 have A61:=Sd.mk A610
                 clear A610
                 obtain rfl:=Option.some.inj H
                 have p223:0≤(ji9:Int):=dz
                 have q223:ji9<(t186.length:Int):=dz
                 obtain⟨ad223,A223_0,c223_0,e223,hx223_0,hl223_0,hi223_0⟩:=at_L1 (Kd.N_reads' HO_6.out).2.2 ji9 p223 q223
                 cases e223
                 obtain⟨ce223,hce223,hMe223,hcc223⟩:=Kd.N_get HO_6.out [] ji9 p223 (by first|exact q223|exact dz|(have e_:=(Kd.N_reads' HO_6.out).1;omega))
                 obtain⟨ua223_0,uc223_0,rfl,ul223_0,ge223_0⟩:=Kd.FK_slice_open hMe223
                 have hv223_0:=hcc223 0 _ rfl
                 rw[Nat.add_zero,show ((Kd.slice 3 (Kd.int .i64))).sz=1 from rfl,Nat.mul_one] at hv223_0
                 replace hv223_0:=Option.some.inj (hv223_0.symm.trans hx223_0)
                 injection hv223_0 with hva_ hvn_ hvc_
                 rw[hva_] at ge223_0
                 rw[hvc_] at ul223_0
                 have HL223_0:=Sd.mk (show Kd.V (Kd.int .i64) 3 _ w.heap.size _ _ (rd_L1 t186 ji9) from Kd.V_mk ul223_0 ge223_0)
                 clear hva_ hvn_ hvc_ ge223_0 ul223_0
                 clear hcc223 hce223
                 have HR223_0:=Sd.mk hi223_0
                 have HC223_0:=Sd.mk hl223_0
                 clear hi223_0 hl223_0
                 replace p223:=eq_true p223
                 replace q223:=eq_true q223
                 go_wp2_with (first|((with_reducible refine gate_callee (f:=46) rfl ?_);refine goesL_ (some 66) rfl rfl Try.func46 (by kernel_rfl) rfl #[.slice A223_0 (rd_L1 t186 ji9).length c223_0] rfl (by(try simp only[List.map_toArray,List.map_cons,List.map_nil]);first|done|(simp only[hji9];rfl)|rfl|(simp only[List.length_drop,List.length_take];rfl)) ?_;(with_reducible refine(spec_l1Terms.calls kj16 (fun k_=>((some k_≠(u8:Value).ownBlock∧some k_≠(u9:Value).ownBlock)∧some k_≠(.slice (some ad223) t186.length co27:Value).ownBlock)) _ _ (rd_L1 t186 ji9) t227 t230 _ ?side1 A42.out).mono ?_);(case side1=>exact HL223_0.out);rintro e w62 ⟨v228,v231,rfl,ho0,ho1,hb⟩;refine⟨_,rfl,?_⟩;replace HL223_0:=Sd.mk (Kd.V_mono (Kd.V_told (Kd.V_told (Kd.V_old (Kd.Vz HL223_0.out) hb) (Kd.R_base ho0)) (Kd.N_base ho1)) (fun _ h_=>h_.1));have HO229:=Sd.mk (Kd.R_lower (Kd.R_new' (Kd.R_mono (ok':=fun k_=>True) ho0 (fun _ hk_=>trivial)) (Kd.R_lt (Kd.Rz HO_8.out))) (below_size bz));have HO232:=Sd.mk (Kd.N_lower (Kd.N_mono (ok':=fun k_=>some k_≠(v228:Value).ownBlock∧some k_≠(.slice (some ad223) t186.length co27:Value).ownBlock∧some k_≠(u8:Value).ownBlock∧some k_≠(u9:Value).ownBlock) ho1 (fun k_ hk_=>⟨hk_.2,Or.elim hk_.1 (fun hs_=>hs_.2) (fun hn_=>(Kd.fresh' (Kd.N_lt (Kd.Nz HO_6.out)) k_ hn_)),Or.elim hk_.1 (fun hs_=>hs_.1.1) (fun hn_=>(Kd.fresh' (Kd.R_lt (Kd.Rz HO_8.out)) k_ hn_)),Or.elim hk_.1 (fun hs_=>hs_.1.2) (fun hn_=>(Kd.fresh' (Kd.N_lt (Kd.Nz HO_9.out)) k_ hn_))⟩)) (below_size bz));replace HO_6:=Sd.mk (Kd.N_mono (Kd.N_told (Kd.N_told (Kd.N_old (Kd.Nz HO_6.out) hb) (Kd.R_base ho0)) (Kd.N_base ho1)) (fun _ h_=>h_.1));replace HO_8:=Sd.mk (Kd.R_elder' (Kd.Rz HO_8.out) (Kd.R_base ho0) hb);replace HO_9:=Sd.mk (Kd.N_mono (Kd.N_told (Kd.N_told (Kd.N_old (Kd.Nz HO_9.out) hb) (Kd.R_base ho0)) (Kd.N_base ho1)) (fun _ h_=>h_.1));replace HR223_0:=Sd.mk (Kd.C_below (Kd.Cz HR223_0.out) hb);replace HB:=Sd.mk (below_step bz hb);(try clear hb);(try clear hb2);(try clear hk);(try clear hi);(try clear ho0);(try clear ho1);obtain⟨Ao63,co63,eo63⟩:=Kd.N_slice HO232.out;subst eo63;have p233:0≤((ji43):Int):=dz;have q233:(ji43)<(t230.length:Int):=dz;obtain⟨ad233,A233_0,c233_0,e233,hx233_0,hl233_0,hi233_0⟩:=at_L1 (Kd.N_reads' HO232.out).2.2 (ji43) p233 q233;cases e233;obtain⟨ce233,hce233,hMe233,hcc233⟩:=Kd.N_get HO232.out [] (ji43) p233 (by first|exact q233|exact dz|(have e_:=(Kd.N_reads' HO232.out).1;omega));obtain⟨ua233_0,uc233_0,rfl,ul233_0,ge233_0⟩:=Kd.FK_slice_open hMe233;have hv233_0:=hcc233 0 _ rfl;rw[Nat.add_zero,show ((Kd.slice 3 (Kd.int .i64))).sz=1 from rfl,Nat.mul_one] at hv233_0;replace hv233_0:=Option.some.inj (hv233_0.symm.trans hx233_0);injection hv233_0 with hva_ hvn_ hvc_;rw[hva_] at ge233_0;rw[hvc_] at ul233_0;have HL233_0:=Sd.mk (show Kd.V (Kd.int .i64) 3 _ w.heap.size _ _ (rd_L1 t230 (ji43)) from Kd.V_mk ul233_0 ge233_0);clear hva_ hvn_ hvc_ ge233_0 ul233_0;clear hcc233 hce233;have HR233_0:=Sd.mk hi233_0;have HC233_0:=Sd.mk hl233_0;clear hi233_0 hl233_0;replace p233:=eq_true p233;replace q233:=eq_true q233;obtain⟨Ao64,co64,eo64⟩:=Kd.R_slice HO_8.out;subst eo64;obtain⟨Ao65,co65,eo65⟩:=Kd.N_slice HO_9.out;subst eo65)|((with_reducible refine gate_callee (f:=47) rfl ?_);refine goesL_ (some 91) rfl rfl Try.func47 (by kernel_rfl) rfl #[.slice Ao64 x8_16.length co64,.slice Ao65 x9_16.length co65] rfl az ?_;(with_reducible refine(spec_l1Make.calls kj16 _ _ x8_16 _ _ x9_16 t246 _ ?side1 ?side2 ?side3 ?side4 A61.out).mono ?_);(case side1=>exact Kd.Cz (Kd.R_reads' HO_8.out).2.2);(case side2=>exact(Kd.R_reads' HO_8.out).2.1);(case side3=>exact Kd.Cz (Kd.N_reads' HO_9.out).2.2);(case side4=>exact(Kd.N_reads' HO_9.out).2.1);rintro e w66 ⟨v247,rfl,ho0,hb⟩;refine⟨_,rfl,?_⟩;replace HO_6:=Sd.mk (Kd.N_elder' (Kd.Nz HO_6.out) (Kd.R_base ho0) hb);replace HO_9:=Sd.mk (Kd.N_elder' (Kd.Nz HO_9.out) (Kd.R_base ho0) hb);replace HL223_0:=Sd.mk (Kd.V_elder' (Kd.Vz HL223_0.out) (Kd.R_base ho0) hb);replace HO232:=Sd.mk (Kd.N_elder' (Kd.Nz HO232.out) (Kd.R_base ho0) hb);replace HL233_0:=Sd.mk (Kd.V_elder' (Kd.Vz HL233_0.out) (Kd.R_base ho0) hb);have HO248:=Sd.mk (Kd.R_lower (Kd.R_new' (Kd.R_new' ho0 (Kd.R_lt (Kd.Rz HO_8.out))) (Kd.R_lt (Kd.Rz HO229.out))) (below_size bz));replace HO_8:=Sd.mk (Kd.R_elder' (Kd.Rz HO_8.out) (Kd.R_base ho0) hb);replace HO229:=Sd.mk (Kd.R_elder' (Kd.Rz HO229.out) (Kd.R_base ho0) hb);replace HR223_0:=Sd.mk (Kd.C_below (Kd.Cz HR223_0.out) hb);replace HR233_0:=Sd.mk (Kd.C_below (Kd.Cz HR233_0.out) hb);replace HB:=Sd.mk (below_step bz hb);(try clear hb);(try clear hb2);(try clear hk);(try clear hi);(try clear ho0)))
                 go_ret
                 exact⟨_,by first|rfl|(simp[errW_none,errW_some]<;>rfl)|(simp only[← hji9,← hji43];first|rfl|(simp[errW_none,errW_some]<;>rfl))|(simp[*,errW_none,errW_some]<;>rfl),Kd.Rz <| Kd.R_mono HO248.out (fun _ hk=>trivial),bz⟩
               ·rw[if_neg c46] at H
                have c46b0:(((rd_L1 t230 (ji43)).length:Int) == 1)=false:=beq_eq_false_iff_ne.mpr c46
                have c46b1:(((rd_L1 t230 (ji43)).length:Int) != 1)=true:=bne_iff_ne.mpr c46
                by_cases c67:x8_16.length<17592186044416
                ·rw[if_pos c67] at H
                 have LMc67:=Sd.mk c67
                 clear c67
                 obtain⟨y249,hy249⟩:∃ y_:List Int,y_=(x8_16++[1]):=⟨_,rfl⟩
                 replace H:((spec_l3Step.f kj16 (rd_L1 t186 ji9) a1).bind fun t252=>(if x9_16.length<5864062014805 then((spec_l1Make.f kj16 y249 (x9_16++[t252])).bind fun t258=>(some t258)) else(none)))=some r:=hz hy249 H
                 have Ny249:=Sd.mk hy249
                 clear hy249
                 replace H:=Option.bind_eq_some_iff.mp H
                 obtain⟨t252,A680,H⟩:=H
                 replace H:(if x9_16.length<5864062014805 then((spec_l1Make.f kj16 y249 (x9_16++[t252])).bind fun t258=>(some t258)) else(none))=some r:=H
                 have A68:=Sd.mk A680
                 clear A680
                 by_cases c69:x9_16.length<5864062014805
                 ·rw[if_pos c69] at H
                  have LMc69:=Sd.mk c69
                  clear c69
                  obtain⟨y255,hy255⟩:∃ y_:List (List Int),y_=(x9_16++[t252]):=⟨_,rfl⟩
                  replace H:((spec_l1Make.f kj16 y249 y255).bind fun t258=>(some t258))=some r:=hz hy255 H
                  have Ny255:=Sd.mk hy255
                  clear hy255
                  replace H:=Option.bind_eq_some_iff.mp H
                  obtain⟨t258,A700,H⟩:=H
                  replace H:(some t258)=some r:=H
                  have A70:=Sd.mk A700
                  clear A700
                  obtain rfl:=Option.some.inj H
                  have p223:0≤(ji9:Int):=dz
                  have q223:ji9<(t186.length:Int):=dz
                  obtain⟨ad223,A223_0,c223_0,e223,hx223_0,hl223_0,hi223_0⟩:=at_L1 (Kd.N_reads' HO_6.out).2.2 ji9 p223 q223
                  cases e223
                  obtain⟨ce223,hce223,hMe223,hcc223⟩:=Kd.N_get HO_6.out [] ji9 p223 (by first|exact q223|exact dz|(have e_:=(Kd.N_reads' HO_6.out).1;omega))
                  obtain⟨ua223_0,uc223_0,rfl,ul223_0,ge223_0⟩:=Kd.FK_slice_open hMe223
                  have hv223_0:=hcc223 0 _ rfl
                  rw[Nat.add_zero,show ((Kd.slice 3 (Kd.int .i64))).sz=1 from rfl,Nat.mul_one] at hv223_0
                  replace hv223_0:=Option.some.inj (hv223_0.symm.trans hx223_0)
                  injection hv223_0 with hva_ hvn_ hvc_
                  rw[hva_] at ge223_0
                  rw[hvc_] at ul223_0
                  have HL223_0:=Sd.mk (show Kd.V (Kd.int .i64) 3 _ w.heap.size _ _ (rd_L1 t186 ji9) from Kd.V_mk ul223_0 ge223_0)
                  clear hva_ hvn_ hvc_ ge223_0 ul223_0
                  clear hcc223 hce223
                  have HR223_0:=Sd.mk hi223_0
                  have HC223_0:=Sd.mk hl223_0
                  clear hi223_0 hl223_0
                  replace p223:=eq_true p223
                  replace q223:=eq_true q223
                  go_wp2_with (first|((with_reducible refine gate_callee (f:=46) rfl ?_);refine goesL_ (some 66) rfl rfl Try.func46 (by kernel_rfl) rfl #[.slice A223_0 (rd_L1 t186 ji9).length c223_0] rfl (by(try simp only[List.map_toArray,List.map_cons,List.map_nil]);first|done|(simp only[hji9];rfl)|rfl|(simp only[List.length_drop,List.length_take];rfl)) ?_;(with_reducible refine(spec_l1Terms.calls kj16 (fun k_=>((some k_≠(u8:Value).ownBlock∧some k_≠(u9:Value).ownBlock)∧some k_≠(.slice (some ad223) t186.length co27:Value).ownBlock)) _ _ (rd_L1 t186 ji9) t227 t230 _ ?side1 A42.out).mono ?_);(case side1=>exact HL223_0.out);rintro e w71 ⟨v228,v231,rfl,ho0,ho1,hb⟩;refine⟨_,rfl,?_⟩;replace HL223_0:=Sd.mk (Kd.V_mono (Kd.V_told (Kd.V_told (Kd.V_old (Kd.Vz HL223_0.out) hb) (Kd.R_base ho0)) (Kd.N_base ho1)) (fun _ h_=>h_.1));have HO229:=Sd.mk (Kd.R_lower (Kd.R_new' (Kd.R_mono (ok':=fun k_=>True) ho0 (fun _ hk_=>trivial)) (Kd.R_lt (Kd.Rz HO_8.out))) (below_size bz));have HO232:=Sd.mk (Kd.N_lower (Kd.N_mono (ok':=fun k_=>some k_≠(v228:Value).ownBlock∧some k_≠(.slice (some ad223) t186.length co27:Value).ownBlock∧some k_≠(u8:Value).ownBlock∧some k_≠(u9:Value).ownBlock) ho1 (fun k_ hk_=>⟨hk_.2,Or.elim hk_.1 (fun hs_=>hs_.2) (fun hn_=>(Kd.fresh' (Kd.N_lt (Kd.Nz HO_6.out)) k_ hn_)),Or.elim hk_.1 (fun hs_=>hs_.1.1) (fun hn_=>(Kd.fresh' (Kd.R_lt (Kd.Rz HO_8.out)) k_ hn_)),Or.elim hk_.1 (fun hs_=>hs_.1.2) (fun hn_=>(Kd.fresh' (Kd.N_lt (Kd.Nz HO_9.out)) k_ hn_))⟩)) (below_size bz));replace HO_6:=Sd.mk (Kd.N_mono (Kd.N_told (Kd.N_told (Kd.N_old (Kd.Nz HO_6.out) hb) (Kd.R_base ho0)) (Kd.N_base ho1)) (fun _ h_=>h_.1));replace HO_8:=Sd.mk (Kd.R_elder' (Kd.Rz HO_8.out) (Kd.R_base ho0) hb);replace HO_9:=Sd.mk (Kd.N_mono (Kd.N_told (Kd.N_told (Kd.N_old (Kd.Nz HO_9.out) hb) (Kd.R_base ho0)) (Kd.N_base ho1)) (fun _ h_=>h_.1));replace HR223_0:=Sd.mk (Kd.C_below (Kd.Cz HR223_0.out) hb);replace HB:=Sd.mk (below_step bz hb);(try clear hb);(try clear hb2);(try clear hk);(try clear hi);(try clear ho0);(try clear ho1);obtain⟨Ao72,co72,eo72⟩:=Kd.N_slice HO232.out;subst eo72;have p233:0≤((ji43):Int):=dz;have q233:(ji43)<(t230.length:Int):=dz;obtain⟨ad233,A233_0,c233_0,e233,hx233_0,hl233_0,hi233_0⟩:=at_L1 (Kd.N_reads' HO232.out).2.2 (ji43) p233 q233;cases e233;obtain⟨ce233,hce233,hMe233,hcc233⟩:=Kd.N_get HO232.out [] (ji43) p233 (by first|exact q233|exact dz|(have e_:=(Kd.N_reads' HO232.out).1;omega));obtain⟨ua233_0,uc233_0,rfl,ul233_0,ge233_0⟩:=Kd.FK_slice_open hMe233;have hv233_0:=hcc233 0 _ rfl;rw[Nat.add_zero,show ((Kd.slice 3 (Kd.int .i64))).sz=1 from rfl,Nat.mul_one] at hv233_0;replace hv233_0:=Option.some.inj (hv233_0.symm.trans hx233_0);injection hv233_0 with hva_ hvn_ hvc_;rw[hva_] at ge233_0;rw[hvc_] at ul233_0;have HL233_0:=Sd.mk (show Kd.V (Kd.int .i64) 3 _ w.heap.size _ _ (rd_L1 t230 (ji43)) from Kd.V_mk ul233_0 ge233_0);clear hva_ hvn_ hvc_ ge233_0 ul233_0;clear hcc233 hce233;have HR233_0:=Sd.mk hi233_0;have HC233_0:=Sd.mk hl233_0;clear hi233_0 hl233_0;replace p233:=eq_true p233;replace q233:=eq_true q233)|((with_reducible refine gate_builtin (b:=.append) (xs:=#[.tmp 92,.tmp 93]) rfl ?_);at_builtin;refine Kd.R_append (Kd.int .i64) (w0:=w) w.heap.size rfl (.tmp 92) (.tmp 93) 22 3 (.int .i64 0) 8 rfl Try.underlying22 info3 rfl (by decide) (by omega) u8 x8_16 1 [.int .i64 1] (fun k_=>some k_≠(v228:Value).ownBlock) (fun _=>False) rfl rfl ?aP (fun _ hk=>hk.elim) ?aF ?aO ?aB ?aS ?aL ?_;(case aP=>exact rfl);(case aB=>exact bz);(case aF=>exact(fun k_ hk=>Kd.fresh' (Kd.R_lt (Kd.Rz HO229.out)) k_ hk));(case aO=>exact(Kd.Rz <| Kd.R_mono HO_8.out (fun _ hk=>hk.2)));(case aS=>exact(below_size bz));(case aL=>have:=LMc67.out;omega);intro v250 w73 ho hb hg hat;rw[← Ny249.out] at ho;replace HO_6:=Sd.mk (Kd.N_afterv (ok:=(fun k_=>some k_≠(u9:Value).ownBlock∧some k_≠(v228:Value).ownBlock∧some k_≠(.slice (some ad233) t230.length co72:Value).ownBlock)) (Kd.Nz <| Kd.N_mono HO_6.out (fun _ hk=>⟨⟨hk.1.1.2,⟨hk.1.2,hk.2⟩⟩,hk.1.1.1⟩)) hg hat);replace HO_9:=Sd.mk (Kd.N_afterv (ok:=(fun k_=>some k_≠(v228:Value).ownBlock∧some k_≠(.slice (some ad233) t230.length co72:Value).ownBlock)) (Kd.Nz <| Kd.N_mono HO_9.out (fun _ hk=>⟨⟨hk.1.2,hk.2⟩,hk.1.1⟩)) hg hat);replace HL223_0:=Sd.mk (Kd.V_afterv (ok:=(fun k_=>some k_≠(.slice (some ad223) t186.length co27:Value).ownBlock∧some k_≠(u9:Value).ownBlock∧some k_≠(v228:Value).ownBlock∧some k_≠(.slice (some ad233) t230.length co72:Value).ownBlock)) (Kd.Vz <| Kd.V_mono HL223_0.out (fun _ hk=>⟨⟨hk.1.1.2,⟨hk.1.1.1.2,⟨hk.1.2,hk.2⟩⟩⟩,hk.1.1.1.1⟩)) hg hat);replace HO229:=Sd.mk (Kd.R_after (ok:=(fun _=>True)) (Kd.Rz HO229.out) hg hat);replace HO232:=Sd.mk (Kd.N_afterv (ok:=(fun k_=>some k_≠(.slice (some ad223) t186.length co27:Value).ownBlock∧some k_≠(u9:Value).ownBlock∧some k_≠(v228:Value).ownBlock)) (Kd.Nz <| Kd.N_mono HO232.out (fun _ hk=>⟨⟨hk.2.1,⟨hk.2.2.2,hk.1⟩⟩,hk.2.2.1⟩)) hg hat);replace HL233_0:=Sd.mk (Kd.V_afterv (ok:=(fun k_=>some k_≠(.slice (some ad223) t186.length co27:Value).ownBlock∧some k_≠(u9:Value).ownBlock∧some k_≠(v228:Value).ownBlock∧some k_≠(.slice (some ad233) t230.length co72:Value).ownBlock)) (Kd.Vz <| Kd.V_mono HL233_0.out (fun _ hk=>⟨⟨hk.1.2.1,⟨hk.1.2.2.2,⟨hk.1.1,hk.2⟩⟩⟩,hk.1.2.2.1⟩)) hg hat);replace HB:=Sd.mk (hb);have HO251:=Sd.mk (ho);clear HO_8;clear ho hb hg hat)|((with_reducible refine gate_callee (f:=32) rfl ?_);refine goesL_ (some 98) rfl rfl Try.func32 (by kernel_rfl) rfl #[.slice A223_0 (rd_L1 t186 ji9).length c223_0,.int .i64 a1] rfl (by(try simp only[List.map_toArray,List.map_cons,List.map_nil]);first|done|(simp only[hji9];rfl)|rfl|(simp only[List.length_drop,List.length_take];rfl)) ?_;(with_reducible refine(ih kj16 (by have:=HJ16.out;omega) _ _ (rd_L1 t186 ji9) a1 t252 _ ?side1 ?side2 A68.out).mono ?_);(case side1=>repeat (first|exact((Kd.V_reads' (Kd.Vz HL223_0.out)).2.2)|(with_reducible refine Kd.C_alloc ?_ _)|(with_reducible refine Kd.C_drewN ?_ _)|(with_reducible refine Kd.C_drew ?_)));(case side2=>exact HC223_0.out);rintro e w74 ⟨v253,rfl,ho0,hb⟩;refine⟨_,rfl,?_⟩;replace HO_6:=Sd.mk (Kd.N_elder' (Kd.Nz HO_6.out) (Kd.R_base ho0) hb);replace HO_9:=Sd.mk (Kd.N_elder' (Kd.Nz HO_9.out) (Kd.R_base ho0) hb);replace HL223_0:=Sd.mk (Kd.V_elder' (Kd.Vz HL223_0.out) (Kd.R_base ho0) hb);replace HO232:=Sd.mk (Kd.N_elder' (Kd.Nz HO232.out) (Kd.R_base ho0) hb);replace HL233_0:=Sd.mk (Kd.V_elder' (Kd.Vz HL233_0.out) (Kd.R_base ho0) hb);have HO254:=Sd.mk (Kd.R_lower (Kd.R_new' (Kd.R_new' ho0 (Kd.R_lt (Kd.Rz HO229.out))) (Kd.R_lt (Kd.Rz HO251.out))) (below_size bz));replace HO229:=Sd.mk (Kd.R_elder' (Kd.Rz HO229.out) (Kd.R_base ho0) hb);replace HO251:=Sd.mk (Kd.R_elder' (Kd.Rz HO251.out) (Kd.R_base ho0) hb);replace HB:=Sd.mk (below_step bz hb);(try clear hb);(try clear hb2);(try clear hk);(try clear hi);(try clear ho0);obtain⟨Ao76,co76,eo76⟩:=Kd.R_slice HO254.out;subst eo76)|((with_reducible refine gate_builtin (b:=.append) (xs:=#[.tmp 95,.tmp 99]) rfl ?_);at_builtin;refine Kd.N_append (Kd.slice 3 (Kd.int .i64)) (w0:=w) w.heap.size rfl (.tmp 95) (.tmp 99) 23 22 (.slice none 0 0) 24 rfl Try.underlying23 info22 rfl (by decide) (by omega) u9 x9_16 t252 [.slice Ao76 t252.length co76] (fun k_=>some k_≠(v228:Value).ownBlock∧some k_≠(.slice (some ad233) t230.length co72:Value).ownBlock∧some k_≠(v250:Value).ownBlock) (fun k_=>((fun k_=>some k_≠(v228:Value).ownBlock∧some k_≠(.slice (some ad233) t230.length co72:Value).ownBlock∧some k_≠(v250:Value).ownBlock)) k_∧some k_≠(u9:Value).ownBlock) rfl rfl ?aP (fun _ hk=>hk) ?aF ?aO ?aB ?aS ?aL ?_;(case aP=>exact(Kd.FK_slice_mk (Kd.R_reads' (Kd.R_mono (ok':=(fun k_=>((fun k_=>some k_≠(v228:Value).ownBlock∧some k_≠(.slice (some ad233) t230.length co72:Value).ownBlock∧some k_≠(v250:Value).ownBlock)) k_∧some k_≠(u9:Value).ownBlock)) (Kd.R_apart' (Kd.R_apart' (HO254.out) (Kd.N_typed HO232.out) (by decide)) (Kd.N_typed HO_9.out) (by decide)) (fun k_ hk=>⟨⟨hk.1.1.1.2,⟨hk.1.2,hk.1.1.2⟩⟩,hk.2⟩))).2.1 (Kd.R_F (Kd.R_mono (ok':=(fun k_=>((fun k_=>some k_≠(v228:Value).ownBlock∧some k_≠(.slice (some ad233) t230.length co72:Value).ownBlock∧some k_≠(v250:Value).ownBlock)) k_∧some k_≠(u9:Value).ownBlock)) (Kd.R_apart' (Kd.R_apart' (HO254.out) (Kd.N_typed HO232.out) (by decide)) (Kd.N_typed HO_9.out) (by decide)) (fun k_ hk=>⟨⟨hk.1.1.1.2,⟨hk.1.2,hk.1.1.2⟩⟩,hk.2⟩)))));(case aB=>exact bz);(case aF=>exact(fun k_ hk=>⟨Kd.fresh' (Kd.R_lt (Kd.Rz HO229.out)) k_ hk,Kd.fresh' (Kd.N_lt (Kd.Nz HO232.out)) k_ hk,Kd.fresh' (Kd.R_lt (Kd.Rz HO251.out)) k_ hk⟩));(case aO=>exact(Kd.Nz <| Kd.N_mono HO_9.out (fun _ hk=>⟨hk.1.1.1,⟨hk.1.1.2,hk.1.2⟩⟩)));(case aS=>exact(below_size bz));(case aL=>have:=LMc69.out;omega);intro v256 w75 ho hb hg hat;rw[← Ny255.out] at ho;replace HO_6:=Sd.mk (Kd.N_afterv (ok:=(fun k_=>some k_≠(v228:Value).ownBlock∧some k_≠(.slice (some ad233) t230.length co72:Value).ownBlock∧some k_≠(v250:Value).ownBlock∧some k_≠(.slice Ao76 t252.length co76:Value).ownBlock)) (Kd.Nz <| Kd.N_mono HO_6.out (fun _ hk=>⟨⟨hk.1.1.2.1,⟨hk.1.1.2.2,⟨hk.1.2,hk.2⟩⟩⟩,hk.1.1.1⟩)) hg hat);replace HL223_0:=Sd.mk (Kd.V_afterv (ok:=(fun k_=>some k_≠(.slice (some ad223) t186.length co27:Value).ownBlock∧some k_≠(v228:Value).ownBlock∧some k_≠(.slice (some ad233) t230.length co72:Value).ownBlock∧some k_≠(v250:Value).ownBlock∧some k_≠(.slice Ao76 t252.length co76:Value).ownBlock)) (Kd.Vz <| Kd.V_mono HL223_0.out (fun _ hk=>⟨⟨hk.1.1.1,⟨hk.1.1.2.2.1,⟨hk.1.1.2.2.2,⟨hk.1.2,hk.2⟩⟩⟩⟩,hk.1.1.2.1⟩)) hg hat);replace HO229:=Sd.mk (Kd.R_over' (Kd.Rz HO229.out) (Kd.N_typed (Kd.Nz HO_9.out)) (by decide) hg);replace HO232:=Sd.mk (Kd.N_afterv (ok:=(fun k_=>some k_≠(.slice (some ad223) t186.length co27:Value).ownBlock∧some k_≠(v228:Value).ownBlock∧some k_≠(v250:Value).ownBlock∧some k_≠(.slice Ao76 t252.length co76:Value).ownBlock)) (Kd.Nz <| Kd.N_mono HO232.out (fun _ hk=>⟨⟨hk.1.1.1,⟨hk.1.1.2.2,⟨hk.1.2,hk.2⟩⟩⟩,hk.1.1.2.1⟩)) hg hat);replace HL233_0:=Sd.mk (Kd.V_afterv (ok:=(fun k_=>some k_≠(.slice (some ad223) t186.length co27:Value).ownBlock∧some k_≠(v228:Value).ownBlock∧some k_≠(.slice (some ad233) t230.length co72:Value).ownBlock∧some k_≠(v250:Value).ownBlock∧some k_≠(.slice Ao76 t252.length co76:Value).ownBlock)) (Kd.Vz <| Kd.V_mono HL233_0.out (fun _ hk=>⟨⟨hk.1.1.1,⟨hk.1.1.2.2.1,⟨hk.1.1.2.2.2,⟨hk.1.2,hk.2⟩⟩⟩⟩,hk.1.1.2.1⟩)) hg hat);replace HO251:=Sd.mk (Kd.R_over' (Kd.Rz HO251.out) (Kd.N_typed (Kd.Nz HO_9.out)) (by decide) hg);replace HB:=Sd.mk (hb);have HO257:=Sd.mk (ho);clear HO_9 HO254;clear ho hb hg hat;obtain⟨Ao77,co77,eo77⟩:=Kd.R_slice HO251.out;subst eo77;obtain⟨Ao78,co78,eo78⟩:=Kd.N_slice HO257.out;subst eo78)|((with_reducible refine gate_callee (f:=47) rfl ?_);refine goesL_ (some 101) rfl rfl Try.func47 (by kernel_rfl) rfl #[.slice Ao77 y249.length co77,.slice Ao78 y255.length co78] rfl az ?_;(with_reducible refine(spec_l1Make.calls kj16 _ _ y249 _ _ y255 t258 _ ?side1 ?side2 ?side3 ?side4 A70.out).mono ?_);(case side1=>exact Kd.Cz (Kd.R_reads' HO251.out).2.2);(case side2=>exact(Kd.R_reads' HO251.out).2.1);(case side3=>exact Kd.Cz (Kd.N_reads' HO257.out).2.2);(case side4=>exact(Kd.N_reads' HO257.out).2.1);rintro e w79 ⟨v259,rfl,ho0,hb⟩;refine⟨_,rfl,?_⟩;replace HO_6:=Sd.mk (Kd.N_elder' (Kd.Nz HO_6.out) (Kd.R_base ho0) hb);replace HL223_0:=Sd.mk (Kd.V_elder' (Kd.Vz HL223_0.out) (Kd.R_base ho0) hb);replace HO232:=Sd.mk (Kd.N_elder' (Kd.Nz HO232.out) (Kd.R_base ho0) hb);replace HL233_0:=Sd.mk (Kd.V_elder' (Kd.Vz HL233_0.out) (Kd.R_base ho0) hb);replace HO257:=Sd.mk (Kd.N_elder' (Kd.Nz HO257.out) (Kd.R_base ho0) hb);have HO260:=Sd.mk (Kd.R_lower (Kd.R_new' (Kd.R_new' ho0 (Kd.R_lt (Kd.Rz HO229.out))) (Kd.R_lt (Kd.Rz HO251.out))) (below_size bz));replace HO229:=Sd.mk (Kd.R_elder' (Kd.Rz HO229.out) (Kd.R_base ho0) hb);replace HO251:=Sd.mk (Kd.R_elder' (Kd.Rz HO251.out) (Kd.R_base ho0) hb);replace HB:=Sd.mk (below_step bz hb);(try clear hb);(try clear hb2);(try clear hk);(try clear hi);(try clear ho0)))
                  go_ret
                  exact⟨_,by first|rfl|(simp[errW_none,errW_some]<;>rfl)|(simp only[← hji9,← hji43];first|rfl|(simp[errW_none,errW_some]<;>rfl))|(simp[*,errW_none,errW_some]<;>rfl),Kd.Rz <| Kd.R_mono HO260.out (fun _ hk=>trivial),bz⟩
                 ·rw[if_neg c69] at H
                  exact absurd H (by simp)
                ·rw[if_neg c67] at H
                 exact absurd H (by simp)
              ·rw[if_neg c45] at H
               exact absurd H (by simp)
             ·rw[if_neg c44] at H
              exact absurd H (by simp)
           ·rw[if_neg c36] at H
            exact absurd H (by simp)
          ·rw[if_neg c35] at H
           exact absurd H (by simp)
       ·rw[if_neg c16] at H
        exact absurd H (by simp)
      ·rw[if_neg c15] at H
       exact absurd H (by simp)
     ·rw[if_neg c14] at H
      exact absurd H (by simp)
    ·rw[if_neg c12] at H
     exact absurd H (by simp)
   ·rw[if_neg c11] at H
    exact absurd H (by simp)
  ·rw[if_neg c10] at H
   exact absurd H (by simp)
end Go.Proofs.Ytfkecmnklpjelaa.P