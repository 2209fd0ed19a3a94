/- One Go function comes to what its Lean function tells. -/
import Derived.Test.YtpgkpahhohfmhaaP0
import Derived.Test.YtpgkpahhohfmhaaPspecl1Make
import Derived.Test.YtpgkpahhohfmhaaPspecl1Terms
namespace Go.Proofs.Ytpgkpahhohfmhaa.P
open Go.RowKit YtpgkpahhohfmhaaW.PrintWords YtpgkpahhohfmhaaW.PrintLast YtpgkpahhohfmhaaW.PrintMore
set_option linter.unusedVariables false
set_option linter.unusedSimpArgs false
/-! ### spec_l3Step: function 87 -/
mutual
def spec_l3Step.j0:Nat→Int→List (List Int)→Int→List Int→List (List Int)→Option (List Int)
 | 0,_,_,_,_,_=>none
 | k+1,x1,x6,x7,x8,x9=>if 0≤x7 then(if x7<(x6.length:Int) then(if((rd_L3 x6 x7).length:Int)=1 then((spec_l1Make.f k x8 x9).bind fun t840=>(some t840)) else((spec_l1Terms.f k (rd_L3 x6 x7)).bind fun bt843=>(if 0≤(wrap64 ((bt843.2.length:Int)-1)) then(if(wrap64 ((bt843.2.length:Int)-1))<(bt843.2.length:Int) then(if((rd_L3 bt843.2 (wrap64 ((bt843.2.length:Int)-1))).length:Int)=1 then(if x1>0 then(if x8.length<17592186044416 then((spec_l3Step.f k (rd_L3 x6 x7) x1).bind fun t853=>(if x9.length<5864062014805 then((spec_l1Make.f k (x8++[x1]) (x9++[t853])).bind fun t859=>(some t859)) else(none))) else(none)) else((spec_l1Make.f k x8 x9).bind fun t862=>(some t862))) else(if x8.length<17592186044416 then((spec_l3Step.f k (rd_L3 x6 x7) x1).bind fun t868=>(if x9.length<5864062014805 then((spec_l1Make.f k (x8++[1]) (x9++[t868])).bind fun t874=>(some t874)) else(none))) else(none))) else(none)) else(none)))) else(none)) else(none)
def spec_l3Step.f:Nat→List Int→Int→Option (List Int)
 | 0,_,_=>none
 | k+1,l0,a1=>(spec_l1Terms.f k l0).bind fun bt799=>(if(wrap64 ((bt799.1.length:Int)-1))<0 then(some (([0]:List Int))) else((some (([]:List Int):List Int)).bind fun y808=>(if 0≤(wrap64 ((bt799.1.length:Int)-1)) then(if(wrap64 ((bt799.1.length:Int)-1))≤(bt799.1.length:Int) then((some (bt799.1.take ((wrap64 ((bt799.1.length:Int)-1)):Int).toNat:List Int)).bind fun y811=>(if y808.length+y811.length<17592186044416 then((some (y808++y811:List Int)).bind fun y816=>((some (([]:List (List Int)):List (List Int))).bind fun y819=>(if(wrap64 ((bt799.1.length:Int)-1))≤(bt799.2.length:Int) then((some (bt799.2.take ((wrap64 ((bt799.1.length:Int)-1)):Int).toNat:List (List Int))).bind fun y822=>(if y819.length+y822.length<5864062014805 then((some (y819++y822:List (List Int))).bind fun y827=>(if(wrap64 ((bt799.1.length:Int)-1))<(bt799.1.length:Int) then(if(rd bt799.1 (wrap64 ((bt799.1.length:Int)-1)))>1 then(if y816.length<17592186044416 then(if(wrap64 ((bt799.1.length:Int)-1))<(bt799.2.length:Int) then(if y827.length<5864062014805 then(spec_l3Step.j0 k a1 bt799.2 (wrap64 ((bt799.1.length:Int)-1)) (y816++[wrap64 ((rd bt799.1 (wrap64 ((bt799.1.length:Int)-1)))-1)]) (y827++[rd_L3 bt799.2 (wrap64 ((bt799.1.length:Int)-1))])) else(none)) else(none)) else(none)) else(spec_l3Step.j0 k a1 bt799.2 (wrap64 ((bt799.1.length:Int)-1)) y816 y827)) else(none))) else(none))) else(none)))) else(none))) else(none)) else(none))))
end
theorem spec_l3Step.mono_l:∀ k,(∀ y0 y1,LeO (spec_l3Step.f k y0 y1) (spec_l3Step.f (k+1) y0 y1))∧(∀ y0 y1 y2 y3 y4,LeO (spec_l3Step.j0 k y0 y1 y2 y3 y4) (spec_l3Step.j0 (k+1) y0 y1 y2 y3 y4))
 | 0=>⟨fun _ _ r h=>by simp[spec_l3Step.f] at h,fun _ _ _ _ _ r h=>by simp[spec_l3Step.j0] at h⟩
 | k+1=>by
  obtain⟨ih0,ih1⟩:=spec_l3Step.mono_l k
  refine⟨?_,?_⟩
  ·intro y0 y1
   unfold spec_l3Step.f
   repeat' first|(with_reducible first|exact ih0 _ _|exact ih1 _ _ _ _ _|exact spec_l1Terms.mono _ _|exact LeO.refl _|exact LeO.none _|refine LeO.ite ?_ ?_|refine LeO.bind ?_ (fun _=>?_))|exact ih0 _ _|exact ih1 _ _ _ _ _|exact spec_l1Terms.mono _ _|exact LeO.none _|refine LeO.ite ?_ ?_|refine LeO.bind ?_ (fun _=>?_)
  ·intro y0 y1 y2 y3 y4
   unfold spec_l3Step.j0
   repeat' first|(with_reducible first|exact ih0 _ _|exact ih1 _ _ _ _ _|exact spec_l1Make.mono _ _ _|exact spec_l1Terms.mono _ _|exact LeO.refl _|exact LeO.none _|refine LeO.ite ?_ ?_|refine LeO.bind ?_ (fun _=>?_))|exact ih0 _ _|exact ih1 _ _ _ _ _|exact spec_l1Make.mono _ _ _|exact spec_l1Terms.mono _ _|exact LeO.none _|refine LeO.ite ?_ ?_|refine LeO.bind ?_ (fun _=>?_)
theorem spec_l3Step.mono:∀ a0 a1 k,LeO (spec_l3Step.f k a0 a1) (spec_l3Step.f (k+1) a0 a1):=by
 intro a0 a1 k
 obtain⟨ih0,ih1⟩:=spec_l3Step.mono_l k
 exact ih0 a0 a1
set_option maxHeartbeats 8000000 in
set_option maxRecDepth 100000 in
theorem spec_l3Step.calls (k:Nat):∀ (A0:Option Addr) (c0:Nat) (l0:List Int) (a1:Int) (r:List Int) (w:World) (hr0:Kd.C (Kd.int .i64) w A0 l0.length l0) (hc0:l0.length≤c0) (h:spec_l3Step.f k l0 a1=some r),
  Calls Try.prog 87 #[.slice A0 l0.length c0,.int .i64 a1] w fun e w'=>∃ v0_:Value,e=.returned (v0_)∧Kd.R (Kd.int .i64) 3 w' w.heap.size (fun _=>True) v0_ r∧Below w.heap.size w w':=by
 induction k using Nat.strongRecOn with
 | _ k ih =>
 intro A0 c0 l0 a1 r w hr0 hc0 h
 cases k with
 | zero=>exact absurd h (by simp[spec_l3Step.f])
 | succ k =>
 simp only[spec_l3Step.f] at h
 have HR0:=Aside0.mk hr0
 have HC0:=Aside0.mk hc0
 clear hr0 hc0
 have HB:=Aside0.mk (Below.refl w.heap.size w)
 have H:((spec_l1Terms.f k l0).bind fun bt799=>(if(wrap64 ((bt799.1.length:Int)-1))<0 then(some (([0]:List Int))) else((some (([]:List Int):List Int)).bind fun y808=>(if 0≤(wrap64 ((bt799.1.length:Int)-1)) then(if(wrap64 ((bt799.1.length:Int)-1))≤(bt799.1.length:Int) then((some (bt799.1.take ((wrap64 ((bt799.1.length:Int)-1)):Int).toNat:List Int)).bind fun y811=>(if y808.length+y811.length<17592186044416 then((some (y808++y811:List Int)).bind fun y816=>((some (([]:List (List Int)):List (List Int))).bind fun y819=>(if(wrap64 ((bt799.1.length:Int)-1))≤(bt799.2.length:Int) then((some (bt799.2.take ((wrap64 ((bt799.1.length:Int)-1)):Int).toNat:List (List Int))).bind fun y822=>(if y819.length+y822.length<5864062014805 then((some (y819++y822:List (List Int))).bind fun y827=>(if(wrap64 ((bt799.1.length:Int)-1))<(bt799.1.length:Int) then(if(rd bt799.1 (wrap64 ((bt799.1.length:Int)-1)))>1 then(if y816.length<17592186044416 then(if(wrap64 ((bt799.1.length:Int)-1))<(bt799.2.length:Int) then(if y827.length<5864062014805 then(spec_l3Step.j0 k a1 bt799.2 (wrap64 ((bt799.1.length:Int)-1)) (y816++[wrap64 ((rd bt799.1 (wrap64 ((bt799.1.length:Int)-1)))-1)]) (y827++[rd_L3 bt799.2 (wrap64 ((bt799.1.length:Int)-1))])) else(none)) else(none)) else(none)) else(spec_l3Step.j0 k a1 bt799.2 (wrap64 ((bt799.1.length:Int)-1)) y816 y827)) else(none))) else(none))) else(none)))) else(none))) else(none)) else(none)))))=some r:=h
 clear h
 replace H:=Option.bind_eq_some_iff.mp H
 obtain⟨⟨t799,t802⟩,A30,H⟩:=H
 replace H:(if(wrap64 ((t799.length:Int)-1))<0 then(some (([0]:List Int))) else((some (([]:List Int):List Int)).bind fun y808=>(if 0≤(wrap64 ((t799.length:Int)-1)) then(if(wrap64 ((t799.length:Int)-1))≤(t799.length:Int) then((some (t799.take ((wrap64 ((t799.length:Int)-1)):Int).toNat:List Int)).bind fun y811=>(if y808.length+y811.length<17592186044416 then((some (y808++y811:List Int)).bind fun y816=>((some (([]:List (List Int)):List (List Int))).bind fun y819=>(if(wrap64 ((t799.length:Int)-1))≤(t802.length:Int) then((some (t802.take ((wrap64 ((t799.length:Int)-1)):Int).toNat:List (List Int))).bind fun y822=>(if y819.length+y822.length<5864062014805 then((some (y819++y822:List (List Int))).bind fun y827=>(if(wrap64 ((t799.length:Int)-1))<(t799.length:Int) then(if(rd t799 (wrap64 ((t799.length:Int)-1)))>1 then(if y816.length<17592186044416 then(if(wrap64 ((t799.length:Int)-1))<(t802.length:Int) then(if y827.length<5864062014805 then(spec_l3Step.j0 k a1 t802 (wrap64 ((t799.length:Int)-1)) (y816++[wrap64 ((rd t799 (wrap64 ((t799.length:Int)-1)))-1)]) (y827++[rd_L3 t802 (wrap64 ((t799.length:Int)-1))])) else(none)) else(none)) else(none)) else(spec_l3Step.j0 k a1 t802 (wrap64 ((t799.length:Int)-1)) y816 y827)) else(none))) else(none))) else(none)))) else(none))) else(none)) else(none))))=some r:=H
 have A3:=Aside0.mk A30
 clear A30
 by_cases c4:(wrap64 ((t799.length:Int)-1))<0
 ·rw[if_pos c4] at H
  have c4b0:decide ((wrap64 ((t799.length:Int)-1))<0)=true:=decide_eq_true c4
  clear c4
  obtain⟨y805,hy805⟩:∃ y_:List Int,y_=(([0]:List Int)):=⟨_,rfl⟩
  replace H:(some y805)=some r:=hz hy805 H
  have Ny805:=Aside0.mk hy805
  clear hy805
  obtain rfl:=Option.some.inj H
  go_enter Try.func87,Try.ntmps87
  go_wp2_with (first|((with_reducible refine gate_callee (f:=79) rfl ?_);refine goesL_ (some 15) rfl rfl Try.func79 (by kernel_rfl) rfl #[.slice A0 l0.length c0] rfl az ?_;(with_reducible refine(spec_l1Terms.calls k (fun k_=>k_<w.heap.size) _ _ l0 t799 t802 _ ?side1 A3.out).mono ?_);(case side1=>exact Kd.V_mk HC0.out (Kd.F_below (Kd.C_F (Kd.heap_int .i64) HR0.out) bz));rintro e w5 ⟨v800,v803,rfl,ho0,ho1,hb⟩;refine⟨_,rfl,?_⟩;have HO801:=Aside0.mk (Kd.R_lower (Kd.R_mono (ok':=fun k_=>True) ho0 (fun _ hk_=>trivial)) (below_size bz));have HO804:=Aside0.mk (Kd.N_lower (Kd.N_mono (ok':=fun k_=>some k_≠(v800:Value).ownBlock) ho1 (fun k_ hk_=>hk_.2)) (below_size bz));replace HB:=Aside0.mk (below_step bz hb);(try clear hb);(try clear hb2);(try clear hk);(try clear hi);(try clear ho0);(try clear ho1);obtain⟨Ao6,co6,eo6⟩:=Kd.R_slice HO801.out;subst eo6)|((with_reducible refine gate_dst (N:=23) rfl ?_);refine Kd.R_lit (Kd.int .i64) _ 3 ?hg (N:=23) ?hd (xs:=([0]:List Int)) (inner:=[.int .i64 0]) (ok:=fun _=>True) (okp:=fun _=>True) ?hr ?hp (fun _ hk=>hk) trivial (Below.refl _ _) (Nat.le_refl _) (by simp) ?_;(case hd=>rfl);(case hg=>rfl);(case hr=>first|(go_simp;done)|(go_simp;rfl));(case hp=>exact(Reps.one (show Kd.M (Kd.int .i64) _ _ _ 0 [.int .i64 0] from rfl) (Reps.none _ _)));intro v806 w7 ho8 hb hg_ hnew_;clear hg_ hnew_;(first|rw[← Ny805.out] at ho8|(simp only[Int.reduceToNat] at ho8;rw[← Ny805.out] at ho8));replace HO804:=Aside0.mk (Kd.N_elder' (Kd.Nz HO804.out) (Kd.R_base ho8) hb);have HO807:=Aside0.mk (Kd.R_lower (Kd.R_new' ho8 (Kd.R_lt (Kd.Rz HO801.out))) (below_size bz));replace HO801:=Aside0.mk (Kd.R_elder' (Kd.Rz HO801.out) (Kd.R_base ho8) hb);replace HB:=Aside0.mk (below_step bz hb);clear hb ho8))
  go_ret
  exact⟨_,by first|rfl|(simp[errW_none,errW_some]<;>rfl)|(simp[*,errW_none,errW_some]<;>rfl),Kd.Rz <| Kd.R_mono HO807.out (fun _ hk=>trivial),bz⟩
 ·rw[if_neg c4] at H
  have c4b0:decide ((wrap64 ((t799.length:Int)-1))<0)=false:=decide_eq_false c4
  clear c4
  obtain⟨y808,hy808⟩:∃ y_:List Int,y_=(([]:List Int)):=⟨_,rfl⟩
  replace H:(if 0≤(wrap64 ((t799.length:Int)-1)) then(if(wrap64 ((t799.length:Int)-1))≤(t799.length:Int) then((some (t799.take ((wrap64 ((t799.length:Int)-1)):Int).toNat:List Int)).bind fun y811=>(if y808.length+y811.length<17592186044416 then((some (y808++y811:List Int)).bind fun y816=>((some (([]:List (List Int)):List (List Int))).bind fun y819=>(if(wrap64 ((t799.length:Int)-1))≤(t802.length:Int) then((some (t802.take ((wrap64 ((t799.length:Int)-1)):Int).toNat:List (List Int))).bind fun y822=>(if y819.length+y822.length<5864062014805 then((some (y819++y822:List (List Int))).bind fun y827=>(if(wrap64 ((t799.length:Int)-1))<(t799.length:Int) then(if(rd t799 (wrap64 ((t799.length:Int)-1)))>1 then(if y816.length<17592186044416 then(if(wrap64 ((t799.length:Int)-1))<(t802.length:Int) then(if y827.length<5864062014805 then(spec_l3Step.j0 k a1 t802 (wrap64 ((t799.length:Int)-1)) (y816++[wrap64 ((rd t799 (wrap64 ((t799.length:Int)-1)))-1)]) (y827++[rd_L3 t802 (wrap64 ((t799.length:Int)-1))])) else(none)) else(none)) else(none)) else(spec_l3Step.j0 k a1 t802 (wrap64 ((t799.length:Int)-1)) y816 y827)) else(none))) else(none))) else(none)))) else(none))) else(none)) else(none))=some r:=hz hy808 H
  have Ny808:=Aside0.mk hy808
  clear hy808
  obtain⟨ji9,hji9⟩:∃ j_:Int,(wrap64 ((t799.length:Int)-1))=j_:=⟨_,rfl⟩
  replace H:(if 0≤(ji9) then(if(ji9)≤(t799.length:Int) then((some (t799.take ((ji9):Int).toNat:List Int)).bind fun y811=>(if y808.length+y811.length<17592186044416 then((some (y808++y811:List Int)).bind fun y816=>((some (([]:List (List Int)):List (List Int))).bind fun y819=>(if(ji9)≤(t802.length:Int) then((some (t802.take ((ji9):Int).toNat:List (List Int))).bind fun y822=>(if y819.length+y822.length<5864062014805 then((some (y819++y822:List (List Int))).bind fun y827=>(if(ji9)<(t799.length:Int) then(if(rd t799 (ji9))>1 then(if y816.length<17592186044416 then(if(ji9)<(t802.length:Int) then(if y827.length<5864062014805 then(spec_l3Step.j0 k a1 t802 ji9 (y816++[wrap64 ((rd t799 (ji9))-1)]) (y827++[rd_L3 t802 (ji9)])) else(none)) else(none)) else(none)) else(spec_l3Step.j0 k a1 t802 ji9 y816 y827)) else(none))) else(none))) else(none)))) else(none))) else(none)) else(none))=some r:=by first|(rw[hji9] at H;exact H)|(simp only[hji9] at H ⊢;exact H)
  (try rw[hji9] at c4b0)
  (try rw[hji9] at A3)
  have hji9w:(IntKind.i64.wrap ((t799.length:Int)-1))=ji9:=(i64_w _).trans hji9
  by_cases c10:0≤(ji9)
  ·rw[if_pos c10] at H
   have c10b0:=eq_true c10
   have c10b1:decide (0≤(ji9))=true:=decide_eq_true c10
   clear c10
   by_cases c11:(ji9)≤(t799.length:Int)
   ·rw[if_pos c11] at H
    have c11b0:=eq_true c11
    have c11b1:decide ((ji9)≤(t799.length:Int))=true:=decide_eq_true c11
    clear c11
    obtain⟨y811,hy811⟩:∃ y_:List Int,y_=(t799.take ((ji9):Int).toNat):=⟨_,rfl⟩
    replace H:(if y808.length+y811.length<17592186044416 then((some (y808++y811:List Int)).bind fun y816=>((some (([]:List (List Int)):List (List Int))).bind fun y819=>(if(ji9)≤(t802.length:Int) then((some (t802.take ((ji9):Int).toNat:List (List Int))).bind fun y822=>(if y819.length+y822.length<5864062014805 then((some (y819++y822:List (List Int))).bind fun y827=>(if(ji9)<(t799.length:Int) then(if(rd t799 (ji9))>1 then(if y816.length<17592186044416 then(if(ji9)<(t802.length:Int) then(if y827.length<5864062014805 then(spec_l3Step.j0 k a1 t802 ji9 (y816++[wrap64 ((rd t799 (ji9))-1)]) (y827++[rd_L3 t802 (ji9)])) else(none)) else(none)) else(none)) else(spec_l3Step.j0 k a1 t802 ji9 y816 y827)) else(none))) else(none))) else(none)))) else(none))=some r:=hz hy811 H
    have Ny811:=Aside0.mk hy811
    clear hy811
    by_cases c12:y808.length+y811.length<17592186044416
    ·rw[if_pos c12] at H
     have LMc12:=Aside0.mk c12
     clear c12
     obtain⟨y816,hy816⟩:∃ y_:List Int,y_=(y808++y811):=⟨_,rfl⟩
     replace H:((some (([]:List (List Int)):List (List Int))).bind fun y819=>(if(ji9)≤(t802.length:Int) then((some (t802.take ((ji9):Int).toNat:List (List Int))).bind fun y822=>(if y819.length+y822.length<5864062014805 then((some (y819++y822:List (List Int))).bind fun y827=>(if(ji9)<(t799.length:Int) then(if(rd t799 (ji9))>1 then(if y816.length<17592186044416 then(if(ji9)<(t802.length:Int) then(if y827.length<5864062014805 then(spec_l3Step.j0 k a1 t802 ji9 (y816++[wrap64 ((rd t799 (ji9))-1)]) (y827++[rd_L3 t802 (ji9)])) else(none)) else(none)) else(none)) else(spec_l3Step.j0 k a1 t802 ji9 y816 y827)) else(none))) else(none))) else(none)))=some r:=hz hy816 H
     have Ny816:=Aside0.mk hy816
     clear hy816
     obtain⟨y819,hy819⟩:∃ y_:List (List Int),y_=(([]:List (List Int))):=⟨_,rfl⟩
     replace H:(if(ji9)≤(t802.length:Int) then((some (t802.take ((ji9):Int).toNat:List (List Int))).bind fun y822=>(if y819.length+y822.length<5864062014805 then((some (y819++y822:List (List Int))).bind fun y827=>(if(ji9)<(t799.length:Int) then(if(rd t799 (ji9))>1 then(if y816.length<17592186044416 then(if(ji9)<(t802.length:Int) then(if y827.length<5864062014805 then(spec_l3Step.j0 k a1 t802 ji9 (y816++[wrap64 ((rd t799 (ji9))-1)]) (y827++[rd_L3 t802 (ji9)])) else(none)) else(none)) else(none)) else(spec_l3Step.j0 k a1 t802 ji9 y816 y827)) else(none))) else(none))) else(none))=some r:=hz hy819 H
     have Ny819:=Aside0.mk hy819
     clear hy819
     have c13b0:=eq_true (dz:0≤(ji9))
     by_cases c14:(ji9)≤(t802.length:Int)
     ·rw[if_pos c14] at H
      have c14b0:=eq_true c14
      have c14b1:decide ((ji9)≤(t802.length:Int))=true:=decide_eq_true c14
      clear c14
      obtain⟨y822,hy822⟩:∃ y_:List (List Int),y_=(t802.take ((ji9):Int).toNat):=⟨_,rfl⟩
      replace H:(if y819.length+y822.length<5864062014805 then((some (y819++y822:List (List Int))).bind fun y827=>(if(ji9)<(t799.length:Int) then(if(rd t799 (ji9))>1 then(if y816.length<17592186044416 then(if(ji9)<(t802.length:Int) then(if y827.length<5864062014805 then(spec_l3Step.j0 k a1 t802 ji9 (y816++[wrap64 ((rd t799 (ji9))-1)]) (y827++[rd_L3 t802 (ji9)])) else(none)) else(none)) else(none)) else(spec_l3Step.j0 k a1 t802 ji9 y816 y827)) else(none))) else(none))=some r:=hz hy822 H
      have Ny822:=Aside0.mk hy822
      clear hy822
      by_cases c15:y819.length+y822.length<5864062014805
      ·rw[if_pos c15] at H
       have LMc15:=Aside0.mk c15
       clear c15
       obtain⟨y827,hy827⟩:∃ y_:List (List Int),y_=(y819++y822):=⟨_,rfl⟩
       replace H:(if(ji9)<(t799.length:Int) then(if(rd t799 (ji9))>1 then(if y816.length<17592186044416 then(if(ji9)<(t802.length:Int) then(if y827.length<5864062014805 then(spec_l3Step.j0 k a1 t802 ji9 (y816++[wrap64 ((rd t799 (ji9))-1)]) (y827++[rd_L3 t802 (ji9)])) else(none)) else(none)) else(none)) else(spec_l3Step.j0 k a1 t802 ji9 y816 y827)) else(none))=some r:=hz hy827 H
       have Ny827:=Aside0.mk hy827
       clear hy827
       by_cases c16:(ji9)<(t799.length:Int)
       ·rw[if_pos c16] at H
        have c16b0:decide ((ji9)<(t799.length:Int))=true:=decide_eq_true c16
        clear c16
        have HC17:=Aside0.mk H
        clear H
        go_enter Try.func87,Try.ntmps87
        go_upto_if 38 with (first|((with_reducible refine gate_callee (f:=79) rfl ?_);refine goesL_ (some 15) rfl rfl Try.func79 (by kernel_rfl) rfl #[.slice A0 l0.length c0] rfl az ?_;(with_reducible refine(spec_l1Terms.calls k (fun k_=>k_<w.heap.size) _ _ l0 t799 t802 _ ?side1 A3.out).mono ?_);(case side1=>exact Kd.V_mk HC0.out (Kd.F_below (Kd.C_F (Kd.heap_int .i64) HR0.out) bz));rintro e w18 ⟨v800,v803,rfl,ho0,ho1,hb⟩;refine⟨_,rfl,?_⟩;have HO801:=Aside0.mk (Kd.R_lower (Kd.R_mono (ok':=fun k_=>True) ho0 (fun _ hk_=>trivial)) (below_size bz));have HO804:=Aside0.mk (Kd.N_lower (Kd.N_mono (ok':=fun k_=>some k_≠(v800:Value).ownBlock) ho1 (fun k_ hk_=>hk_.2)) (below_size bz));replace HB:=Aside0.mk (below_step bz hb);(try clear hb);(try clear hb2);(try clear hk);(try clear hi);(try clear ho0);(try clear ho1);obtain⟨Ao19,co19,eo19⟩:=Kd.R_slice HO801.out;subst eo19)|((with_reducible refine gate_dst (N:=24) rfl ?_);refine Kd.R_lit (Kd.int .i64) _ 3 ?hg (N:=24) ?hd (xs:=([]:List Int)) (inner:=[]) (ok:=fun _=>True) (okp:=fun _=>True) ?hr ?hp (fun _ hk=>hk) trivial (Below.refl _ _) (Nat.le_refl _) (by simp) ?_;(case hd=>rfl);(case hg=>rfl);(case hr=>first|(go_simp;done)|(go_simp;rfl));(case hp=>exact(Reps.none _ _));intro v809 w20 ho21 hb hg_ hnew_;clear hg_ hnew_;(first|rw[← Ny808.out] at ho21|(simp only[Int.reduceToNat] at ho21;rw[← Ny808.out] at ho21));replace HO804:=Aside0.mk (Kd.N_elder' (Kd.Nz HO804.out) (Kd.R_base ho21) hb);have HO810:=Aside0.mk (Kd.R_lower (Kd.R_new' ho21 (Kd.R_lt (Kd.Rz HO801.out))) (below_size bz));replace HO801:=Aside0.mk (Kd.R_elder' (Kd.Rz HO801.out) (Kd.R_base ho21) hb);replace HB:=Aside0.mk (below_step bz hb);clear hb ho21;have q22:((ji9):Int)≤((t799.length:Int):Int):=dz;obtain⟨i022,hi022,_,hsz22,_⟩:=info_parts info3;have hroom22:t799.length≤co19:=(Kd.R_reads' HO801.out).2.1;have hC22:Kd.F (Kd.int .i64) _ _ Ao19 t799.length t799:=(Kd.V_at (base:=w.heap.size) (Kd.R_V (Kd.R_apart' (HO801.out) (Kd.N_typed HO804.out) (by decide)))).2.2;have hcut22:=cut_to (P:=Try.prog) 25 3 .i64 Try.underlying25 hi022 Ao19 t799.length co19 (ji9) (dz) q22 hroom22;have hr22:=Kd.F_take (m:=((ji9):Int).toNat) hC22 (by omega);have hy22:y811.length=((ji9):Int).toNat:=(by rw[Ny811.out,List.length_take];omega);rw[← Ny811.out] at hr22;rw[← hy22] at hcut22;have HO815:=Aside0.mk (show Kd.V (Kd.int .i64) 3 _ w.heap.size _ (.slice Ao19 y811.length co19) y811 from Kd.V_mk (by omega) hr22);have HC815:=Aside0.mk (show y811.length≤co19 from by omega);clear hr22 hC22 hroom22 hi022 hsz22;have KY22:=Aside0.mk hy22;clear hy22;replace q22:=eq_true q22)|((with_reducible refine gate_builtin (b:=.append) (xs:=#[.tmp 24,.tmp 27]) rfl ?_);at_builtin;refine Kd.R_append_rows (Kd.int .i64) (w0:=w) w.heap.size rfl (.tmp 24) (.tmp 27) 25 3 (.int .i64 0) 8 rfl Try.underlying25 info3 rfl (by decide) (by omega) v809 y808 y811 _ _ _ (fun k_=>some k_≠(.slice Ao19 t799.length co19:Value).ownBlock) (fun _=>False) rfl rfl ?aO ?aR (fun _ _ h=>h) (fun _ h=>h.elim) ?aF ?aB ?aS ?aL ?_;(case aR=>repeat (first|exact(Kd.V_reads' HO815.out).2.2|(with_reducible refine Kd.C_alloc ?_ _)|(with_reducible refine Kd.C_drewN ?_ _)|(with_reducible refine Kd.C_drew ?_)));(case aB=>exact bz);(case aF=>exact(fun k_ hk=>Kd.fresh' (Kd.R_lt (Kd.Rz HO801.out)) k_ hk));(case aO=>exact(Kd.Rz <| Kd.R_mono HO810.out (fun _ hk=>hk.2)));(case aS=>exact(below_size bz));(case aL=>have:=LMc12.out;omega);intro v817 w23 ho hb hg hat;rw[← Ny816.out] at ho;replace HO801:=Aside0.mk (Kd.R_after (ok:=(fun _=>True)) (Kd.Rz HO801.out) hg hat);replace HO804:=Aside0.mk (Kd.N_afterv (ok:=(fun k_=>some k_≠(.slice Ao19 t799.length co19:Value).ownBlock)) (Kd.Nz HO804.out) hg hat);replace HO815:=Aside0.mk (Kd.V_afterv (ok:=(fun k_=>some k_≠(v803:Value).ownBlock)) (Kd.Vz <| Kd.V_mono HO815.out (fun _ hk=>⟨hk.2,hk.1.2⟩)) hg hat);replace HB:=Aside0.mk (hb);have HO818:=Aside0.mk (ho);clear HO810;clear ho hb hg hat)|((with_reducible refine gate_dst (N:=29) rfl ?_);refine Kd.N_lit (Kd.slice 3 (Kd.int .i64)) _ 25 ?hg (N':=29) ?hd (xs:=([]:List (List Int))) (inner:=[]) (ok:=(fun k_=>some k_≠(.slice Ao19 t799.length co19:Value).ownBlock∧some k_≠(v803:Value).ownBlock∧some k_≠(v817:Value).ownBlock)) (okp:=(fun k_=>some k_≠(.slice Ao19 t799.length co19:Value).ownBlock∧some k_≠(v803:Value).ownBlock∧some k_≠(v817:Value).ownBlock)) ?hr ?hp (fun _ hk=>hk) ((show ∀ k_,w23.heap.size≤k_→(fun k_=>some k_≠(.slice Ao19 t799.length co19:Value).ownBlock∧some k_≠(v803:Value).ownBlock∧some k_≠(v817:Value).ownBlock) k_ from fun k_ hk=>⟨Kd.fresh' (Kd.R_lt (Kd.Rz HO801.out)) k_ hk,Kd.fresh' (Kd.N_lt (Kd.Nz HO804.out)) k_ hk,Kd.fresh' (Kd.R_lt (Kd.Rz HO818.out)) k_ hk⟩) _ (Nat.le_refl _)) (Below.refl _ _) (Nat.le_refl _) (by simp) ?_;(case hd=>rfl);(case hg=>rfl);(case hr=>first|(go_simp;done)|(go_simp;rfl));(case hp=>exact(Reps.none _ _));intro v820 w24 ho25 hb hg_ hnew_;clear hg_ hnew_;(first|rw[← Ny819.out] at ho25|(simp only[Int.reduceToNat] at ho25;rw[← Ny819.out] at ho25));replace HO801:=Aside0.mk (Kd.R_below (Kd.Rz HO801.out) hb);replace HO804:=Aside0.mk (Kd.N_elder' (Kd.Nz HO804.out) (Kd.N_base ho25) hb);replace HO815:=Aside0.mk (Kd.V_elder' (Kd.Vz HO815.out) (Kd.N_base ho25) hb);replace HO818:=Aside0.mk (Kd.R_below (Kd.Rz HO818.out) hb);have HO821:=Aside0.mk (Kd.N_lower ho25 (below_size bz));replace HB:=Aside0.mk (below_step bz hb);clear hb ho25;obtain⟨Ao27,co27,eo27⟩:=Kd.N_slice HO804.out;subst eo27;have q26:((ji9):Int)≤((t802.length:Int):Int):=dz;obtain⟨i026,hi026,_,hsz26,_⟩:=info_parts info25;have hroom26:t802.length≤co27:=(Kd.N_reads' HO804.out).2.1;have hC26:Kd.F (Kd.slice 3 (Kd.int .i64)) _ _ Ao27 t802.length t802:=(Kd.V_at (base:=w.heap.size) (Kd.N_V HO804.out)).2.2;have hcut26:=cut_to (P:=Try.prog) 46 25 .i64 Try.underlying46 hi026 Ao27 t802.length co27 (ji9) (dz) q26 hroom26;have hr26:=Kd.F_take (m:=((ji9):Int).toNat) hC26 (by omega);have hy26:y822.length=((ji9):Int).toNat:=(by rw[Ny822.out,List.length_take];omega);rw[← Ny822.out] at hr26;rw[← hy26] at hcut26;have HO826:=Aside0.mk (show Kd.V (Kd.slice 3 (Kd.int .i64)) 25 _ w.heap.size _ (.slice Ao27 y822.length co27) y822 from Kd.V_mk (by omega) hr26);have HC826:=Aside0.mk (show y822.length≤co27 from by omega);clear hr26 hC26 hroom26 hi026 hsz26;have KY26:=Aside0.mk hy26;clear hy26;replace q26:=eq_true q26)|((with_reducible refine gate_builtin (b:=.append) (xs:=#[.tmp 29,.tmp 32]) rfl ?_);at_builtin;refine Kd.N_append_rows (Kd.slice 3 (Kd.int .i64)) (w0:=w) w.heap.size rfl (.tmp 29) (.tmp 32) 46 25 (.slice none 0 0) 24 rfl Try.underlying46 info25 rfl (by decide) (by omega) v820 y819 y822 _ _ _ (fun k_=>some k_≠(.slice Ao19 t799.length co19:Value).ownBlock∧some k_≠(v817:Value).ownBlock) (fun k_=>((fun k_=>some k_≠(.slice Ao19 t799.length co19:Value).ownBlock∧some k_≠(v817:Value).ownBlock)) k_∧some k_≠(v820:Value).ownBlock) rfl rfl ?aO ?aR (fun _ hk=>hk) ?aF ?aB ?aS ?aL ?_;(case aR=>exact(by skip;exact Kd.V_F (Kd.V_mono (ok':=(fun k_=>((fun k_=>some k_≠(.slice Ao19 t799.length co19:Value).ownBlock∧some k_≠(v817:Value).ownBlock)) k_∧some k_≠(v820:Value).ownBlock)) (HO826.out) (fun k_ hk=>⟨⟨hk.1.1,hk.1.2⟩,hk.2⟩))));(case aB=>exact bz);(case aF=>exact(fun k_ hk=>⟨Kd.fresh' (Kd.R_lt (Kd.Rz HO801.out)) k_ hk,Kd.fresh' (Kd.R_lt (Kd.Rz HO818.out)) k_ hk⟩));(case aO=>exact(Kd.Nz <| Kd.N_mono HO821.out (fun _ hk=>⟨hk.1,hk.2.2⟩)));(case aS=>exact(below_size bz));(case aL=>have:=LMc15.out;omega);intro v828 w28 ho hb hg hat;rw[← Ny827.out] at ho;replace HO801:=Aside0.mk (Kd.R_over' (Kd.Rz HO801.out) (Kd.N_typed (Kd.Nz HO821.out)) (by decide) hg);replace HO804:=Aside0.mk (Kd.N_afterv (ok:=(fun k_=>some k_≠(.slice Ao19 t799.length co19:Value).ownBlock∧some k_≠(v817:Value).ownBlock)) (Kd.Nz HO804.out) hg hat);replace HO815:=Aside0.mk (Kd.V_afterv (ok:=(fun k_=>some k_≠(.slice Ao27 t802.length co27:Value).ownBlock∧some k_≠(v817:Value).ownBlock)) (Kd.Vz HO815.out) hg hat);replace HO818:=Aside0.mk (Kd.R_over' (Kd.Rz HO818.out) (Kd.N_typed (Kd.Nz HO821.out)) (by decide) hg);replace HO826:=Aside0.mk (Kd.V_afterv (ok:=(fun k_=>some k_≠(.slice Ao19 t799.length co19:Value).ownBlock∧some k_≠(v817:Value).ownBlock)) (Kd.Vz HO826.out) hg hat);replace HB:=Aside0.mk (hb);have HO829:=Aside0.mk (ho);clear HO821;clear ho hb hg hat;have p830:0≤((ji9):Int):=dz;have q830:(ji9)<(t799.length:Int):=dz;obtain⟨ad830,e830,hx830_0⟩:=Kd.at_int (Kd.R_reads' HO801.out).2.2 (ji9) p830 q830;cases e830;replace p830:=eq_true p830;replace q830:=eq_true q830))
        (try simp only[Act.put,List.setIfInBounds_toArray,List.set_cons_zero,List.set_cons_succ])
        go_cut [8,9] (fun v8 v9 wc=>∃ (kq:Nat) (x8_16:List Int) (x9_16:List (List Int)),Aside0 (spec_l3Step.j0 kq a1 t802 ji9 x8_16 x9_16=some r)∧Aside0 (kq≤k)∧Aside0 (Kd.N (Kd.slice 3 (Kd.int .i64)) 25 wc w.heap.size (fun k_=>some k_≠(v8:Value).ownBlock∧some k_≠(v9:Value).ownBlock) (.slice Ao27 t802.length co27) t802)∧Aside0 (Kd.R (Kd.int .i64) 3 wc w.heap.size (fun _=>True) v8 x8_16)∧Aside0 (Kd.N (Kd.slice 3 (Kd.int .i64)) 25 wc w.heap.size (fun k_=>some k_≠(v8:Value).ownBlock) v9 x9_16)∧Aside0 (Below w.heap.size w wc))
        case first =>
         have H:=HC17.out
         clear HC17
         by_cases c29:(rd t799 (ji9))>1
         ·rw[if_pos c29] at H
          have c29b0:decide (1<(rd t799 (ji9)))=true:=decide_eq_true c29
          clear c29
          (first|rw[c29b0]|(simp only[i64_w,i32_w];rw[c29b0])|skip)
          by_cases c30:y816.length<17592186044416
          ·rw[if_pos c30] at H
           have LMc30:=Aside0.mk c30
           clear c30
           obtain⟨y832,hy832⟩:∃ y_:List Int,y_=(y816++[wrap64 ((rd t799 (ji9))-1)]):=⟨_,rfl⟩
           replace H:(if(ji9)<(t802.length:Int) then(if y827.length<5864062014805 then(spec_l3Step.j0 k a1 t802 ji9 y832 (y827++[rd_L3 t802 (ji9)])) else(none)) else(none))=some r:=hz hy832 H
           have Ny832:=Aside0.mk hy832
           clear hy832
           by_cases c31:(ji9)<(t802.length:Int)
           ·rw[if_pos c31] at H
            have c31b0:decide ((ji9)<(t802.length:Int))=true:=decide_eq_true c31
            clear c31
            by_cases c32:y827.length<5864062014805
            ·rw[if_pos c32] at H
             have LMc32:=Aside0.mk c32
             clear c32
             obtain⟨y836,hy836⟩:∃ y_:List (List Int),y_=(y827++[rd_L3 t802 (ji9)]):=⟨_,rfl⟩
             replace H:(spec_l3Step.j0 k a1 t802 ji9 y832 y836)=some r:=hz hy836 H
             have Ny836:=Aside0.mk hy836
             clear hy836
             have H':=Aside0.mk H
             clear H
             have p831:0≤((ji9):Int):=dz
             have q831:(ji9)<(t799.length:Int):=dz
             obtain⟨ad831,e831,hx831_0⟩:=Kd.at_int (Kd.R_reads' HO801.out).2.2 (ji9) p831 q831
             obtain rfl:ad830=ad831:=(by injection e831)
             replace p831:=eq_true p831
             replace q831:=eq_true q831
             go_wp2_with (first|((with_reducible refine gate_builtin (b:=.append) (xs:=#[.tmp 39,.tmp 45]) rfl ?_);at_builtin;refine Kd.R_append (Kd.int .i64) (w0:=w) w.heap.size rfl (.tmp 39) (.tmp 45) 25 3 (.int .i64 0) 8 rfl Try.underlying25 info3 rfl (by decide) (by omega) v817 y816 (wrap64 ((rd t799 (ji9))-1)) [.int .i64 (wrap64 ((rd t799 (ji9))-1))] (fun k_=>some k_≠(.slice (some ad830) t799.length co19:Value).ownBlock) (fun _=>False) rfl rfl ?aP (fun _ hk=>hk.elim) ?aF ?aO ?aB ?aS ?aL ?_;(case aP=>exact rfl);(case aB=>exact bz);(case aF=>exact(fun k_ hk=>Kd.fresh' (Kd.R_lt (Kd.Rz HO801.out)) k_ hk));(case aO=>exact(Kd.Rz HO818.out));(case aS=>exact(below_size bz));(case aL=>have:=LMc30.out;omega);intro v833 w33 ho hb hg hat;rw[← Ny832.out] at ho;replace HO801:=Aside0.mk (Kd.R_after (ok:=(fun _=>True)) (Kd.Rz HO801.out) hg hat);replace HO804:=Aside0.mk (Kd.N_afterv (ok:=(fun k_=>some k_≠(.slice (some ad830) t799.length co19:Value).ownBlock∧some k_≠(v828:Value).ownBlock)) (Kd.Nz <| Kd.N_mono HO804.out (fun _ hk=>⟨⟨hk.1.1,hk.2⟩,hk.1.2⟩)) hg hat);replace HO815:=Aside0.mk (Kd.V_afterv (ok:=(fun k_=>some k_≠(.slice Ao27 t802.length co27:Value).ownBlock∧some k_≠(v828:Value).ownBlock)) (Kd.Vz <| Kd.V_mono HO815.out (fun _ hk=>⟨⟨hk.1.1,hk.2⟩,hk.1.2⟩)) hg hat);replace HO826:=Aside0.mk (Kd.V_afterv (ok:=(fun k_=>some k_≠(.slice (some ad830) t799.length co19:Value).ownBlock∧some k_≠(v828:Value).ownBlock)) (Kd.Vz <| Kd.V_mono HO826.out (fun _ hk=>⟨⟨hk.1.1,hk.2⟩,hk.1.2⟩)) hg hat);replace HO829:=Aside0.mk (Kd.N_afterv (ok:=(fun k_=>some k_≠(.slice (some ad830) t799.length co19:Value).ownBlock)) (Kd.Nz HO829.out) hg hat);replace HB:=Aside0.mk (hb);have HO834:=Aside0.mk (ho);clear HO818;clear ho hb hg hat;have p835:0≤((ji9):Int):=dz;have q835:(ji9)<(t802.length:Int):=dz;obtain⟨ad835,A835_0,c835_0,e835,hx835_0,hl835_0,hi835_0⟩:=at_L3 (Kd.N_reads' HO804.out).2.2 (ji9) p835 q835;cases e835;obtain⟨ce835,hce835,hMe835,hcc835⟩:=Kd.N_get HO804.out [] (ji9) p835 (by first|exact q835|exact dz|(have e_:=(Kd.N_reads' HO804.out).1;omega));obtain⟨ua835_0,uc835_0,rfl,ul835_0,ge835_0⟩:=Kd.FK_slice_open hMe835;have hv835_0:=hcc835 0 _ rfl;rw[Nat.add_zero,show ((Kd.slice 3 (Kd.int .i64))).sz=1 from rfl,Nat.mul_one] at hv835_0;replace hv835_0:=Option.some.inj (hv835_0.symm.trans hx835_0);injection hv835_0 with hva_ hvn_ hvc_;rw[hva_] at ge835_0;rw[hvc_] at ul835_0;have HL835_0:=Aside0.mk (show Kd.V (Kd.int .i64) 3 _ w.heap.size _ _ (rd_L3 t802 (ji9)) from Kd.V_mk ul835_0 ge835_0);clear hva_ hvn_ hvc_ ge835_0 ul835_0;clear hcc835 hce835;have HR835_0:=Aside0.mk hi835_0;have HC835_0:=Aside0.mk hl835_0;clear hi835_0 hl835_0;replace p835:=eq_true p835;replace q835:=eq_true q835)|((with_reducible refine gate_builtin (b:=.append) (xs:=#[.tmp 47,.tmp 52]) rfl ?_);at_builtin;refine Kd.N_append (Kd.slice 3 (Kd.int .i64)) (w0:=w) w.heap.size rfl (.tmp 47) (.tmp 52) 46 25 (.slice none 0 0) 24 rfl Try.underlying46 info25 rfl (by decide) (by omega) v828 y827 (rd_L3 t802 (ji9)) [.slice A835_0 (rd_L3 t802 (ji9)).length c835_0] (fun k_=>some k_≠(.slice (some ad830) t799.length co19:Value).ownBlock∧some k_≠(v833:Value).ownBlock) (fun k_=>((fun k_=>some k_≠(.slice (some ad830) t799.length co19:Value).ownBlock∧some k_≠(v833:Value).ownBlock)) k_∧some k_≠(v828:Value).ownBlock) rfl rfl ?aP (fun _ hk=>hk) ?aF ?aO ?aB ?aS ?aL ?_;(case aP=>exact(Kd.FK_slice_mk (Kd.V_reads' (Kd.V_mono (ok':=(fun k_=>((fun k_=>some k_≠(.slice (some ad830) t799.length co19:Value).ownBlock∧some k_≠(v833:Value).ownBlock)) k_∧some k_≠(v828:Value).ownBlock)) (HL835_0.out) (fun k_ hk=>⟨⟨hk.1.1.1,hk.1.2⟩,hk.1.1.2⟩))).2.1 (Kd.V_F (Kd.V_mono (ok':=(fun k_=>((fun k_=>some k_≠(.slice (some ad830) t799.length co19:Value).ownBlock∧some k_≠(v833:Value).ownBlock)) k_∧some k_≠(v828:Value).ownBlock)) (HL835_0.out) (fun k_ hk=>⟨⟨hk.1.1.1,hk.1.2⟩,hk.1.1.2⟩)))));(case aB=>exact bz);(case aF=>exact(fun k_ hk=>⟨Kd.fresh' (Kd.R_lt (Kd.Rz HO801.out)) k_ hk,Kd.fresh' (Kd.R_lt (Kd.Rz HO834.out)) k_ hk⟩));(case aO=>exact(Kd.Nz HO829.out));(case aS=>exact(below_size bz));(case aL=>have:=LMc32.out;omega);intro v837 w34 ho hb hg hat;rw[← Ny836.out] at ho;replace HO801:=Aside0.mk (Kd.R_over' (Kd.Rz HO801.out) (Kd.N_typed (Kd.Nz HO829.out)) (by decide) hg);replace HO804:=Aside0.mk (Kd.N_afterv (ok:=(fun k_=>some k_≠(.slice (some ad830) t799.length co19:Value).ownBlock∧some k_≠(v833:Value).ownBlock)) (Kd.Nz <| Kd.N_mono HO804.out (fun _ hk=>⟨⟨hk.1.1,hk.2⟩,hk.1.2⟩)) hg hat);replace HO815:=Aside0.mk (Kd.V_afterv (ok:=(fun k_=>some k_≠(.slice (some ad835) t802.length co27:Value).ownBlock∧some k_≠(v833:Value).ownBlock)) (Kd.Vz <| Kd.V_mono HO815.out (fun _ hk=>⟨⟨hk.1.1,hk.2⟩,hk.1.2⟩)) hg hat);replace HO826:=Aside0.mk (Kd.V_afterv (ok:=(fun k_=>some k_≠(.slice (some ad830) t799.length co19:Value).ownBlock∧some k_≠(v833:Value).ownBlock)) (Kd.Vz <| Kd.V_mono HO826.out (fun _ hk=>⟨⟨hk.1.1,hk.2⟩,hk.1.2⟩)) hg hat);replace HO834:=Aside0.mk (Kd.R_over' (Kd.Rz HO834.out) (Kd.N_typed (Kd.Nz HO829.out)) (by decide) hg);replace HL835_0:=Aside0.mk (Kd.V_afterv (ok:=(fun k_=>some k_≠(.slice (some ad830) t799.length co19:Value).ownBlock∧some k_≠(.slice (some ad835) t802.length co27:Value).ownBlock∧some k_≠(v833:Value).ownBlock)) (Kd.Vz <| Kd.V_mono HL835_0.out (fun _ hk=>⟨⟨hk.1.1.1,⟨hk.2,hk.1.2⟩⟩,hk.1.1.2⟩)) hg hat);replace HB:=Aside0.mk (hb);have HO838:=Aside0.mk (ho);clear HO829;clear ho hb hg hat))
             go_meet
             case rel=>exact⟨_,(y832),(y836),H',⟨by first|omega|exact Nat.le_refl _⟩,⟨Kd.Nz <| Kd.N_mono HO804.out (fun _ hk=>⟨hk.1.2,hk.2⟩)⟩,⟨Kd.Rz <| Kd.R_mono HO834.out (fun _ hk=>trivial)⟩,⟨Kd.Nz <| Kd.N_mono HO838.out (fun _ hk=>hk.2)⟩,⟨bz⟩⟩
            ·rw[if_neg c32] at H
             exact absurd H (by simp)
           ·rw[if_neg c31] at H
            exact absurd H (by simp)
          ·rw[if_neg c30] at H
           exact absurd H (by simp)
         ·rw[if_neg c29] at H
          have c29b0:decide (1<(rd t799 (ji9)))=false:=decide_eq_false c29
          clear c29
          (first|rw[c29b0]|(simp only[i64_w,i32_w];rw[c29b0])|skip)
          have H':=Aside0.mk H
          clear H
          go_wp2
          go_meet
          case rel=>exact⟨_,(y816),(y827),H',⟨by first|omega|exact Nat.le_refl _⟩,⟨Kd.Nz <| Kd.N_mono HO804.out (fun _ hk=>⟨hk.1.2,hk.2⟩)⟩,⟨Kd.Rz <| Kd.R_mono HO818.out (fun _ hk=>trivial)⟩,⟨Kd.Nz <| Kd.N_mono HO829.out (fun _ hk=>hk.2)⟩,⟨bz⟩⟩
        case rest =>
         clear HC17
         try clear c1
         try clear c2
         try clear p2
         try clear q2
         try clear c3
         try clear c4
         try clear c4b0
         try clear p6
         try clear c7
         try clear c8
         try clear p8
         try clear q8
         try clear hx8
         try clear c10
         try clear c10b0
         try clear c10b1
         try clear c11
         try clear c11b0
         try clear c11b1
         try clear c12
         try clear c13
         try clear c13b0
         try clear c14
         try clear c14b0
         try clear c14b1
         try clear c15
         try clear c16
         try clear c16b0
         try clear q22
         try clear q26
         try clear c29
         try clear c29b0
         try clear c30
         try clear c31
         try clear c31b0
         try clear c32
         try clear hx830_0
         try clear hx831_0
         try clear hx835_0
         try clear p830
         try clear p831
         try clear p835
         try clear q22
         try clear q26
         try clear q830
         try clear q831
         try clear q835
         obtain⟨kq,x8_16,x9_16,HA,HJ16,HO_6,HO_8,HO_9,HB⟩:=hcut
         cases kq with
         | zero=>exact absurd HA.out (by simp[spec_l3Step.j0])
         | succ kj16 =>
          have H:=HA.out
          clear HA
          simp only[spec_l3Step.j0] at H
          by_cases c35:0≤ji9
          ·rw[if_pos c35] at H
           have c35b0:decide (0≤ji9)=true:=decide_eq_true c35
           clear c35
           by_cases c36:ji9<(t802.length:Int)
           ·rw[if_pos c36] at H
            have c36b0:decide (ji9<(t802.length:Int))=true:=decide_eq_true c36
            clear c36
            by_cases c37:((rd_L3 t802 ji9).length:Int)=1
            ·rw[if_pos c37] at H
             have c37b0:(((rd_L3 t802 ji9).length:Int) == 1)=true:=beq_iff_eq.mpr c37
             have c37b1:(((rd_L3 t802 ji9).length:Int) != 1)=false:=bne_eq_false_iff_eq.mpr c37
             clear c37
             replace H:=Option.bind_eq_some_iff.mp H
             obtain⟨t840,A380,H⟩:=H
             replace H:(some t840)=some r:=H
             have A38:=Aside0.mk A380
             clear A380
             obtain rfl:=Option.some.inj H
             have p839:0≤(ji9:Int):=dz
             have q839:ji9<(t802.length:Int):=dz
             obtain⟨ad839,A839_0,c839_0,e839,hx839_0,hl839_0,hi839_0⟩:=at_L3 (Kd.N_reads' HO_6.out).2.2 ji9 p839 q839
             cases e839
             obtain⟨ce839,hce839,hMe839,hcc839⟩:=Kd.N_get HO_6.out [] ji9 p839 (by first|exact q839|exact dz|(have e_:=(Kd.N_reads' HO_6.out).1;omega))
             obtain⟨ua839_0,uc839_0,rfl,ul839_0,ge839_0⟩:=Kd.FK_slice_open hMe839
             have hv839_0:=hcc839 0 _ rfl
             rw[Nat.add_zero,show ((Kd.slice 3 (Kd.int .i64))).sz=1 from rfl,Nat.mul_one] at hv839_0
             replace hv839_0:=Option.some.inj (hv839_0.symm.trans hx839_0)
             injection hv839_0 with hva_ hvn_ hvc_
             rw[hva_] at ge839_0
             rw[hvc_] at ul839_0
             have HL839_0:=Aside0.mk (show Kd.V (Kd.int .i64) 3 _ w.heap.size _ _ (rd_L3 t802 ji9) from Kd.V_mk ul839_0 ge839_0)
             clear hva_ hvn_ hvc_ ge839_0 ul839_0
             clear hcc839 hce839
             have HR839_0:=Aside0.mk hi839_0
             have HC839_0:=Aside0.mk hl839_0
             clear hi839_0 hl839_0
             replace p839:=eq_true p839
             replace q839:=eq_true q839
             obtain⟨Ao39,co39,eo39⟩:=Kd.R_slice HO_8.out
             subst eo39
             obtain⟨Ao40,co40,eo40⟩:=Kd.N_slice HO_9.out
             subst eo40
             go_wp2_with (first|((with_reducible refine gate_callee (f:=61) rfl ?_);refine goesL_ (some 63) rfl rfl Try.func61 (by kernel_rfl) rfl #[.slice Ao39 x8_16.length co39,.slice Ao40 x9_16.length co40] rfl az ?_;(with_reducible refine(spec_l1Make.calls kj16 _ _ x8_16 _ _ x9_16 t840 _ ?side1 ?side2 ?side3 ?side4 A38.out).mono ?_);(case side1=>exact Kd.Cz (Kd.R_reads' HO_8.out).2.2);(case side2=>exact(Kd.R_reads' HO_8.out).2.1);(case side3=>exact Kd.Cz (Kd.N_reads' HO_9.out).2.2);(case side4=>exact(Kd.N_reads' HO_9.out).2.1);rintro e w41 ⟨v841,rfl,ho0,hb⟩;refine⟨_,rfl,?_⟩;replace HO_6:=Aside0.mk (Kd.N_elder' (Kd.Nz HO_6.out) (Kd.R_base ho0) hb);replace HO_9:=Aside0.mk (Kd.N_elder' (Kd.Nz HO_9.out) (Kd.R_base ho0) hb);replace HL839_0:=Aside0.mk (Kd.V_elder' (Kd.Vz HL839_0.out) (Kd.R_base ho0) hb);have HO842:=Aside0.mk (Kd.R_lower (Kd.R_new' ho0 (Kd.R_lt (Kd.Rz HO_8.out))) (below_size bz));replace HO_8:=Aside0.mk (Kd.R_elder' (Kd.Rz HO_8.out) (Kd.R_base ho0) hb);replace HR839_0:=Aside0.mk (Kd.C_below (by repeat (first|(with_reducible exact HR839_0.out)|(with_reducible refine Kd.C_alloc ?_ _)|(with_reducible refine Kd.C_drewN ?_ _)|(with_reducible refine Kd.C_drew ?_)|exact HR839_0.out)) hb);replace HB:=Aside0.mk (below_step bz hb);(try clear hb);(try clear hb2);(try clear hk);(try clear hi);(try clear ho0)))
             go_ret
             exact⟨_,by first|rfl|(simp[errW_none,errW_some]<;>rfl)|(simp only[← hji9];first|rfl|(simp[errW_none,errW_some]<;>rfl))|(simp[*,errW_none,errW_some]<;>rfl),Kd.Rz <| Kd.R_mono HO842.out (fun _ hk=>trivial),bz⟩
            ·rw[if_neg c37] at H
             have c37b0:(((rd_L3 t802 ji9).length:Int) == 1)=false:=beq_eq_false_iff_ne.mpr c37
             have c37b1:(((rd_L3 t802 ji9).length:Int) != 1)=true:=bne_iff_ne.mpr c37
             replace H:=Option.bind_eq_some_iff.mp H
             obtain⟨⟨t843,t846⟩,A420,H⟩:=H
             replace H:(if 0≤(wrap64 ((t846.length:Int)-1)) then(if(wrap64 ((t846.length:Int)-1))<(t846.length:Int) then(if((rd_L3 t846 (wrap64 ((t846.length:Int)-1))).length:Int)=1 then(if a1>0 then(if x8_16.length<17592186044416 then((spec_l3Step.f kj16 (rd_L3 t802 ji9) a1).bind fun t853=>(if x9_16.length<5864062014805 then((spec_l1Make.f kj16 (x8_16++[a1]) (x9_16++[t853])).bind fun t859=>(some t859)) else(none))) else(none)) else((spec_l1Make.f kj16 x8_16 x9_16).bind fun t862=>(some t862))) else(if x8_16.length<17592186044416 then((spec_l3Step.f kj16 (rd_L3 t802 ji9) a1).bind fun t868=>(if x9_16.length<5864062014805 then((spec_l1Make.f kj16 (x8_16++[1]) (x9_16++[t868])).bind fun t874=>(some t874)) else(none))) else(none))) else(none)) else(none))=some r:=H
             have A42:=Aside0.mk A420
             clear A420
             obtain⟨ji43,hji43⟩:∃ j_:Int,(wrap64 ((t846.length:Int)-1))=j_:=⟨_,rfl⟩
             replace H:(if 0≤(ji43) then(if(ji43)<(t846.length:Int) then(if((rd_L3 t846 (ji43)).length:Int)=1 then(if a1>0 then(if x8_16.length<17592186044416 then((spec_l3Step.f kj16 (rd_L3 t802 ji9) a1).bind fun t853=>(if x9_16.length<5864062014805 then((spec_l1Make.f kj16 (x8_16++[a1]) (x9_16++[t853])).bind fun t859=>(some t859)) else(none))) else(none)) else((spec_l1Make.f kj16 x8_16 x9_16).bind fun t862=>(some t862))) else(if x8_16.length<17592186044416 then((spec_l3Step.f kj16 (rd_L3 t802 ji9) a1).bind fun t868=>(if x9_16.length<5864062014805 then((spec_l1Make.f kj16 (x8_16++[1]) (x9_16++[t868])).bind fun t874=>(some t874)) else(none))) else(none))) else(none)) else(none))=some r:=by first|(rw[hji43] at H;exact H)|(simp only[hji43] at H ⊢;exact H)
             (try rw[hji43] at A42)
             have hji43w:(IntKind.i64.wrap ((t846.length:Int)-1))=ji43:=(i64_w _).trans hji43
             by_cases c44:0≤(ji43)
             ·rw[if_pos c44] at H
              have c44b0:decide (0≤(ji43))=true:=decide_eq_true c44
              clear c44
              by_cases c45:(ji43)<(t846.length:Int)
              ·rw[if_pos c45] at H
               have c45b0:decide ((ji43)<(t846.length:Int))=true:=decide_eq_true c45
               clear c45
               by_cases c46:((rd_L3 t846 (ji43)).length:Int)=1
               ·rw[if_pos c46] at H
                have c46b0:(((rd_L3 t846 (ji43)).length:Int) == 1)=true:=beq_iff_eq.mpr c46
                have c46b1:(((rd_L3 t846 (ji43)).length:Int) != 1)=false:=bne_eq_false_iff_eq.mpr c46
                clear c46
                by_cases c47:a1>0
                ·rw[if_pos c47] at H
                 have c47b0:decide (0<a1)=true:=decide_eq_true c47
                 clear c47
                 by_cases c48:x8_16.length<17592186044416
                 ·rw[if_pos c48] at H
                  have LMc48:=Aside0.mk c48
                  clear c48
                  obtain⟨y850,hy850⟩:∃ y_:List Int,y_=(x8_16++[a1]):=⟨_,rfl⟩
                  replace H:((spec_l3Step.f kj16 (rd_L3 t802 ji9) a1).bind fun t853=>(if x9_16.length<5864062014805 then((spec_l1Make.f kj16 y850 (x9_16++[t853])).bind fun t859=>(some t859)) else(none)))=some r:=hz hy850 H
                  have Ny850:=Aside0.mk hy850
                  clear hy850
                  replace H:=Option.bind_eq_some_iff.mp H
                  obtain⟨t853,A490,H⟩:=H
                  replace H:(if x9_16.length<5864062014805 then((spec_l1Make.f kj16 y850 (x9_16++[t853])).bind fun t859=>(some t859)) else(none))=some r:=H
                  have A49:=Aside0.mk A490
                  clear A490
                  by_cases c50:x9_16.length<5864062014805
                  ·rw[if_pos c50] at H
                   have LMc50:=Aside0.mk c50
                   clear c50
                   obtain⟨y856,hy856⟩:∃ y_:List (List Int),y_=(x9_16++[t853]):=⟨_,rfl⟩
                   replace H:((spec_l1Make.f kj16 y850 y856).bind fun t859=>(some t859))=some r:=hz hy856 H
                   have Ny856:=Aside0.mk hy856
                   clear hy856
                   replace H:=Option.bind_eq_some_iff.mp H
                   obtain⟨t859,A510,H⟩:=H
                   replace H:(some t859)=some r:=H
                   have A51:=Aside0.mk A510
                   clear A510
                   obtain rfl:=Option.some.inj H
                   have p839:0≤(ji9:Int):=dz
                   have q839:ji9<(t802.length:Int):=dz
                   obtain⟨ad839,A839_0,c839_0,e839,hx839_0,hl839_0,hi839_0⟩:=at_L3 (Kd.N_reads' HO_6.out).2.2 ji9 p839 q839
                   cases e839
                   obtain⟨ce839,hce839,hMe839,hcc839⟩:=Kd.N_get HO_6.out [] ji9 p839 (by first|exact q839|exact dz|(have e_:=(Kd.N_reads' HO_6.out).1;omega))
                   obtain⟨ua839_0,uc839_0,rfl,ul839_0,ge839_0⟩:=Kd.FK_slice_open hMe839
                   have hv839_0:=hcc839 0 _ rfl
                   rw[Nat.add_zero,show ((Kd.slice 3 (Kd.int .i64))).sz=1 from rfl,Nat.mul_one] at hv839_0
                   replace hv839_0:=Option.some.inj (hv839_0.symm.trans hx839_0)
                   injection hv839_0 with hva_ hvn_ hvc_
                   rw[hva_] at ge839_0
                   rw[hvc_] at ul839_0
                   have HL839_0:=Aside0.mk (show Kd.V (Kd.int .i64) 3 _ w.heap.size _ _ (rd_L3 t802 ji9) from Kd.V_mk ul839_0 ge839_0)
                   clear hva_ hvn_ hvc_ ge839_0 ul839_0
                   clear hcc839 hce839
                   have HR839_0:=Aside0.mk hi839_0
                   have HC839_0:=Aside0.mk hl839_0
                   clear hi839_0 hl839_0
                   replace p839:=eq_true p839
                   replace q839:=eq_true q839
                   go_wp2_with (first|((with_reducible refine gate_callee (f:=79) rfl ?_);refine goesL_ (some 66) rfl rfl Try.func79 (by kernel_rfl) rfl #[.slice A839_0 (rd_L3 t802 ji9).length c839_0] rfl (by(try simp only[List.map_toArray,List.map_cons,List.map_nil]);first|done|(simp only[hji9];rfl)|rfl|(simp only[List.length_drop,List.length_take];rfl)) ?_;(with_reducible refine(spec_l1Terms.calls kj16 (fun k_=>((some k_≠(u8:Value).ownBlock∧some k_≠(u9:Value).ownBlock)∧some k_≠(.slice (some ad839) t802.length co27:Value).ownBlock)) _ _ (rd_L3 t802 ji9) t843 t846 _ ?side1 A42.out).mono ?_);(case side1=>exact HL839_0.out);rintro e w52 ⟨v844,v847,rfl,ho0,ho1,hb⟩;refine⟨_,rfl,?_⟩;replace HL839_0:=Aside0.mk (Kd.V_mono (Kd.V_told (Kd.V_told (Kd.V_old (Kd.Vz HL839_0.out) hb) (Kd.R_base ho0)) (Kd.N_base ho1)) (fun _ h_=>h_.1));have HO845:=Aside0.mk (Kd.R_lower (Kd.R_new' (Kd.R_mono (ok':=fun k_=>True) ho0 (fun _ hk_=>trivial)) (Kd.R_lt (Kd.Rz HO_8.out))) (below_size bz));have HO848:=Aside0.mk (Kd.N_lower (Kd.N_mono (ok':=fun k_=>some k_≠(v844:Value).ownBlock∧some k_≠(.slice (some ad839) t802.length co27:Value).ownBlock∧some k_≠(u8:Value).ownBlock∧some k_≠(u9:Value).ownBlock) ho1 (fun k_ hk_=>⟨hk_.2,Or.elim hk_.1 (fun hs_=>hs_.2) (fun hn_=>(Kd.fresh' (Kd.N_lt (Kd.Nz HO_6.out)) k_ hn_)),Or.elim hk_.1 (fun hs_=>hs_.1.1) (fun hn_=>(Kd.fresh' (Kd.R_lt (Kd.Rz HO_8.out)) k_ hn_)),Or.elim hk_.1 (fun hs_=>hs_.1.2) (fun hn_=>(Kd.fresh' (Kd.N_lt (Kd.Nz HO_9.out)) k_ hn_))⟩)) (below_size bz));replace HO_6:=Aside0.mk (Kd.N_mono (Kd.N_told (Kd.N_told (Kd.N_old (Kd.Nz HO_6.out) hb) (Kd.R_base ho0)) (Kd.N_base ho1)) (fun _ h_=>h_.1));replace HO_8:=Aside0.mk (Kd.R_elder' (Kd.Rz HO_8.out) (Kd.R_base ho0) hb);replace HO_9:=Aside0.mk (Kd.N_mono (Kd.N_told (Kd.N_told (Kd.N_old (Kd.Nz HO_9.out) hb) (Kd.R_base ho0)) (Kd.N_base ho1)) (fun _ h_=>h_.1));replace HR839_0:=Aside0.mk (Kd.C_below (by repeat (first|(with_reducible exact HR839_0.out)|(with_reducible refine Kd.C_alloc ?_ _)|(with_reducible refine Kd.C_drewN ?_ _)|(with_reducible refine Kd.C_drew ?_)|exact HR839_0.out)) hb);replace HB:=Aside0.mk (below_step bz hb);(try clear hb);(try clear hb2);(try clear hk);(try clear hi);(try clear ho0);(try clear ho1);obtain⟨Ao53,co53,eo53⟩:=Kd.N_slice HO848.out;subst eo53;have p849:0≤((ji43):Int):=dz;have q849:(ji43)<(t846.length:Int):=dz;obtain⟨ad849,A849_0,c849_0,e849,hx849_0,hl849_0,hi849_0⟩:=at_L3 (Kd.N_reads' HO848.out).2.2 (ji43) p849 q849;cases e849;obtain⟨ce849,hce849,hMe849,hcc849⟩:=Kd.N_get HO848.out [] (ji43) p849 (by first|exact q849|exact dz|(have e_:=(Kd.N_reads' HO848.out).1;omega));obtain⟨ua849_0,uc849_0,rfl,ul849_0,ge849_0⟩:=Kd.FK_slice_open hMe849;have hv849_0:=hcc849 0 _ rfl;rw[Nat.add_zero,show ((Kd.slice 3 (Kd.int .i64))).sz=1 from rfl,Nat.mul_one] at hv849_0;replace hv849_0:=Option.some.inj (hv849_0.symm.trans hx849_0);injection hv849_0 with hva_ hvn_ hvc_;rw[hva_] at ge849_0;rw[hvc_] at ul849_0;have HL849_0:=Aside0.mk (show Kd.V (Kd.int .i64) 3 _ w.heap.size _ _ (rd_L3 t846 (ji43)) from Kd.V_mk ul849_0 ge849_0);clear hva_ hvn_ hvc_ ge849_0 ul849_0;clear hcc849 hce849;have HR849_0:=Aside0.mk hi849_0;have HC849_0:=Aside0.mk hl849_0;clear hi849_0 hl849_0;replace p849:=eq_true p849;replace q849:=eq_true q849)|((with_reducible refine gate_builtin (b:=.append) (xs:=#[.tmp 79,.tmp 81]) rfl ?_);at_builtin;refine Kd.R_append (Kd.int .i64) (w0:=w) w.heap.size rfl (.tmp 79) (.tmp 81) 25 3 (.int .i64 0) 8 rfl Try.underlying25 info3 rfl (by decide) (by omega) u8 x8_16 a1 [.int .i64 a1] (fun k_=>some k_≠(v844:Value).ownBlock) (fun _=>False) rfl rfl ?aP (fun _ hk=>hk.elim) ?aF ?aO ?aB ?aS ?aL ?_;(case aP=>exact rfl);(case aB=>exact bz);(case aF=>exact(fun k_ hk=>Kd.fresh' (Kd.R_lt (Kd.Rz HO845.out)) k_ hk));(case aO=>exact(Kd.Rz <| Kd.R_mono HO_8.out (fun _ hk=>hk.2)));(case aS=>exact(below_size bz));(case aL=>have:=LMc48.out;omega);intro v851 w54 ho hb hg hat;rw[← Ny850.out] at ho;replace HO_6:=Aside0.mk (Kd.N_afterv (ok:=(fun k_=>some k_≠(u9:Value).ownBlock∧some k_≠(v844:Value).ownBlock∧some k_≠(.slice (some ad849) t846.length co53:Value).ownBlock)) (Kd.Nz <| Kd.N_mono HO_6.out (fun _ hk=>⟨⟨hk.1.1.2,⟨hk.1.2,hk.2⟩⟩,hk.1.1.1⟩)) hg hat);replace HO_9:=Aside0.mk (Kd.N_afterv (ok:=(fun k_=>some k_≠(v844:Value).ownBlock∧some k_≠(.slice (some ad849) t846.length co53:Value).ownBlock)) (Kd.Nz <| Kd.N_mono HO_9.out (fun _ hk=>⟨⟨hk.1.2,hk.2⟩,hk.1.1⟩)) hg hat);replace HL839_0:=Aside0.mk (Kd.V_afterv (ok:=(fun k_=>some k_≠(.slice (some ad839) t802.length co27:Value).ownBlock∧some k_≠(u9:Value).ownBlock∧some k_≠(v844:Value).ownBlock∧some k_≠(.slice (some ad849) t846.length co53:Value).ownBlock)) (Kd.Vz <| Kd.V_mono HL839_0.out (fun _ hk=>⟨⟨hk.1.1.2,⟨hk.1.1.1.2,⟨hk.1.2,hk.2⟩⟩⟩,hk.1.1.1.1⟩)) hg hat);replace HO845:=Aside0.mk (Kd.R_after (ok:=(fun _=>True)) (Kd.Rz HO845.out) hg hat);replace HO848:=Aside0.mk (Kd.N_afterv (ok:=(fun k_=>some k_≠(.slice (some ad839) t802.length co27:Value).ownBlock∧some k_≠(u9:Value).ownBlock∧some k_≠(v844:Value).ownBlock)) (Kd.Nz <| Kd.N_mono HO848.out (fun _ hk=>⟨⟨hk.2.1,⟨hk.2.2.2,hk.1⟩⟩,hk.2.2.1⟩)) hg hat);replace HL849_0:=Aside0.mk (Kd.V_afterv (ok:=(fun k_=>some k_≠(.slice (some ad839) t802.length co27:Value).ownBlock∧some k_≠(u9:Value).ownBlock∧some k_≠(v844:Value).ownBlock∧some k_≠(.slice (some ad849) t846.length co53:Value).ownBlock)) (Kd.Vz <| Kd.V_mono HL849_0.out (fun _ hk=>⟨⟨hk.1.2.1,⟨hk.1.2.2.2,⟨hk.1.1,hk.2⟩⟩⟩,hk.1.2.2.1⟩)) hg hat);replace HB:=Aside0.mk (hb);have HO852:=Aside0.mk (ho);clear HO_8;clear ho hb hg hat)|((with_reducible refine gate_callee (f:=87) rfl ?_);refine goesL_ (some 86) rfl rfl Try.func87 (by kernel_rfl) rfl #[.slice A839_0 (rd_L3 t802 ji9).length c839_0,.int .i64 a1] rfl (by(try simp only[List.map_toArray,List.map_cons,List.map_nil]);first|done|(simp only[hji9];rfl)|rfl|(simp only[List.length_drop,List.length_take];rfl)) ?_;(with_reducible refine(ih kj16 (by have:=HJ16.out;omega) _ _ (rd_L3 t802 ji9) a1 t853 _ ?side1 ?side2 A49.out).mono ?_);(case side1=>repeat (first|exact((Kd.V_reads' (Kd.Vz HL839_0.out)).2.2)|(with_reducible refine Kd.C_alloc ?_ _)|(with_reducible refine Kd.C_drewN ?_ _)|(with_reducible refine Kd.C_drew ?_)));(case side2=>exact HC839_0.out);rintro e w55 ⟨v854,rfl,ho0,hb⟩;refine⟨_,rfl,?_⟩;replace HO_6:=Aside0.mk (Kd.N_elder' (Kd.Nz HO_6.out) (Kd.R_base ho0) hb);replace HO_9:=Aside0.mk (Kd.N_elder' (Kd.Nz HO_9.out) (Kd.R_base ho0) hb);replace HL839_0:=Aside0.mk (Kd.V_elder' (Kd.Vz HL839_0.out) (Kd.R_base ho0) hb);replace HO848:=Aside0.mk (Kd.N_elder' (Kd.Nz HO848.out) (Kd.R_base ho0) hb);replace HL849_0:=Aside0.mk (Kd.V_elder' (Kd.Vz HL849_0.out) (Kd.R_base ho0) hb);have HO855:=Aside0.mk (Kd.R_lower (Kd.R_new' (Kd.R_new' ho0 (Kd.R_lt (Kd.Rz HO845.out))) (Kd.R_lt (Kd.Rz HO852.out))) (below_size bz));replace HO845:=Aside0.mk (Kd.R_elder' (Kd.Rz HO845.out) (Kd.R_base ho0) hb);replace HO852:=Aside0.mk (Kd.R_elder' (Kd.Rz HO852.out) (Kd.R_base ho0) hb);replace HB:=Aside0.mk (below_step bz hb);(try clear hb);(try clear hb2);(try clear hk);(try clear hi);(try clear ho0);obtain⟨Ao57,co57,eo57⟩:=Kd.R_slice HO855.out;subst eo57)|((with_reducible refine gate_builtin (b:=.append) (xs:=#[.tmp 83,.tmp 87]) rfl ?_);at_builtin;refine Kd.N_append (Kd.slice 3 (Kd.int .i64)) (w0:=w) w.heap.size rfl (.tmp 83) (.tmp 87) 46 25 (.slice none 0 0) 24 rfl Try.underlying46 info25 rfl (by decide) (by omega) u9 x9_16 t853 [.slice Ao57 t853.length co57] (fun k_=>some k_≠(v844:Value).ownBlock∧some k_≠(.slice (some ad849) t846.length co53:Value).ownBlock∧some k_≠(v851:Value).ownBlock) (fun k_=>((fun k_=>some k_≠(v844:Value).ownBlock∧some k_≠(.slice (some ad849) t846.length co53:Value).ownBlock∧some k_≠(v851:Value).ownBlock)) k_∧some k_≠(u9:Value).ownBlock) rfl rfl ?aP (fun _ hk=>hk) ?aF ?aO ?aB ?aS ?aL ?_;(case aP=>exact(Kd.FK_slice_mk (Kd.R_reads' (Kd.R_mono (ok':=(fun k_=>((fun k_=>some k_≠(v844:Value).ownBlock∧some k_≠(.slice (some ad849) t846.length co53:Value).ownBlock∧some k_≠(v851:Value).ownBlock)) k_∧some k_≠(u9:Value).ownBlock)) (Kd.R_apart' (Kd.R_apart' (HO855.out) (Kd.N_typed HO848.out) (by decide)) (Kd.N_typed HO_9.out) (by decide)) (fun k_ hk=>⟨⟨hk.1.1.1.2,⟨hk.1.2,hk.1.1.2⟩⟩,hk.2⟩))).2.1 (Kd.R_F (Kd.R_mono (ok':=(fun k_=>((fun k_=>some k_≠(v844:Value).ownBlock∧some k_≠(.slice (some ad849) t846.length co53:Value).ownBlock∧some k_≠(v851:Value).ownBlock)) k_∧some k_≠(u9:Value).ownBlock)) (Kd.R_apart' (Kd.R_apart' (HO855.out) (Kd.N_typed HO848.out) (by decide)) (Kd.N_typed HO_9.out) (by decide)) (fun k_ hk=>⟨⟨hk.1.1.1.2,⟨hk.1.2,hk.1.1.2⟩⟩,hk.2⟩)))));(case aB=>exact bz);(case aF=>exact(fun k_ hk=>⟨Kd.fresh' (Kd.R_lt (Kd.Rz HO845.out)) k_ hk,Kd.fresh' (Kd.N_lt (Kd.Nz HO848.out)) k_ hk,Kd.fresh' (Kd.R_lt (Kd.Rz HO852.out)) k_ hk⟩));(case aO=>exact(Kd.Nz <| Kd.N_mono HO_9.out (fun _ hk=>⟨hk.1.1.1,⟨hk.1.1.2,hk.1.2⟩⟩)));(case aS=>exact(below_size bz));(case aL=>have:=LMc50.out;omega);intro v857 w56 ho hb hg hat;rw[← Ny856.out] at ho;replace HO_6:=Aside0.mk (Kd.N_afterv (ok:=(fun k_=>some k_≠(v844:Value).ownBlock∧some k_≠(.slice (some ad849) t846.length co53:Value).ownBlock∧some k_≠(v851:Value).ownBlock∧some k_≠(.slice Ao57 t853.length co57:Value).ownBlock)) (Kd.Nz <| Kd.N_mono HO_6.out (fun _ hk=>⟨⟨hk.1.1.2.1,⟨hk.1.1.2.2,⟨hk.1.2,hk.2⟩⟩⟩,hk.1.1.1⟩)) hg hat);replace HL839_0:=Aside0.mk (Kd.V_afterv (ok:=(fun k_=>some k_≠(.slice (some ad839) t802.length co27:Value).ownBlock∧some k_≠(v844:Value).ownBlock∧some k_≠(.slice (some ad849) t846.length co53:Value).ownBlock∧some k_≠(v851:Value).ownBlock∧some k_≠(.slice Ao57 t853.length co57:Value).ownBlock)) (Kd.Vz <| Kd.V_mono HL839_0.out (fun _ hk=>⟨⟨hk.1.1.1,⟨hk.1.1.2.2.1,⟨hk.1.1.2.2.2,⟨hk.1.2,hk.2⟩⟩⟩⟩,hk.1.1.2.1⟩)) hg hat);replace HO845:=Aside0.mk (Kd.R_over' (Kd.Rz HO845.out) (Kd.N_typed (Kd.Nz HO_9.out)) (by decide) hg);replace HO848:=Aside0.mk (Kd.N_afterv (ok:=(fun k_=>some k_≠(.slice (some ad839) t802.length co27:Value).ownBlock∧some k_≠(v844:Value).ownBlock∧some k_≠(v851:Value).ownBlock∧some k_≠(.slice Ao57 t853.length co57:Value).ownBlock)) (Kd.Nz <| Kd.N_mono HO848.out (fun _ hk=>⟨⟨hk.1.1.1,⟨hk.1.1.2.2,⟨hk.1.2,hk.2⟩⟩⟩,hk.1.1.2.1⟩)) hg hat);replace HL849_0:=Aside0.mk (Kd.V_afterv (ok:=(fun k_=>some k_≠(.slice (some ad839) t802.length co27:Value).ownBlock∧some k_≠(v844:Value).ownBlock∧some k_≠(.slice (some ad849) t846.length co53:Value).ownBlock∧some k_≠(v851:Value).ownBlock∧some k_≠(.slice Ao57 t853.length co57:Value).ownBlock)) (Kd.Vz <| Kd.V_mono HL849_0.out (fun _ hk=>⟨⟨hk.1.1.1,⟨hk.1.1.2.2.1,⟨hk.1.1.2.2.2,⟨hk.1.2,hk.2⟩⟩⟩⟩,hk.1.1.2.1⟩)) hg hat);replace HO852:=Aside0.mk (Kd.R_over' (Kd.Rz HO852.out) (Kd.N_typed (Kd.Nz HO_9.out)) (by decide) hg);replace HB:=Aside0.mk (hb);have HO858:=Aside0.mk (ho);clear HO_9 HO855;clear ho hb hg hat;obtain⟨Ao58,co58,eo58⟩:=Kd.R_slice HO852.out;subst eo58;obtain⟨Ao59,co59,eo59⟩:=Kd.N_slice HO858.out;subst eo59)|((with_reducible refine gate_callee (f:=61) rfl ?_);refine goesL_ (some 91) rfl rfl Try.func61 (by kernel_rfl) rfl #[.slice Ao58 y850.length co58,.slice Ao59 y856.length co59] rfl az ?_;(with_reducible refine(spec_l1Make.calls kj16 _ _ y850 _ _ y856 t859 _ ?side1 ?side2 ?side3 ?side4 A51.out).mono ?_);(case side1=>exact Kd.Cz (Kd.R_reads' HO852.out).2.2);(case side2=>exact(Kd.R_reads' HO852.out).2.1);(case side3=>exact Kd.Cz (Kd.N_reads' HO858.out).2.2);(case side4=>exact(Kd.N_reads' HO858.out).2.1);rintro e w60 ⟨v860,rfl,ho0,hb⟩;refine⟨_,rfl,?_⟩;replace HO_6:=Aside0.mk (Kd.N_elder' (Kd.Nz HO_6.out) (Kd.R_base ho0) hb);replace HL839_0:=Aside0.mk (Kd.V_elder' (Kd.Vz HL839_0.out) (Kd.R_base ho0) hb);replace HO848:=Aside0.mk (Kd.N_elder' (Kd.Nz HO848.out) (Kd.R_base ho0) hb);replace HL849_0:=Aside0.mk (Kd.V_elder' (Kd.Vz HL849_0.out) (Kd.R_base ho0) hb);replace HO858:=Aside0.mk (Kd.N_elder' (Kd.Nz HO858.out) (Kd.R_base ho0) hb);have HO861:=Aside0.mk (Kd.R_lower (Kd.R_new' (Kd.R_new' ho0 (Kd.R_lt (Kd.Rz HO845.out))) (Kd.R_lt (Kd.Rz HO852.out))) (below_size bz));replace HO845:=Aside0.mk (Kd.R_elder' (Kd.Rz HO845.out) (Kd.R_base ho0) hb);replace HO852:=Aside0.mk (Kd.R_elder' (Kd.Rz HO852.out) (Kd.R_base ho0) hb);replace HB:=Aside0.mk (below_step bz hb);(try clear hb);(try clear hb2);(try clear hk);(try clear hi);(try clear ho0)))
                   go_ret
                   exact⟨_,by first|rfl|(simp[errW_none,errW_some]<;>rfl)|(simp only[← hji9,← hji43];first|rfl|(simp[errW_none,errW_some]<;>rfl))|(simp[*,errW_none,errW_some]<;>rfl),Kd.Rz <| Kd.R_mono HO861.out (fun _ hk=>trivial),bz⟩
                  ·rw[if_neg c50] at H
                   exact absurd H (by simp)
                 ·rw[if_neg c48] at H
                  exact absurd H (by simp)
                ·rw[if_neg c47] at H
                 have c47b0:decide (0<a1)=false:=decide_eq_false c47
                 clear c47
                 replace H:=Option.bind_eq_some_iff.mp H
                 obtain⟨t862,A610,H⟩:=H
                 replace H:(some t862)=some r:=H
                 have A61:=Aside0.mk A610
                 clear A610
                 obtain rfl:=Option.some.inj H
                 have p839:0≤(ji9:Int):=dz
                 have q839:ji9<(t802.length:Int):=dz
                 obtain⟨ad839,A839_0,c839_0,e839,hx839_0,hl839_0,hi839_0⟩:=at_L3 (Kd.N_reads' HO_6.out).2.2 ji9 p839 q839
                 cases e839
                 obtain⟨ce839,hce839,hMe839,hcc839⟩:=Kd.N_get HO_6.out [] ji9 p839 (by first|exact q839|exact dz|(have e_:=(Kd.N_reads' HO_6.out).1;omega))
                 obtain⟨ua839_0,uc839_0,rfl,ul839_0,ge839_0⟩:=Kd.FK_slice_open hMe839
                 have hv839_0:=hcc839 0 _ rfl
                 rw[Nat.add_zero,show ((Kd.slice 3 (Kd.int .i64))).sz=1 from rfl,Nat.mul_one] at hv839_0
                 replace hv839_0:=Option.some.inj (hv839_0.symm.trans hx839_0)
                 injection hv839_0 with hva_ hvn_ hvc_
                 rw[hva_] at ge839_0
                 rw[hvc_] at ul839_0
                 have HL839_0:=Aside0.mk (show Kd.V (Kd.int .i64) 3 _ w.heap.size _ _ (rd_L3 t802 ji9) from Kd.V_mk ul839_0 ge839_0)
                 clear hva_ hvn_ hvc_ ge839_0 ul839_0
                 clear hcc839 hce839
                 have HR839_0:=Aside0.mk hi839_0
                 have HC839_0:=Aside0.mk hl839_0
                 clear hi839_0 hl839_0
                 replace p839:=eq_true p839
                 replace q839:=eq_true q839
                 go_wp2_with (first|((with_reducible refine gate_callee (f:=79) rfl ?_);refine goesL_ (some 66) rfl rfl Try.func79 (by kernel_rfl) rfl #[.slice A839_0 (rd_L3 t802 ji9).length c839_0] rfl (by(try simp only[List.map_toArray,List.map_cons,List.map_nil]);first|done|(simp only[hji9];rfl)|rfl|(simp only[List.length_drop,List.length_take];rfl)) ?_;(with_reducible refine(spec_l1Terms.calls kj16 (fun k_=>((some k_≠(u8:Value).ownBlock∧some k_≠(u9:Value).ownBlock)∧some k_≠(.slice (some ad839) t802.length co27:Value).ownBlock)) _ _ (rd_L3 t802 ji9) t843 t846 _ ?side1 A42.out).mono ?_);(case side1=>exact HL839_0.out);rintro e w62 ⟨v844,v847,rfl,ho0,ho1,hb⟩;refine⟨_,rfl,?_⟩;replace HL839_0:=Aside0.mk (Kd.V_mono (Kd.V_told (Kd.V_told (Kd.V_old (Kd.Vz HL839_0.out) hb) (Kd.R_base ho0)) (Kd.N_base ho1)) (fun _ h_=>h_.1));have HO845:=Aside0.mk (Kd.R_lower (Kd.R_new' (Kd.R_mono (ok':=fun k_=>True) ho0 (fun _ hk_=>trivial)) (Kd.R_lt (Kd.Rz HO_8.out))) (below_size bz));have HO848:=Aside0.mk (Kd.N_lower (Kd.N_mono (ok':=fun k_=>some k_≠(v844:Value).ownBlock∧some k_≠(.slice (some ad839) t802.length co27:Value).ownBlock∧some k_≠(u8:Value).ownBlock∧some k_≠(u9:Value).ownBlock) ho1 (fun k_ hk_=>⟨hk_.2,Or.elim hk_.1 (fun hs_=>hs_.2) (fun hn_=>(Kd.fresh' (Kd.N_lt (Kd.Nz HO_6.out)) k_ hn_)),Or.elim hk_.1 (fun hs_=>hs_.1.1) (fun hn_=>(Kd.fresh' (Kd.R_lt (Kd.Rz HO_8.out)) k_ hn_)),Or.elim hk_.1 (fun hs_=>hs_.1.2) (fun hn_=>(Kd.fresh' (Kd.N_lt (Kd.Nz HO_9.out)) k_ hn_))⟩)) (below_size bz));replace HO_6:=Aside0.mk (Kd.N_mono (Kd.N_told (Kd.N_told (Kd.N_old (Kd.Nz HO_6.out) hb) (Kd.R_base ho0)) (Kd.N_base ho1)) (fun _ h_=>h_.1));replace HO_8:=Aside0.mk (Kd.R_elder' (Kd.Rz HO_8.out) (Kd.R_base ho0) hb);replace HO_9:=Aside0.mk (Kd.N_mono (Kd.N_told (Kd.N_told (Kd.N_old (Kd.Nz HO_9.out) hb) (Kd.R_base ho0)) (Kd.N_base ho1)) (fun _ h_=>h_.1));replace HR839_0:=Aside0.mk (Kd.C_below (by repeat (first|(with_reducible exact HR839_0.out)|(with_reducible refine Kd.C_alloc ?_ _)|(with_reducible refine Kd.C_drewN ?_ _)|(with_reducible refine Kd.C_drew ?_)|exact HR839_0.out)) hb);replace HB:=Aside0.mk (below_step bz hb);(try clear hb);(try clear hb2);(try clear hk);(try clear hi);(try clear ho0);(try clear ho1);obtain⟨Ao63,co63,eo63⟩:=Kd.N_slice HO848.out;subst eo63;have p849:0≤((ji43):Int):=dz;have q849:(ji43)<(t846.length:Int):=dz;obtain⟨ad849,A849_0,c849_0,e849,hx849_0,hl849_0,hi849_0⟩:=at_L3 (Kd.N_reads' HO848.out).2.2 (ji43) p849 q849;cases e849;obtain⟨ce849,hce849,hMe849,hcc849⟩:=Kd.N_get HO848.out [] (ji43) p849 (by first|exact q849|exact dz|(have e_:=(Kd.N_reads' HO848.out).1;omega));obtain⟨ua849_0,uc849_0,rfl,ul849_0,ge849_0⟩:=Kd.FK_slice_open hMe849;have hv849_0:=hcc849 0 _ rfl;rw[Nat.add_zero,show ((Kd.slice 3 (Kd.int .i64))).sz=1 from rfl,Nat.mul_one] at hv849_0;replace hv849_0:=Option.some.inj (hv849_0.symm.trans hx849_0);injection hv849_0 with hva_ hvn_ hvc_;rw[hva_] at ge849_0;rw[hvc_] at ul849_0;have HL849_0:=Aside0.mk (show Kd.V (Kd.int .i64) 3 _ w.heap.size _ _ (rd_L3 t846 (ji43)) from Kd.V_mk ul849_0 ge849_0);clear hva_ hvn_ hvc_ ge849_0 ul849_0;clear hcc849 hce849;have HR849_0:=Aside0.mk hi849_0;have HC849_0:=Aside0.mk hl849_0;clear hi849_0 hl849_0;replace p849:=eq_true p849;replace q849:=eq_true q849;obtain⟨Ao64,co64,eo64⟩:=Kd.R_slice HO_8.out;subst eo64;obtain⟨Ao65,co65,eo65⟩:=Kd.N_slice HO_9.out;subst eo65)|((with_reducible refine gate_callee (f:=61) rfl ?_);refine goesL_ (some 91) rfl rfl Try.func61 (by kernel_rfl) rfl #[.slice Ao64 x8_16.length co64,.slice Ao65 x9_16.length co65] rfl az ?_;(with_reducible refine(spec_l1Make.calls kj16 _ _ x8_16 _ _ x9_16 t862 _ ?side1 ?side2 ?side3 ?side4 A61.out).mono ?_);(case side1=>exact Kd.Cz (Kd.R_reads' HO_8.out).2.2);(case side2=>exact(Kd.R_reads' HO_8.out).2.1);(case side3=>exact Kd.Cz (Kd.N_reads' HO_9.out).2.2);(case side4=>exact(Kd.N_reads' HO_9.out).2.1);rintro e w66 ⟨v863,rfl,ho0,hb⟩;refine⟨_,rfl,?_⟩;replace HO_6:=Aside0.mk (Kd.N_elder' (Kd.Nz HO_6.out) (Kd.R_base ho0) hb);replace HO_9:=Aside0.mk (Kd.N_elder' (Kd.Nz HO_9.out) (Kd.R_base ho0) hb);replace HL839_0:=Aside0.mk (Kd.V_elder' (Kd.Vz HL839_0.out) (Kd.R_base ho0) hb);replace HO848:=Aside0.mk (Kd.N_elder' (Kd.Nz HO848.out) (Kd.R_base ho0) hb);replace HL849_0:=Aside0.mk (Kd.V_elder' (Kd.Vz HL849_0.out) (Kd.R_base ho0) hb);have HO864:=Aside0.mk (Kd.R_lower (Kd.R_new' (Kd.R_new' ho0 (Kd.R_lt (Kd.Rz HO_8.out))) (Kd.R_lt (Kd.Rz HO845.out))) (below_size bz));replace HO_8:=Aside0.mk (Kd.R_elder' (Kd.Rz HO_8.out) (Kd.R_base ho0) hb);replace HO845:=Aside0.mk (Kd.R_elder' (Kd.Rz HO845.out) (Kd.R_base ho0) hb);replace HR839_0:=Aside0.mk (Kd.C_below (by repeat (first|(with_reducible exact HR839_0.out)|(with_reducible refine Kd.C_alloc ?_ _)|(with_reducible refine Kd.C_drewN ?_ _)|(with_reducible refine Kd.C_drew ?_)|exact HR839_0.out)) hb);replace HR849_0:=Aside0.mk (Kd.C_below (by repeat (first|(with_reducible exact HR849_0.out)|(with_reducible refine Kd.C_alloc ?_ _)|(with_reducible refine Kd.C_drewN ?_ _)|(with_reducible refine Kd.C_drew ?_)|exact HR849_0.out)) hb);replace HB:=Aside0.mk (below_step bz hb);(try clear hb);(try clear hb2);(try clear hk);(try clear hi);(try clear ho0)))
                 go_ret
                 exact⟨_,by first|rfl|(simp[errW_none,errW_some]<;>rfl)|(simp only[← hji9,← hji43];first|rfl|(simp[errW_none,errW_some]<;>rfl))|(simp[*,errW_none,errW_some]<;>rfl),Kd.Rz <| Kd.R_mono HO864.out (fun _ hk=>trivial),bz⟩
               ·rw[if_neg c46] at H
                have c46b0:(((rd_L3 t846 (ji43)).length:Int) == 1)=false:=beq_eq_false_iff_ne.mpr c46
                have c46b1:(((rd_L3 t846 (ji43)).length:Int) != 1)=true:=bne_iff_ne.mpr c46
                by_cases c67:x8_16.length<17592186044416
                ·rw[if_pos c67] at H
                 have LMc67:=Aside0.mk c67
                 clear c67
                 obtain⟨y865,hy865⟩:∃ y_:List Int,y_=(x8_16++[1]):=⟨_,rfl⟩
                 replace H:((spec_l3Step.f kj16 (rd_L3 t802 ji9) a1).bind fun t868=>(if x9_16.length<5864062014805 then((spec_l1Make.f kj16 y865 (x9_16++[t868])).bind fun t874=>(some t874)) else(none)))=some r:=hz hy865 H
                 have Ny865:=Aside0.mk hy865
                 clear hy865
                 replace H:=Option.bind_eq_some_iff.mp H
                 obtain⟨t868,A680,H⟩:=H
                 replace H:(if x9_16.length<5864062014805 then((spec_l1Make.f kj16 y865 (x9_16++[t868])).bind fun t874=>(some t874)) else(none))=some r:=H
                 have A68:=Aside0.mk A680
                 clear A680
                 by_cases c69:x9_16.length<5864062014805
                 ·rw[if_pos c69] at H
                  have LMc69:=Aside0.mk c69
                  clear c69
                  obtain⟨y871,hy871⟩:∃ y_:List (List Int),y_=(x9_16++[t868]):=⟨_,rfl⟩
                  replace H:((spec_l1Make.f kj16 y865 y871).bind fun t874=>(some t874))=some r:=hz hy871 H
                  have Ny871:=Aside0.mk hy871
                  clear hy871
                  replace H:=Option.bind_eq_some_iff.mp H
                  obtain⟨t874,A700,H⟩:=H
                  replace H:(some t874)=some r:=H
                  have A70:=Aside0.mk A700
                  clear A700
                  obtain rfl:=Option.some.inj H
                  have p839:0≤(ji9:Int):=dz
                  have q839:ji9<(t802.length:Int):=dz
                  obtain⟨ad839,A839_0,c839_0,e839,hx839_0,hl839_0,hi839_0⟩:=at_L3 (Kd.N_reads' HO_6.out).2.2 ji9 p839 q839
                  cases e839
                  obtain⟨ce839,hce839,hMe839,hcc839⟩:=Kd.N_get HO_6.out [] ji9 p839 (by first|exact q839|exact dz|(have e_:=(Kd.N_reads' HO_6.out).1;omega))
                  obtain⟨ua839_0,uc839_0,rfl,ul839_0,ge839_0⟩:=Kd.FK_slice_open hMe839
                  have hv839_0:=hcc839 0 _ rfl
                  rw[Nat.add_zero,show ((Kd.slice 3 (Kd.int .i64))).sz=1 from rfl,Nat.mul_one] at hv839_0
                  replace hv839_0:=Option.some.inj (hv839_0.symm.trans hx839_0)
                  injection hv839_0 with hva_ hvn_ hvc_
                  rw[hva_] at ge839_0
                  rw[hvc_] at ul839_0
                  have HL839_0:=Aside0.mk (show Kd.V (Kd.int .i64) 3 _ w.heap.size _ _ (rd_L3 t802 ji9) from Kd.V_mk ul839_0 ge839_0)
                  clear hva_ hvn_ hvc_ ge839_0 ul839_0
                  clear hcc839 hce839
                  have HR839_0:=Aside0.mk hi839_0
                  have HC839_0:=Aside0.mk hl839_0
                  clear hi839_0 hl839_0
                  replace p839:=eq_true p839
                  replace q839:=eq_true q839
                  go_wp2_with (first|((with_reducible refine gate_callee (f:=79) rfl ?_);refine goesL_ (some 66) rfl rfl Try.func79 (by kernel_rfl) rfl #[.slice A839_0 (rd_L3 t802 ji9).length c839_0] rfl (by(try simp only[List.map_toArray,List.map_cons,List.map_nil]);first|done|(simp only[hji9];rfl)|rfl|(simp only[List.length_drop,List.length_take];rfl)) ?_;(with_reducible refine(spec_l1Terms.calls kj16 (fun k_=>((some k_≠(u8:Value).ownBlock∧some k_≠(u9:Value).ownBlock)∧some k_≠(.slice (some ad839) t802.length co27:Value).ownBlock)) _ _ (rd_L3 t802 ji9) t843 t846 _ ?side1 A42.out).mono ?_);(case side1=>exact HL839_0.out);rintro e w71 ⟨v844,v847,rfl,ho0,ho1,hb⟩;refine⟨_,rfl,?_⟩;replace HL839_0:=Aside0.mk (Kd.V_mono (Kd.V_told (Kd.V_told (Kd.V_old (Kd.Vz HL839_0.out) hb) (Kd.R_base ho0)) (Kd.N_base ho1)) (fun _ h_=>h_.1));have HO845:=Aside0.mk (Kd.R_lower (Kd.R_new' (Kd.R_mono (ok':=fun k_=>True) ho0 (fun _ hk_=>trivial)) (Kd.R_lt (Kd.Rz HO_8.out))) (below_size bz));have HO848:=Aside0.mk (Kd.N_lower (Kd.N_mono (ok':=fun k_=>some k_≠(v844:Value).ownBlock∧some k_≠(.slice (some ad839) t802.length co27:Value).ownBlock∧some k_≠(u8:Value).ownBlock∧some k_≠(u9:Value).ownBlock) ho1 (fun k_ hk_=>⟨hk_.2,Or.elim hk_.1 (fun hs_=>hs_.2) (fun hn_=>(Kd.fresh' (Kd.N_lt (Kd.Nz HO_6.out)) k_ hn_)),Or.elim hk_.1 (fun hs_=>hs_.1.1) (fun hn_=>(Kd.fresh' (Kd.R_lt (Kd.Rz HO_8.out)) k_ hn_)),Or.elim hk_.1 (fun hs_=>hs_.1.2) (fun hn_=>(Kd.fresh' (Kd.N_lt (Kd.Nz HO_9.out)) k_ hn_))⟩)) (below_size bz));replace HO_6:=Aside0.mk (Kd.N_mono (Kd.N_told (Kd.N_told (Kd.N_old (Kd.Nz HO_6.out) hb) (Kd.R_base ho0)) (Kd.N_base ho1)) (fun _ h_=>h_.1));replace HO_8:=Aside0.mk (Kd.R_elder' (Kd.Rz HO_8.out) (Kd.R_base ho0) hb);replace HO_9:=Aside0.mk (Kd.N_mono (Kd.N_told (Kd.N_told (Kd.N_old (Kd.Nz HO_9.out) hb) (Kd.R_base ho0)) (Kd.N_base ho1)) (fun _ h_=>h_.1));replace HR839_0:=Aside0.mk (Kd.C_below (by repeat (first|(with_reducible exact HR839_0.out)|(with_reducible refine Kd.C_alloc ?_ _)|(with_reducible refine Kd.C_drewN ?_ _)|(with_reducible refine Kd.C_drew ?_)|exact HR839_0.out)) hb);replace HB:=Aside0.mk (below_step bz hb);(try clear hb);(try clear hb2);(try clear hk);(try clear hi);(try clear ho0);(try clear ho1);obtain⟨Ao72,co72,eo72⟩:=Kd.N_slice HO848.out;subst eo72;have p849:0≤((ji43):Int):=dz;have q849:(ji43)<(t846.length:Int):=dz;obtain⟨ad849,A849_0,c849_0,e849,hx849_0,hl849_0,hi849_0⟩:=at_L3 (Kd.N_reads' HO848.out).2.2 (ji43) p849 q849;cases e849;obtain⟨ce849,hce849,hMe849,hcc849⟩:=Kd.N_get HO848.out [] (ji43) p849 (by first|exact q849|exact dz|(have e_:=(Kd.N_reads' HO848.out).1;omega));obtain⟨ua849_0,uc849_0,rfl,ul849_0,ge849_0⟩:=Kd.FK_slice_open hMe849;have hv849_0:=hcc849 0 _ rfl;rw[Nat.add_zero,show ((Kd.slice 3 (Kd.int .i64))).sz=1 from rfl,Nat.mul_one] at hv849_0;replace hv849_0:=Option.some.inj (hv849_0.symm.trans hx849_0);injection hv849_0 with hva_ hvn_ hvc_;rw[hva_] at ge849_0;rw[hvc_] at ul849_0;have HL849_0:=Aside0.mk (show Kd.V (Kd.int .i64) 3 _ w.heap.size _ _ (rd_L3 t846 (ji43)) from Kd.V_mk ul849_0 ge849_0);clear hva_ hvn_ hvc_ ge849_0 ul849_0;clear hcc849 hce849;have HR849_0:=Aside0.mk hi849_0;have HC849_0:=Aside0.mk hl849_0;clear hi849_0 hl849_0;replace p849:=eq_true p849;replace q849:=eq_true q849)|((with_reducible refine gate_builtin (b:=.append) (xs:=#[.tmp 92,.tmp 93]) rfl ?_);at_builtin;refine Kd.R_append (Kd.int .i64) (w0:=w) w.heap.size rfl (.tmp 92) (.tmp 93) 25 3 (.int .i64 0) 8 rfl Try.underlying25 info3 rfl (by decide) (by omega) u8 x8_16 1 [.int .i64 1] (fun k_=>some k_≠(v844:Value).ownBlock) (fun _=>False) rfl rfl ?aP (fun _ hk=>hk.elim) ?aF ?aO ?aB ?aS ?aL ?_;(case aP=>exact rfl);(case aB=>exact bz);(case aF=>exact(fun k_ hk=>Kd.fresh' (Kd.R_lt (Kd.Rz HO845.out)) k_ hk));(case aO=>exact(Kd.Rz <| Kd.R_mono HO_8.out (fun _ hk=>hk.2)));(case aS=>exact(below_size bz));(case aL=>have:=LMc67.out;omega);intro v866 w73 ho hb hg hat;rw[← Ny865.out] at ho;replace HO_6:=Aside0.mk (Kd.N_afterv (ok:=(fun k_=>some k_≠(u9:Value).ownBlock∧some k_≠(v844:Value).ownBlock∧some k_≠(.slice (some ad849) t846.length co72:Value).ownBlock)) (Kd.Nz <| Kd.N_mono HO_6.out (fun _ hk=>⟨⟨hk.1.1.2,⟨hk.1.2,hk.2⟩⟩,hk.1.1.1⟩)) hg hat);replace HO_9:=Aside0.mk (Kd.N_afterv (ok:=(fun k_=>some k_≠(v844:Value).ownBlock∧some k_≠(.slice (some ad849) t846.length co72:Value).ownBlock)) (Kd.Nz <| Kd.N_mono HO_9.out (fun _ hk=>⟨⟨hk.1.2,hk.2⟩,hk.1.1⟩)) hg hat);replace HL839_0:=Aside0.mk (Kd.V_afterv (ok:=(fun k_=>some k_≠(.slice (some ad839) t802.length co27:Value).ownBlock∧some k_≠(u9:Value).ownBlock∧some k_≠(v844:Value).ownBlock∧some k_≠(.slice (some ad849) t846.length co72:Value).ownBlock)) (Kd.Vz <| Kd.V_mono HL839_0.out (fun _ hk=>⟨⟨hk.1.1.2,⟨hk.1.1.1.2,⟨hk.1.2,hk.2⟩⟩⟩,hk.1.1.1.1⟩)) hg hat);replace HO845:=Aside0.mk (Kd.R_after (ok:=(fun _=>True)) (Kd.Rz HO845.out) hg hat);replace HO848:=Aside0.mk (Kd.N_afterv (ok:=(fun k_=>some k_≠(.slice (some ad839) t802.length co27:Value).ownBlock∧some k_≠(u9:Value).ownBlock∧some k_≠(v844:Value).ownBlock)) (Kd.Nz <| Kd.N_mono HO848.out (fun _ hk=>⟨⟨hk.2.1,⟨hk.2.2.2,hk.1⟩⟩,hk.2.2.1⟩)) hg hat);replace HL849_0:=Aside0.mk (Kd.V_afterv (ok:=(fun k_=>some k_≠(.slice (some ad839) t802.length co27:Value).ownBlock∧some k_≠(u9:Value).ownBlock∧some k_≠(v844:Value).ownBlock∧some k_≠(.slice (some ad849) t846.length co72:Value).ownBlock)) (Kd.Vz <| Kd.V_mono HL849_0.out (fun _ hk=>⟨⟨hk.1.2.1,⟨hk.1.2.2.2,⟨hk.1.1,hk.2⟩⟩⟩,hk.1.2.2.1⟩)) hg hat);replace HB:=Aside0.mk (hb);have HO867:=Aside0.mk (ho);clear HO_8;clear ho hb hg hat)|((with_reducible refine gate_callee (f:=87) rfl ?_);refine goesL_ (some 98) rfl rfl Try.func87 (by kernel_rfl) rfl #[.slice A839_0 (rd_L3 t802 ji9).length c839_0,.int .i64 a1] rfl (by(try simp only[List.map_toArray,List.map_cons,List.map_nil]);first|done|(simp only[hji9];rfl)|rfl|(simp only[List.length_drop,List.length_take];rfl)) ?_;(with_reducible refine(ih kj16 (by have:=HJ16.out;omega) _ _ (rd_L3 t802 ji9) a1 t868 _ ?side1 ?side2 A68.out).mono ?_);(case side1=>repeat (first|exact((Kd.V_reads' (Kd.Vz HL839_0.out)).2.2)|(with_reducible refine Kd.C_alloc ?_ _)|(with_reducible refine Kd.C_drewN ?_ _)|(with_reducible refine Kd.C_drew ?_)));(case side2=>exact HC839_0.out);rintro e w74 ⟨v869,rfl,ho0,hb⟩;refine⟨_,rfl,?_⟩;replace HO_6:=Aside0.mk (Kd.N_elder' (Kd.Nz HO_6.out) (Kd.R_base ho0) hb);replace HO_9:=Aside0.mk (Kd.N_elder' (Kd.Nz HO_9.out) (Kd.R_base ho0) hb);replace HL839_0:=Aside0.mk (Kd.V_elder' (Kd.Vz HL839_0.out) (Kd.R_base ho0) hb);replace HO848:=Aside0.mk (Kd.N_elder' (Kd.Nz HO848.out) (Kd.R_base ho0) hb);replace HL849_0:=Aside0.mk (Kd.V_elder' (Kd.Vz HL849_0.out) (Kd.R_base ho0) hb);have HO870:=Aside0.mk (Kd.R_lower (Kd.R_new' (Kd.R_new' ho0 (Kd.R_lt (Kd.Rz HO845.out))) (Kd.R_lt (Kd.Rz HO867.out))) (below_size bz));replace HO845:=Aside0.mk (Kd.R_elder' (Kd.Rz HO845.out) (Kd.R_base ho0) hb);replace HO867:=Aside0.mk (Kd.R_elder' (Kd.Rz HO867.out) (Kd.R_base ho0) hb);replace HB:=Aside0.mk (below_step bz hb);(try clear hb);(try clear hb2);(try clear hk);(try clear hi);(try clear ho0);obtain⟨Ao76,co76,eo76⟩:=Kd.R_slice HO870.out;subst eo76)|((with_reducible refine gate_builtin (b:=.append) (xs:=#[.tmp 95,.tmp 99]) rfl ?_);at_builtin;refine Kd.N_append (Kd.slice 3 (Kd.int .i64)) (w0:=w) w.heap.size rfl (.tmp 95) (.tmp 99) 46 25 (.slice none 0 0) 24 rfl Try.underlying46 info25 rfl (by decide) (by omega) u9 x9_16 t868 [.slice Ao76 t868.length co76] (fun k_=>some k_≠(v844:Value).ownBlock∧some k_≠(.slice (some ad849) t846.length co72:Value).ownBlock∧some k_≠(v866:Value).ownBlock) (fun k_=>((fun k_=>some k_≠(v844:Value).ownBlock∧some k_≠(.slice (some ad849) t846.length co72:Value).ownBlock∧some k_≠(v866:Value).ownBlock)) k_∧some k_≠(u9:Value).ownBlock) rfl rfl ?aP (fun _ hk=>hk) ?aF ?aO ?aB ?aS ?aL ?_;(case aP=>exact(Kd.FK_slice_mk (Kd.R_reads' (Kd.R_mono (ok':=(fun k_=>((fun k_=>some k_≠(v844:Value).ownBlock∧some k_≠(.slice (some ad849) t846.length co72:Value).ownBlock∧some k_≠(v866:Value).ownBlock)) k_∧some k_≠(u9:Value).ownBlock)) (Kd.R_apart' (Kd.R_apart' (HO870.out) (Kd.N_typed HO848.out) (by decide)) (Kd.N_typed HO_9.out) (by decide)) (fun k_ hk=>⟨⟨hk.1.1.1.2,⟨hk.1.2,hk.1.1.2⟩⟩,hk.2⟩))).2.1 (Kd.R_F (Kd.R_mono (ok':=(fun k_=>((fun k_=>some k_≠(v844:Value).ownBlock∧some k_≠(.slice (some ad849) t846.length co72:Value).ownBlock∧some k_≠(v866:Value).ownBlock)) k_∧some k_≠(u9:Value).ownBlock)) (Kd.R_apart' (Kd.R_apart' (HO870.out) (Kd.N_typed HO848.out) (by decide)) (Kd.N_typed HO_9.out) (by decide)) (fun k_ hk=>⟨⟨hk.1.1.1.2,⟨hk.1.2,hk.1.1.2⟩⟩,hk.2⟩)))));(case aB=>exact bz);(case aF=>exact(fun k_ hk=>⟨Kd.fresh' (Kd.R_lt (Kd.Rz HO845.out)) k_ hk,Kd.fresh' (Kd.N_lt (Kd.Nz HO848.out)) k_ hk,Kd.fresh' (Kd.R_lt (Kd.Rz HO867.out)) k_ hk⟩));(case aO=>exact(Kd.Nz <| Kd.N_mono HO_9.out (fun _ hk=>⟨hk.1.1.1,⟨hk.1.1.2,hk.1.2⟩⟩)));(case aS=>exact(below_size bz));(case aL=>have:=LMc69.out;omega);intro v872 w75 ho hb hg hat;rw[← Ny871.out] at ho;replace HO_6:=Aside0.mk (Kd.N_afterv (ok:=(fun k_=>some k_≠(v844:Value).ownBlock∧some k_≠(.slice (some ad849) t846.length co72:Value).ownBlock∧some k_≠(v866:Value).ownBlock∧some k_≠(.slice Ao76 t868.length co76:Value).ownBlock)) (Kd.Nz <| Kd.N_mono HO_6.out (fun _ hk=>⟨⟨hk.1.1.2.1,⟨hk.1.1.2.2,⟨hk.1.2,hk.2⟩⟩⟩,hk.1.1.1⟩)) hg hat);replace HL839_0:=Aside0.mk (Kd.V_afterv (ok:=(fun k_=>some k_≠(.slice (some ad839) t802.length co27:Value).ownBlock∧some k_≠(v844:Value).ownBlock∧some k_≠(.slice (some ad849) t846.length co72:Value).ownBlock∧some k_≠(v866:Value).ownBlock∧some k_≠(.slice Ao76 t868.length co76:Value).ownBlock)) (Kd.Vz <| Kd.V_mono HL839_0.out (fun _ hk=>⟨⟨hk.1.1.1,⟨hk.1.1.2.2.1,⟨hk.1.1.2.2.2,⟨hk.1.2,hk.2⟩⟩⟩⟩,hk.1.1.2.1⟩)) hg hat);replace HO845:=Aside0.mk (Kd.R_over' (Kd.Rz HO845.out) (Kd.N_typed (Kd.Nz HO_9.out)) (by decide) hg);replace HO848:=Aside0.mk (Kd.N_afterv (ok:=(fun k_=>some k_≠(.slice (some ad839) t802.length co27:Value).ownBlock∧some k_≠(v844:Value).ownBlock∧some k_≠(v866:Value).ownBlock∧some k_≠(.slice Ao76 t868.length co76:Value).ownBlock)) (Kd.Nz <| Kd.N_mono HO848.out (fun _ hk=>⟨⟨hk.1.1.1,⟨hk.1.1.2.2,⟨hk.1.2,hk.2⟩⟩⟩,hk.1.1.2.1⟩)) hg hat);replace HL849_0:=Aside0.mk (Kd.V_afterv (ok:=(fun k_=>some k_≠(.slice (some ad839) t802.length co27:Value).ownBlock∧some k_≠(v844:Value).ownBlock∧some k_≠(.slice (some ad849) t846.length co72:Value).ownBlock∧some k_≠(v866:Value).ownBlock∧some k_≠(.slice Ao76 t868.length co76:Value).ownBlock)) (Kd.Vz <| Kd.V_mono HL849_0.out (fun _ hk=>⟨⟨hk.1.1.1,⟨hk.1.1.2.2.1,⟨hk.1.1.2.2.2,⟨hk.1.2,hk.2⟩⟩⟩⟩,hk.1.1.2.1⟩)) hg hat);replace HO867:=Aside0.mk (Kd.R_over' (Kd.Rz HO867.out) (Kd.N_typed (Kd.Nz HO_9.out)) (by decide) hg);replace HB:=Aside0.mk (hb);have HO873:=Aside0.mk (ho);clear HO_9 HO870;clear ho hb hg hat;obtain⟨Ao77,co77,eo77⟩:=Kd.R_slice HO867.out;subst eo77;obtain⟨Ao78,co78,eo78⟩:=Kd.N_slice HO873.out;subst eo78)|((with_reducible refine gate_callee (f:=61) rfl ?_);refine goesL_ (some 101) rfl rfl Try.func61 (by kernel_rfl) rfl #[.slice Ao77 y865.length co77,.slice Ao78 y871.length co78] rfl az ?_;(with_reducible refine(spec_l1Make.calls kj16 _ _ y865 _ _ y871 t874 _ ?side1 ?side2 ?side3 ?side4 A70.out).mono ?_);(case side1=>exact Kd.Cz (Kd.R_reads' HO867.out).2.2);(case side2=>exact(Kd.R_reads' HO867.out).2.1);(case side3=>exact Kd.Cz (Kd.N_reads' HO873.out).2.2);(case side4=>exact(Kd.N_reads' HO873.out).2.1);rintro e w79 ⟨v875,rfl,ho0,hb⟩;refine⟨_,rfl,?_⟩;replace HO_6:=Aside0.mk (Kd.N_elder' (Kd.Nz HO_6.out) (Kd.R_base ho0) hb);replace HL839_0:=Aside0.mk (Kd.V_elder' (Kd.Vz HL839_0.out) (Kd.R_base ho0) hb);replace HO848:=Aside0.mk (Kd.N_elder' (Kd.Nz HO848.out) (Kd.R_base ho0) hb);replace HL849_0:=Aside0.mk (Kd.V_elder' (Kd.Vz HL849_0.out) (Kd.R_base ho0) hb);replace HO873:=Aside0.mk (Kd.N_elder' (Kd.Nz HO873.out) (Kd.R_base ho0) hb);have HO876:=Aside0.mk (Kd.R_lower (Kd.R_new' (Kd.R_new' ho0 (Kd.R_lt (Kd.Rz HO845.out))) (Kd.R_lt (Kd.Rz HO867.out))) (below_size bz));replace HO845:=Aside0.mk (Kd.R_elder' (Kd.Rz HO845.out) (Kd.R_base ho0) hb);replace HO867:=Aside0.mk (Kd.R_elder' (Kd.Rz HO867.out) (Kd.R_base ho0) hb);replace HB:=Aside0.mk (below_step bz hb);(try clear hb);(try clear hb2);(try clear hk);(try clear hi);(try clear ho0)))
                  go_ret
                  exact⟨_,by first|rfl|(simp[errW_none,errW_some]<;>rfl)|(simp only[← hji9,← hji43];first|rfl|(simp[errW_none,errW_some]<;>rfl))|(simp[*,errW_none,errW_some]<;>rfl),Kd.Rz <| Kd.R_mono HO876.out (fun _ hk=>trivial),bz⟩
                 ·rw[if_neg c69] at H
                  exact absurd H (by simp)
                ·rw[if_neg c67] at H
                 exact absurd H (by simp)
              ·rw[if_neg c45] at H
               exact absurd H (by simp)
             ·rw[if_neg c44] at H
              exact absurd H (by simp)
           ·rw[if_neg c36] at H
            exact absurd H (by simp)
          ·rw[if_neg c35] at H
           exact absurd H (by simp)
       ·rw[if_neg c16] at H
        exact absurd H (by simp)
      ·rw[if_neg c15] at H
       exact absurd H (by simp)
     ·rw[if_neg c14] at H
      exact absurd H (by simp)
    ·rw[if_neg c12] at H
     exact absurd H (by simp)
   ·rw[if_neg c11] at H
    exact absurd H (by simp)
  ·rw[if_neg c10] at H
   exact absurd H (by simp)
end Go.Proofs.Ytpgkpahhohfmhaa.P