/- One Go function comes to what its Lean function tells. -/
import Derived.Test.YtfblcanijhnhmaaP0
import Derived.Test.YtfblcanijhnhmaaPspecl1Make
import Derived.Test.YtfblcanijhnhmaaPspecl1Terms
import Derived.Test.YtfblcanijhnhmaaPspecl2Add
namespace Go.Proofs.Ytfblcanijhnhmaa.P
open Go.RowKit YtfblcanijhnhmaaW.PrintWords YtfblcanijhnhmaaW.PrintLast YtfblcanijhnhmaaW.PrintMore
set_option linter.unusedVariables false
set_option linter.unusedSimpArgs false
/-! ### spec_l2Times: function 56 -/
mutual
def spec_l2Times.j0:Nat→List Int→List (List Int)→List Int→List (List Int)→Bool→Option (List Int)
 | 0,_,_,_,_,_=>none
 | k+1,x5,x6,x7,x8,x29=>if x29=true then(some (([0]:List Int))) else(spec_l2Times.l0 k x5 x6 x7 x8 (([]:List Int)) (([]:List (List Int))) 0)
def spec_l2Times.l0:Nat→List Int→List (List Int)→List Int→List (List Int)→List Int→List (List Int)→Int→Option (List Int)
 | 0,_,_,_,_,_,_,_=>none
 | k+1,x5,x6,x7,x8,x9,x10,x11=>if x11<(x7.length:Int) then(if 0≤x11 then(if x11<(x8.length:Int) then(if((rd_L1 x8 x11).length:Int)>1 then(if x9.length<17592186044416 then(if 0<(x6.length:Int) then((spec_l2Add.f k (rd_L1 x6 0) (rd_L1 x8 x11)).bind fun t838=>(if x10.length<5864062014805 then(spec_l2Times.l0 k x5 x6 x7 x8 (x9++[rd x7 x11]) (x10++[t838]) (wrap64 (x11+1))) else(none))) else(none)) else(none)) else(if 0<(x5.length:Int) then(if x9.length<17592186044416 then((some (x9++[wrap64 ((rd x5 0)*(rd x7 x11))]:List Int)).bind fun y846=>(if 1≤(x5.length:Int) then((some (x5.drop 1:List Int)).bind fun y849=>(if y846.length+y849.length<17592186044416 then(if 0<(x6.length:Int) then(if x10.length<5864062014805 then((some (x10++[rd_L1 x6 0]:List (List Int))).bind fun y858=>(if 1≤(x6.length:Int) then((some (x6.drop 1:List (List Int))).bind fun y861=>(if y858.length+y861.length<5864062014805 then(spec_l2Times.l0 k x5 x6 x7 x8 (y846++y849) (y858++y861) (wrap64 (x11+1))) else(none))) else(none))) else(none)) else(none)) else(none))) else(none))) else(none)) else(none))) else(none)) else(none)) else((spec_l1Make.f k x9 x10).bind fun t869=>(some t869))
end
def spec_l2Times.f (k:Nat)(l0:List Int)(l1:List Int):Option (List Int):=(spec_l1Terms.f k l0).bind fun bt810=>((spec_l1Terms.f k l1).bind fun bt816=>(if(bt810.1.length:Int)=0 then(spec_l2Times.j0 k bt810.1 bt810.2 bt816.1 bt816.2 true) else(spec_l2Times.j0 k bt810.1 bt810.2 bt816.1 bt816.2 ((bt816.1.length:Int) == 0))))
theorem spec_l2Times.mono_l:∀ k,(∀ y0 y1 y2 y3 y4,LeO (spec_l2Times.j0 k y0 y1 y2 y3 y4) (spec_l2Times.j0 (k+1) y0 y1 y2 y3 y4))∧(∀ y0 y1 y2 y3 y4 y5 y6,LeO (spec_l2Times.l0 k y0 y1 y2 y3 y4 y5 y6) (spec_l2Times.l0 (k+1) y0 y1 y2 y3 y4 y5 y6))
 | 0=>⟨fun _ _ _ _ _ r h=>by simp[spec_l2Times.j0] at h,fun _ _ _ _ _ _ _ r h=>by simp[spec_l2Times.l0] at h⟩
 | k+1=>by
  obtain⟨ih0,ih1⟩:=spec_l2Times.mono_l k
  refine⟨?_,?_⟩
  ·intro y0 y1 y2 y3 y4
   unfold spec_l2Times.j0
   repeat' first|(with_reducible first|exact ih0 _ _ _ _ _|exact ih1 _ _ _ _ _ _ _|exact LeO.refl _|exact LeO.none _|refine LeO.ite ?_ ?_|refine LeO.bind ?_ (fun _=>?_))|exact ih0 _ _ _ _ _|exact ih1 _ _ _ _ _ _ _|exact LeO.none _|refine LeO.ite ?_ ?_|refine LeO.bind ?_ (fun _=>?_)
  ·intro y0 y1 y2 y3 y4 y5 y6
   unfold spec_l2Times.l0
   repeat' first|(with_reducible first|exact ih1 _ _ _ _ _ _ _|exact spec_l1Make.mono _ _ _|exact spec_l2Add.mono _ _ _|exact LeO.refl _|exact LeO.none _|refine LeO.ite ?_ ?_|refine LeO.bind ?_ (fun _=>?_))|exact ih1 _ _ _ _ _ _ _|exact spec_l1Make.mono _ _ _|exact spec_l2Add.mono _ _ _|exact LeO.none _|refine LeO.ite ?_ ?_|refine LeO.bind ?_ (fun _=>?_)
theorem spec_l2Times.mono:∀ a0 a1 k,LeO (spec_l2Times.f k a0 a1) (spec_l2Times.f (k+1) a0 a1):=by
 intro a0 a1 k
 obtain⟨ih0,ih1⟩:=spec_l2Times.mono_l k
 unfold spec_l2Times.f
 repeat' first|(with_reducible first|exact ih0 _ _ _ _ _|exact ih1 _ _ _ _ _ _ _|exact spec_l1Terms.mono _ _|exact LeO.refl _|exact LeO.none _|refine LeO.ite ?_ ?_|refine LeO.bind ?_ (fun _=>?_))|exact ih0 _ _ _ _ _|exact ih1 _ _ _ _ _ _ _|exact spec_l1Terms.mono _ _|exact LeO.none _|refine LeO.ite ?_ ?_|refine LeO.bind ?_ (fun _=>?_)
def spec_l2Times.T12:Bool × List (List Nat × List Nat):=(true,[([],[]),([],[]),([1],[1]),([2],[2]),([],[]),([],[]),([4,5],[4,5]),([6],[6]),([3,7],[3,7]),([8],[8]),([0,9,8],[0,9]),([10,10,0,1,2,3,4,5,6,7,8,9,10],[0,10])])
def spec_l2Times.B12:List Nat:=[0,0,2,6,0,0,48,112,254,510,1023,2047]
theorem spec_l2Times.tab12:rtab .any (opsOf Try.f56 12)=spec_l2Times.T12:=by kernel_rfl
theorem spec_l2Times.bits12:waitsOk spec_l2Times.T12.2 spec_l2Times.B12=true:=by kernel_rfl
def spec_l2Times.T13:Bool × List (List Nat × List Nat):=(true,[([],[]),([],[]),([1],[1]),([2],[2]),([],[]),([],[]),([4,5],[4,5]),([6],[6]),([3,7],[3,7]),([8],[8]),([0,9],[0,9]),([],[]),([11],[11]),([10,12,10],[10,12]),([13,13,0,1,2,3,4,5,6,7,8,9,10,11,12,13],[0,13])])
def spec_l2Times.B13:List Nat:=[0,0,2,6,0,0,48,112,254,510,1023,0,2048,8191,16383]
theorem spec_l2Times.tab13:rtab .any (opsOf Try.f56 13)=spec_l2Times.T13:=by kernel_rfl
theorem spec_l2Times.bits13:waitsOk spec_l2Times.T13.2 spec_l2Times.B13=true:=by kernel_rfl
def spec_l2Times.T14:Bool × List (List Nat × List Nat):=(true,[([],[]),([],[]),([1],[1]),([2],[2]),([3],[3]),([0,4],[0,4]),([],[]),([6],[6]),([5,7,5],[5,7]),([8,8,0,1,2,3,4,5,6,7,8],[0,8])])
def spec_l2Times.B14:List Nat:=[0,0,2,6,14,31,0,64,255,511]
theorem spec_l2Times.tab14:rtab .any (opsOf Try.f56 14)=spec_l2Times.T14:=by kernel_rfl
theorem spec_l2Times.bits14:waitsOk spec_l2Times.T14.2 spec_l2Times.B14=true:=by kernel_rfl
set_option maxHeartbeats 8000000 in
set_option maxRecDepth 100000 in
theorem spec_l2Times.calls (k:Nat)(A0:Option Addr)(c0:Nat)(l0:List Int)(A1:Option Addr)(c1:Nat)(l1:List Int)(r:List Int)(w:World)(hr0:Kd.C (Kd.int .i64) w A0 l0.length l0)(hc0:l0.length≤c0)(hr1:Kd.C (Kd.int .i64) w A1 l1.length l1)(hc1:l1.length≤c1)(h:spec_l2Times.f k l0 l1=some r) :
  Calls Try.prog 56 #[.slice A0 l0.length c0,.slice A1 l1.length c1] w fun e w'=>∃ v0_:Value,e=.returned (v0_)∧Kd.R (Kd.int .i64) 3 w' w.heap.size (fun _=>True) v0_ r∧Below w.heap.size w w':=by
 have HR0:=Aside0.mk hr0
 have HC0:=Aside0.mk hc0
 clear hr0 hc0
 have HR1:=Aside0.mk hr1
 have HC1:=Aside0.mk hc1
 clear hr1 hc1
 have HB:=Aside0.mk (Below.refl w.heap.size w)
 have H:((spec_l1Terms.f k l0).bind fun bt810=>((spec_l1Terms.f k l1).bind fun bt816=>(if(bt810.1.length:Int)=0 then(spec_l2Times.j0 k bt810.1 bt810.2 bt816.1 bt816.2 true) else(spec_l2Times.j0 k bt810.1 bt810.2 bt816.1 bt816.2 ((bt816.1.length:Int) == 0)))))=some r:=h
 clear h
 replace H:=Option.bind_eq_some_iff.mp H
 obtain⟨⟨t810,t813⟩,A30,H⟩:=H
 replace H:((spec_l1Terms.f k l1).bind fun bt816=>(if(t810.length:Int)=0 then(spec_l2Times.j0 k t810 t813 bt816.1 bt816.2 true) else(spec_l2Times.j0 k t810 t813 bt816.1 bt816.2 ((bt816.1.length:Int) == 0))))=some r:=H
 have A3:=Aside0.mk A30
 clear A30
 replace H:=Option.bind_eq_some_iff.mp H
 obtain⟨⟨t816,t819⟩,A40,H⟩:=H
 replace H:(if(t810.length:Int)=0 then(spec_l2Times.j0 k t810 t813 t816 t819 true) else(spec_l2Times.j0 k t810 t813 t816 t819 ((t816.length:Int) == 0)))=some r:=H
 have A4:=Aside0.mk A40
 clear A40
 have HC5:=Aside0.mk H
 clear H
 go_enter Try.func56,Try.ntmps56
 go_upto_region 3 with (first|((with_reducible refine gate_callee (f:=52) rfl ?_);refine goesL_ (some 14) rfl rfl Try.func52 (by kernel_rfl) rfl #[.slice A0 l0.length c0] rfl az ?_;(with_reducible refine(spec_l1Terms.calls k (fun k_=>k_<w.heap.size) _ _ l0 t810 t813 _ ?side1 A3.out).mono ?_);(case side1=>exact Kd.V_mk HC0.out (Kd.F_below (Kd.C_F (Kd.heap_int .i64) HR0.out) bz));rintro e w6 ⟨v811,v814,rfl,ho0,ho1,hb⟩;refine⟨_,rfl,?_⟩;have HO812:=Aside0.mk (Kd.R_lower (Kd.R_mono (ok':=fun k_=>True) ho0 (fun _ hk_=>trivial)) (below_size bz));have HO815:=Aside0.mk (Kd.N_lower (Kd.N_mono (ok':=fun k_=>some k_≠(v811:Value).ownBlock) ho1 (fun k_ hk_=>hk_.2)) (below_size bz));replace HB:=Aside0.mk (below_step bz hb);(try clear hb);(try clear hb2);(try clear hk);(try clear hi);(try clear ho0);(try clear ho1))|((with_reducible refine gate_callee (f:=52) rfl ?_);refine goesL_ (some 19) rfl rfl Try.func52 (by kernel_rfl) rfl #[.slice A1 l1.length c1] rfl az ?_;(with_reducible refine(spec_l1Terms.calls k (fun k_=>k_<w.heap.size) _ _ l1 t816 t819 _ ?side1 A4.out).mono ?_);(case side1=>exact Kd.V_mk HC1.out (Kd.F_below (Kd.C_F (Kd.heap_int .i64) HR1.out) bz));rintro e w7 ⟨v817,v820,rfl,ho0,ho1,hb⟩;refine⟨_,rfl,?_⟩;have HO818:=Aside0.mk (Kd.R_lower (Kd.R_new' (Kd.R_mono (ok':=fun k_=>True) ho0 (fun _ hk_=>trivial)) (Kd.R_lt (Kd.Rz HO812.out))) (below_size bz));have HO821:=Aside0.mk (Kd.N_lower (Kd.N_mono (ok':=fun k_=>some k_≠(v817:Value).ownBlock∧some k_≠(v811:Value).ownBlock∧some k_≠(v814:Value).ownBlock) ho1 (fun k_ hk_=>⟨hk_.2,Or.elim hk_.1 (fun hs_=>fun e_=>Nat.not_le.2 hs_ (Kd.R_base HO812.out k_ e_.symm)) (fun hn_=>(Kd.fresh' (Kd.R_lt (Kd.Rz HO812.out)) k_ hn_)),Or.elim hk_.1 (fun hs_=>fun e_=>Nat.not_le.2 hs_ (Kd.N_base HO815.out k_ e_.symm)) (fun hn_=>(Kd.fresh' (Kd.N_lt (Kd.Nz HO815.out)) k_ hn_))⟩)) (below_size bz));replace HO812:=Aside0.mk (Kd.R_elder' (Kd.Rz HO812.out) (Kd.R_base ho0) hb);replace HO815:=Aside0.mk (Kd.N_mono (Kd.N_told (Kd.N_told (Kd.N_old (Kd.Nz HO815.out) hb) (Kd.R_base ho0)) (Kd.N_base ho1)) (fun _ h_=>h_.1));replace HB:=Aside0.mk (below_step bz hb);(try clear hb);(try clear hb2);(try clear hk);(try clear hi);(try clear ho0);(try clear ho1)))
 (try simp only[Act.put,List.setIfInBounds_toArray,List.set_cons_zero,List.set_cons_succ])
 go_cut [29] (fun v29 wc=>∃ (kq:Nat) (x29_4:Bool),v29=.bool x29_4∧Aside0 (spec_l2Times.j0 kq t810 t813 t816 t819 x29_4=some r)∧Aside0 (kq≤k)∧Aside0 (Kd.R (Kd.int .i64) 3 wc w.heap.size (fun k_=>some k_≠(v817:Value).ownBlock) v811 t810)∧Aside0 (Kd.N (Kd.slice 3 (Kd.int .i64)) 22 wc w.heap.size (fun k_=>some k_≠(v811:Value).ownBlock∧some k_≠(v817:Value).ownBlock∧some k_≠(v820:Value).ownBlock) v814 t813)∧Aside0 (Kd.R (Kd.int .i64) 3 wc w.heap.size (fun k_=>some k_≠(v811:Value).ownBlock) v817 t816)∧Aside0 (Kd.N (Kd.slice 3 (Kd.int .i64)) 22 wc w.heap.size (fun k_=>some k_≠(v811:Value).ownBlock∧some k_≠(v814:Value).ownBlock∧some k_≠(v817:Value).ownBlock) v820 t819)∧Aside0 (Below w.heap.size w wc))
 case first =>
  have H:=HC5.out
  clear HC5
  by_cases c8:(t810.length:Int)=0
  ·rw[if_pos c8] at H
   have c8b0:((t810.length:Int) == 0)=true:=beq_iff_eq.mpr c8
   have c8b1:((t810.length:Int) != 0)=false:=bne_eq_false_iff_eq.mpr c8
   clear c8
   (first|rw[c8b0]|(simp only[i64_w,i32_w];rw[c8b0])|skip)
   have H':=Aside0.mk H
   clear H
   obtain⟨Ao9,co9,eo9⟩:=Kd.R_slice HO812.out
   subst eo9
   go_wp2
   go_meet
   case rel=>exact⟨_,(true),(by first|rfl|(simp;done)|(simp[*];done)),H',⟨by first|omega|exact Nat.le_refl _⟩,⟨Kd.Rz <| Kd.R_mono HO812.out (fun _ hk=>hk.2)⟩,⟨Kd.Nz <| Kd.N_mono HO815.out (fun _ hk=>⟨hk.1.1,⟨hk.1.2,hk.2⟩⟩)⟩,⟨Kd.Rz <| Kd.R_mono HO818.out (fun _ hk=>hk.2)⟩,⟨Kd.Nz <| Kd.N_mono HO821.out (fun _ hk=>⟨hk.2.1,⟨hk.2.2,hk.1⟩⟩)⟩,⟨bz⟩⟩
  ·rw[if_neg c8] at H
   have c8b0:((t810.length:Int) == 0)=false:=beq_eq_false_iff_ne.mpr c8
   have c8b1:((t810.length:Int) != 0)=true:=bne_iff_ne.mpr c8
   have c8b2:¬ (t810=[]):=fun h_=>c8 (by rw[h_];rfl)
   (first|rw[c8b0]|(simp only[i64_w,i32_w];rw[c8b0])|skip)
   have H':=Aside0.mk H
   clear H
   obtain⟨Ao10,co10,eo10⟩:=Kd.R_slice HO812.out
   subst eo10
   obtain⟨Ao11,co11,eo11⟩:=Kd.R_slice HO818.out
   subst eo11
   go_wp2
   go_meet
   case rel=>exact⟨_,(((t816.length:Int) == 0)),(by first|rfl|(simp;done)|(simp[*];done)),H',⟨by first|omega|exact Nat.le_refl _⟩,⟨Kd.Rz <| Kd.R_mono HO812.out (fun _ hk=>hk.2)⟩,⟨Kd.Nz <| Kd.N_mono HO815.out (fun _ hk=>⟨hk.1.1,⟨hk.1.2,hk.2⟩⟩)⟩,⟨Kd.Rz <| Kd.R_mono HO818.out (fun _ hk=>hk.2)⟩,⟨Kd.Nz <| Kd.N_mono HO821.out (fun _ hk=>⟨hk.2.1,⟨hk.2.2,hk.1⟩⟩)⟩,⟨bz⟩⟩
 case rest =>
  clear HC5
  try clear c1
  try clear p2
  try clear c5
  try clear c8
  try clear c8b0
  try clear c8b1
  try clear c8b2
  obtain⟨kq,x29_4,rfl,HA,HJ4,HO_5,HO_6,HO_7,HO_8,HB⟩:=hcut
  cases kq with
  | zero=>exact absurd HA.out (by simp[spec_l2Times.j0])
  | succ kj4 =>
   have H:=HA.out
   clear HA
   simp only[spec_l2Times.j0] at H
   by_cases c12:x29_4=true
   ·subst c12
    have H1:(some (([0]:List Int)))=some r:=by rw[if_pos rfl] at H;exact H
    clear H
    have H:=H1
    clear H1
    obtain⟨y822,hy822⟩:∃ y_:List Int,y_=(([0]:List Int)):=⟨_,rfl⟩
    replace H:(some y822)=some r:=hz hy822 H
    have Ny822:=Aside0.mk hy822
    clear hy822
    obtain rfl:=Option.some.inj H
    go_wp2_with (first|((with_reducible refine gate_dst (N:=30) rfl ?_);refine Kd.R_lit (Kd.int .i64) _ 3 ?hg (N:=30) ?hd (xs:=([0]:List Int)) (inner:=[.int .i64 0]) (ok:=fun _=>True) (okp:=fun _=>True) ?hr ?hp (fun _ hk=>hk) trivial (Below.refl _ _) (Nat.le_refl _) (by simp) ?_;(case hd=>rfl);(case hg=>rfl);(case hr=>first|(go_simp;done)|(go_simp;rfl));(case hp=>exact(Reps.one (show Kd.M (Kd.int .i64) _ _ _ 0 [.int .i64 0] from rfl) (Reps.none _ _)));intro v823 w13 ho14 hb hg_ hnew_;clear hg_ hnew_;(first|rw[← Ny822.out] at ho14|(simp only[Int.reduceToNat] at ho14;rw[← Ny822.out] at ho14));replace HO_6:=Aside0.mk (Kd.N_elder' (Kd.Nz HO_6.out) (Kd.R_base ho14) hb);replace HO_8:=Aside0.mk (Kd.N_elder' (Kd.Nz HO_8.out) (Kd.R_base ho14) hb);have HO824:=Aside0.mk (Kd.R_lower (Kd.R_new' (Kd.R_new' ho14 (Kd.R_lt (Kd.Rz HO_5.out))) (Kd.R_lt (Kd.Rz HO_7.out))) (below_size bz));replace HO_5:=Aside0.mk (Kd.R_elder' (Kd.Rz HO_5.out) (Kd.R_base ho14) hb);replace HO_7:=Aside0.mk (Kd.R_elder' (Kd.Rz HO_7.out) (Kd.R_base ho14) hb);replace HB:=Aside0.mk (below_step bz hb);clear hb ho14))
    go_ret
    exact⟨_,by first|rfl|(simp[errW_none,errW_some]<;>rfl)|(simp[*,errW_none,errW_some]<;>rfl),Kd.Rz <| Kd.R_mono HO824.out (fun _ hk=>trivial),bz⟩
   ·replace c12:=Bool.eq_false_iff.mpr c12
    subst c12
    have H1:(spec_l2Times.l0 kj4 t810 t813 t816 t819 (([]:List Int)) (([]:List (List Int))) 0)=some r:=by rw[if_neg (show ¬ (false=true) by decide)] at H;exact H
    clear H
    have H:=H1
    clear H1
    obtain⟨y825,hy825⟩:∃ y_:List Int,y_=(([]:List Int)):=⟨_,rfl⟩
    replace H:(spec_l2Times.l0 kj4 t810 t813 t816 t819 y825 (([]:List (List Int))) 0)=some r:=hz hy825 H
    have Ny825:=Aside0.mk hy825
    clear hy825
    obtain⟨y828,hy828⟩:∃ y_:List (List Int),y_=(([]:List (List Int))):=⟨_,rfl⟩
    replace H:(spec_l2Times.l0 kj4 t810 t813 t816 t819 y825 y828 0)=some r:=hz hy828 H
    have Ny828:=Aside0.mk hy828
    clear hy828
    have H':=Aside0.mk H
    clear H
    go_wp2_with (first|((with_reducible refine gate_dst (N:=31) rfl ?_);refine Kd.R_lit (Kd.int .i64) _ 3 ?hg (N:=31) ?hd (xs:=([]:List Int)) (inner:=[]) (ok:=fun _=>True) (okp:=fun _=>True) ?hr ?hp (fun _ hk=>hk) trivial (Below.refl _ _) (Nat.le_refl _) (by simp) ?_;(case hd=>rfl);(case hg=>rfl);(case hr=>first|(go_simp;done)|(go_simp;rfl));(case hp=>exact(Reps.none _ _));intro v826 w15 ho16 hb hg_ hnew_;clear hg_ hnew_;(first|rw[← Ny825.out] at ho16|(simp only[Int.reduceToNat] at ho16;rw[← Ny825.out] at ho16));replace HO_6:=Aside0.mk (Kd.N_elder' (Kd.Nz HO_6.out) (Kd.R_base ho16) hb);replace HO_8:=Aside0.mk (Kd.N_elder' (Kd.Nz HO_8.out) (Kd.R_base ho16) hb);have HO827:=Aside0.mk (Kd.R_lower (Kd.R_new' (Kd.R_new' ho16 (Kd.R_lt (Kd.Rz HO_5.out))) (Kd.R_lt (Kd.Rz HO_7.out))) (below_size bz));replace HO_5:=Aside0.mk (Kd.R_elder' (Kd.Rz HO_5.out) (Kd.R_base ho16) hb);replace HO_7:=Aside0.mk (Kd.R_elder' (Kd.Rz HO_7.out) (Kd.R_base ho16) hb);replace HB:=Aside0.mk (below_step bz hb);clear hb ho16)|((with_reducible refine gate_dst (N:=32) rfl ?_);refine Kd.N_lit (Kd.slice 3 (Kd.int .i64)) _ 22 ?hg (N':=32) ?hd (xs:=([]:List (List Int))) (inner:=[]) (ok:=(fun k_=>some k_≠(v811:Value).ownBlock∧some k_≠(v814:Value).ownBlock∧some k_≠(v817:Value).ownBlock∧some k_≠(v820:Value).ownBlock∧some k_≠(v826:Value).ownBlock)) (okp:=(fun k_=>some k_≠(v811:Value).ownBlock∧some k_≠(v814:Value).ownBlock∧some k_≠(v817:Value).ownBlock∧some k_≠(v820:Value).ownBlock∧some k_≠(v826:Value).ownBlock)) ?hr ?hp (fun _ hk=>hk) ((show ∀ k_,w15.heap.size≤k_→(fun k_=>some k_≠(v811:Value).ownBlock∧some k_≠(v814:Value).ownBlock∧some k_≠(v817:Value).ownBlock∧some k_≠(v820:Value).ownBlock∧some k_≠(v826:Value).ownBlock) k_ from fun k_ hk=>⟨Kd.fresh' (Kd.R_lt (Kd.Rz HO_5.out)) k_ hk,Kd.fresh' (Kd.N_lt (Kd.Nz HO_6.out)) k_ hk,Kd.fresh' (Kd.R_lt (Kd.Rz HO_7.out)) k_ hk,Kd.fresh' (Kd.N_lt (Kd.Nz HO_8.out)) k_ hk,Kd.fresh' (Kd.R_lt (Kd.Rz HO827.out)) k_ hk⟩) _ (Nat.le_refl _)) (Below.refl _ _) (Nat.le_refl _) (by simp) ?_;(case hd=>rfl);(case hg=>rfl);(case hr=>first|(go_simp;done)|(go_simp;rfl));(case hp=>exact(Reps.none _ _));intro v829 w17 ho18 hb hg_ hnew_;clear hg_ hnew_;(first|rw[← Ny828.out] at ho18|(simp only[Int.reduceToNat] at ho18;rw[← Ny828.out] at ho18));replace HO_5:=Aside0.mk (Kd.R_below (Kd.Rz HO_5.out) hb);replace HO_6:=Aside0.mk (Kd.N_elder' (Kd.Nz HO_6.out) (Kd.N_base ho18) hb);replace HO_7:=Aside0.mk (Kd.R_below (Kd.Rz HO_7.out) hb);replace HO_8:=Aside0.mk (Kd.N_elder' (Kd.Nz HO_8.out) (Kd.N_base ho18) hb);replace HO827:=Aside0.mk (Kd.R_below (Kd.Rz HO827.out) hb);have HO830:=Aside0.mk (Kd.N_lower ho18 (below_size bz));replace HB:=Aside0.mk (below_step bz hb);clear hb ho18))
    go_loopg [9,10,11] kj4 (fun kq v9 v10 v11 w'=>∃ (x9_2:List Int) (x10_2:List (List Int)) (x11_2:Int),v11=.int .i64 x11_2∧Aside0 (spec_l2Times.l0 kq t810 t813 t816 t819 x9_2 x10_2 x11_2=some r)∧Aside0 (kq≤kj4)∧Aside0 (Kd.R (Kd.int .i64) 3 w' w.heap.size (fun k_=>some k_≠(v817:Value).ownBlock∧some k_≠(v9:Value).ownBlock) v811 t810)∧Aside0 (Kd.N (Kd.slice 3 (Kd.int .i64)) 22 w' w.heap.size (fun k_=>some k_≠(v811:Value).ownBlock∧some k_≠(v817:Value).ownBlock∧some k_≠(v820:Value).ownBlock∧some k_≠(v9:Value).ownBlock∧some k_≠(v10:Value).ownBlock) v814 t813)∧Aside0 (Kd.R (Kd.int .i64) 3 w' w.heap.size (fun k_=>some k_≠(v811:Value).ownBlock∧some k_≠(v9:Value).ownBlock) v817 t816)∧Aside0 (Kd.N (Kd.slice 3 (Kd.int .i64)) 22 w' w.heap.size (fun k_=>some k_≠(v811:Value).ownBlock∧some k_≠(v814:Value).ownBlock∧some k_≠(v817:Value).ownBlock∧some k_≠(v9:Value).ownBlock∧some k_≠(v10:Value).ownBlock) v820 t819)∧Aside0 (Kd.R (Kd.int .i64) 3 w' w.heap.size (fun k_=>some k_≠(v811:Value).ownBlock∧some k_≠(v817:Value).ownBlock) v9 x9_2)∧Aside0 (Kd.N (Kd.slice 3 (Kd.int .i64)) 22 w' w.heap.size (fun k_=>some k_≠(v811:Value).ownBlock∧some k_≠(v817:Value).ownBlock∧some k_≠(v820:Value).ownBlock∧some k_≠(v9:Value).ownBlock) v10 x10_2)∧Aside0 (Below w.heap.size w w'))
    case atStart=>exact⟨(y825),(y828),(0),(by first|rfl|(simp;done)|(simp[*];done)),H',⟨Nat.le_refl _⟩,⟨by(with_reducible repeat (first|apply Kd.R_alloc|apply Kd.R_drewN|apply Kd.R_drew));exact HO_5.out⟩,⟨Kd.Nz <| Kd.N_mono HO_6.out (fun _ hk=>⟨hk.1.1.1,⟨hk.1.1.2.1,⟨hk.1.1.2.2,⟨hk.1.2,hk.2⟩⟩⟩⟩)⟩,⟨by(with_reducible repeat (first|apply Kd.R_alloc|apply Kd.R_drewN|apply Kd.R_drew));exact HO_7.out⟩,⟨Kd.Nz <| Kd.N_mono HO_8.out (fun _ hk=>⟨hk.1.1.1,⟨hk.1.1.2.1,⟨hk.1.1.2.2,⟨hk.1.2,hk.2⟩⟩⟩⟩)⟩,⟨Kd.Rz <| Kd.R_mono HO827.out (fun _ hk=>⟨hk.1.2,hk.2⟩)⟩,⟨Kd.Nz <| Kd.N_mono HO830.out (fun _ hk=>⟨hk.1,⟨hk.2.2.1,⟨hk.2.2.2.1,hk.2.2.2.2⟩⟩⟩)⟩,⟨bz⟩⟩
    case round =>
     clear H'
     try clear c1
     try clear p2
     try clear c5
     try clear c8
     try clear c8b0
     try clear c8b1
     try clear c8b2
     try clear c12
     try clear p2
     obtain⟨x9_2,x10_2,x11_2,rfl,HA,HK2,HO_5,HO_6,HO_7,HO_8,HO_9,HO_10,HB⟩:=hrel
     cases gk with
     | zero=>exact absurd HA.out (by simp[spec_l2Times.l0])
     | succ k2 =>
      have H:=HA.out
      clear HA
      simp only[spec_l2Times.l0] at H
      by_cases c19:x11_2<(t816.length:Int)
      ·rw[if_pos c19] at H
       have c19b0:decide (x11_2<(t816.length:Int))=true:=decide_eq_true c19
       clear c19
       by_cases c20:0≤x11_2
       ·rw[if_pos c20] at H
        have c20b0:decide (0≤x11_2)=true:=decide_eq_true c20
        clear c20
        by_cases c21:x11_2<(t819.length:Int)
        ·rw[if_pos c21] at H
         have c21b0:decide (x11_2<(t819.length:Int))=true:=decide_eq_true c21
         clear c21
         by_cases c22:((rd_L1 t819 x11_2).length:Int)>1
         ·rw[if_pos c22] at H
          have c22b0:decide (1<((rd_L1 t819 x11_2).length:Int))=true:=decide_eq_true c22
          have c22b1:decide (1<(rd_L1 t819 x11_2).length)=true:=decide_eq_true (by omega)
          clear c22
          by_cases c23:x9_2.length<17592186044416
          ·rw[if_pos c23] at H
           have LMc23:=Aside0.mk c23
           clear c23
           obtain⟨y833,hy833⟩:∃ y_:List Int,y_=(x9_2++[rd t816 x11_2]):=⟨_,rfl⟩
           replace H:(if 0<(t813.length:Int) then((spec_l2Add.f k2 (rd_L1 t813 0) (rd_L1 t819 x11_2)).bind fun t838=>(if x10_2.length<5864062014805 then(spec_l2Times.l0 k2 t810 t813 t816 t819 y833 (x10_2++[t838]) (wrap64 (x11_2+1))) else(none))) else(none))=some r:=hz hy833 H
           have Ny833:=Aside0.mk hy833
           clear hy833
           by_cases c24:0<(t813.length:Int)
           ·rw[if_pos c24] at H
            have c24b0:decide (0<(t813.length:Int))=true:=decide_eq_true c24
            have c24b1:decide (0<t813.length)=true:=decide_eq_true (by omega)
            clear c24
            replace H:=Option.bind_eq_some_iff.mp H
            obtain⟨t838,A250,H⟩:=H
            replace H:(if x10_2.length<5864062014805 then(spec_l2Times.l0 k2 t810 t813 t816 t819 y833 (x10_2++[t838]) (wrap64 (x11_2+1))) else(none))=some r:=H
            have A25:=Aside0.mk A250
            clear A250
            by_cases c26:x10_2.length<5864062014805
            ·rw[if_pos c26] at H
             have LMc26:=Aside0.mk c26
             clear c26
             obtain⟨y841,hy841⟩:∃ y_:List (List Int),y_=(x10_2++[t838]):=⟨_,rfl⟩
             replace H:(spec_l2Times.l0 k2 t810 t813 t816 t819 y833 y841 (wrap64 (x11_2+1)))=some r:=hz hy841 H
             have Ny841:=Aside0.mk hy841
             clear hy841
             have H':=Aside0.mk H
             clear H
             obtain⟨Ao27,co27,eo27⟩:=Kd.R_slice HO_7.out
             subst eo27
             obtain⟨Ao28,co28,eo28⟩:=Kd.N_slice HO_8.out
             subst eo28
             have p831:0≤(x11_2:Int):=dz
             have q831:x11_2<(t819.length:Int):=dz
             obtain⟨ad831,A831_0,c831_0,e831,hx831_0,hl831_0,hi831_0⟩:=at_L1 (Kd.N_reads' HO_8.out).2.2 x11_2 p831 q831
             cases e831
             obtain⟨ce831,hce831,hMe831,hcc831⟩:=Kd.N_get HO_8.out [] x11_2 p831 (by first|exact q831|exact dz|(have e_:=(Kd.N_reads' HO_8.out).1;omega))
             obtain⟨ua831_0,uc831_0,rfl,ul831_0,ge831_0⟩:=Kd.FK_slice_open hMe831
             have hv831_0:=hcc831 0 _ rfl
             rw[Nat.add_zero,show ((Kd.slice 3 (Kd.int .i64))).sz=1 from rfl,Nat.mul_one] at hv831_0
             replace hv831_0:=Option.some.inj (hv831_0.symm.trans hx831_0)
             injection hv831_0 with hva_ hvn_ hvc_
             rw[hva_] at ge831_0
             rw[hvc_] at ul831_0
             have HL831_0:=Aside0.mk (show Kd.V (Kd.int .i64) 3 _ w.heap.size _ _ (rd_L1 t819 x11_2) from Kd.V_mk ul831_0 ge831_0)
             clear hva_ hvn_ hvc_ ge831_0 ul831_0
             clear hcc831 hce831
             have HR831_0:=Aside0.mk hi831_0
             have HC831_0:=Aside0.mk hl831_0
             clear hi831_0 hl831_0
             replace p831:=eq_true p831
             replace q831:=eq_true q831
             have p832:0≤(x11_2:Int):=dz
             have q832:x11_2<(t816.length:Int):=dz
             obtain⟨ad832,e832,hx832_0⟩:=Kd.at_int (Kd.R_reads' HO_7.out).2.2 x11_2 p832 q832
             cases e832
             replace p832:=eq_true p832
             replace q832:=eq_true q832
             try go_wp2_with (first|((with_reducible refine gate_builtin (b:=.append) (xs:=#[.tmp 45,.tmp 50]) rfl ?_);at_builtin;refine Kd.R_append (Kd.int .i64) (w0:=w) w.heap.size rfl (.tmp 45) (.tmp 50) 22 3 (.int .i64 0) 8 rfl Try.underlying22 info3 rfl (by decide) (by omega) u9 x9_2 (rd t816 x11_2) [.int .i64 (rd t816 x11_2)] (fun k_=>some k_≠(v811:Value).ownBlock∧some k_≠(.slice (some ad832) t816.length co27:Value).ownBlock) (fun _=>False) rfl rfl ?aP (fun _ hk=>hk.elim) ?aF ?aO ?aB ?aS ?aL ?_;(case aP=>exact rfl);(case aB=>exact bz);(case aF=>exact(fun k_ hk=>⟨Kd.fresh' (Kd.R_lt (Kd.Rz HO_5.out)) k_ hk,Kd.fresh' (Kd.R_lt (Kd.Rz HO_7.out)) k_ hk⟩));(case aO=>exact(Kd.Rz HO_9.out));(case aS=>exact(below_size bz));(case aL=>have:=LMc23.out;omega);intro v834 w29 ho hb hg hat;rw[← Ny833.out] at ho;replace HO_5:=Aside0.mk (Kd.R_after (ok:=(fun k_=>some k_≠(.slice (some ad832) t816.length co27:Value).ownBlock)) (Kd.Rz HO_5.out) hg hat);replace HO_6:=Aside0.mk (Kd.N_afterv (ok:=(fun k_=>some k_≠(v811:Value).ownBlock∧some k_≠(.slice (some ad832) t816.length co27:Value).ownBlock∧some k_≠(.slice (some ad831) t819.length co28:Value).ownBlock∧some k_≠(u10:Value).ownBlock)) (Kd.Nz <| Kd.N_mono HO_6.out (fun _ hk=>⟨⟨hk.1,⟨hk.2.1,⟨hk.2.2.1,hk.2.2.2.2⟩⟩⟩,hk.2.2.2.1⟩)) hg hat);replace HO_7:=Aside0.mk (Kd.R_after (ok:=(fun k_=>some k_≠(v811:Value).ownBlock)) (Kd.Rz HO_7.out) hg hat);replace HO_8:=Aside0.mk (Kd.N_afterv (ok:=(fun k_=>some k_≠(v811:Value).ownBlock∧some k_≠(v814:Value).ownBlock∧some k_≠(.slice (some ad832) t816.length co27:Value).ownBlock∧some k_≠(u10:Value).ownBlock)) (Kd.Nz <| Kd.N_mono HO_8.out (fun _ hk=>⟨⟨hk.1,⟨hk.2.1,⟨hk.2.2.1,hk.2.2.2.2⟩⟩⟩,hk.2.2.2.1⟩)) hg hat);replace HO_10:=Aside0.mk (Kd.N_afterv (ok:=(fun k_=>some k_≠(v811:Value).ownBlock∧some k_≠(.slice (some ad832) t816.length co27:Value).ownBlock∧some k_≠(.slice (some ad831) t819.length co28:Value).ownBlock)) (Kd.Nz <| Kd.N_mono HO_10.out (fun _ hk=>⟨⟨hk.1,⟨hk.2.1,hk.2.2.1⟩⟩,hk.2.2.2⟩)) hg hat);replace HL831_0:=Aside0.mk (Kd.V_afterv (ok:=(fun k_=>some k_≠(v811:Value).ownBlock∧some k_≠(v814:Value).ownBlock∧some k_≠(.slice (some ad832) t816.length co27:Value).ownBlock∧some k_≠(.slice (some ad831) t819.length co28:Value).ownBlock∧some k_≠(u10:Value).ownBlock)) (Kd.Vz <| Kd.V_mono HL831_0.out (fun _ hk=>⟨⟨hk.1.1,⟨hk.1.2.1,⟨hk.1.2.2.1,⟨hk.2,hk.1.2.2.2.2⟩⟩⟩⟩,hk.1.2.2.2.1⟩)) hg hat);replace HB:=Aside0.mk (hb);have HO835:=Aside0.mk (ho);clear HO_9;clear ho hb hg hat))
             have n0_:=Aside0.mk (Kd.R_drew HO_5.out)
             have n1_:=Aside0.mk (Kd.N_drew HO_6.out)
             have n2_:=Aside0.mk (Kd.R_drew HO_7.out)
             have n3_:=Aside0.mk (Kd.N_drew HO_8.out)
             have n4_:=Aside0.mk (Kd.N_drew HO_10.out)
             have n5_:=Aside0.mk (Kd.V_drew HL831_0.out)
             have n6_:=Aside0.mk (Kd.R_drew HO835.out)
             have n7_:=Aside0.mk (below_drew1 HB.out)
             clear HO_5
             clear HO_6
             clear HO_7
             clear HO_8
             clear HO_10
             clear HL831_0
             clear HO835
             clear HB
             have HO_5:=n0_
             have HO_6:=n1_
             have HO_7:=n2_
             have HO_8:=n3_
             have HO_10:=n4_
             have HL831_0:=n5_
             have HO835:=n6_
             have HB:=n7_
             clear n0_ n1_ n2_ n3_ n4_ n5_ n6_ n7_
             obtain⟨Ao31,co31,eo31⟩:=Kd.N_slice HO_6.out
             (first|subst eo31|(injection eo31 with f1_ f2_ f3_;have f4_:=f1_.symm;have f5_:=f3_.symm;clear f1_ f2_ f3_;subst f4_;subst f5_))
             have p836:0≤(0:Int):=(by omega)
             have q836:0<(t813.length:Int):=dz
             obtain⟨ad836,A836_0,c836_0,e836,hx836_0,hl836_0,hi836_0⟩:=at_L1 (Kd.N_reads' HO_6.out).2.2 0 p836 q836
             cases e836
             obtain⟨ce836,hce836,hMe836,hcc836⟩:=Kd.N_get HO_6.out [] 0 p836 (by first|exact q836|exact dz|(have e_:=(Kd.N_reads' HO_6.out).1;omega))
             obtain⟨ua836_0,uc836_0,rfl,ul836_0,ge836_0⟩:=Kd.FK_slice_open hMe836
             have hv836_0:=hcc836 0 _ rfl
             rw[Nat.add_zero,show ((Kd.slice 3 (Kd.int .i64))).sz=1 from rfl,Nat.mul_one] at hv836_0
             replace hv836_0:=Option.some.inj (hv836_0.symm.trans hx836_0)
             injection hv836_0 with hva_ hvn_ hvc_
             rw[hva_] at ge836_0
             rw[hvc_] at ul836_0
             have HL836_0:=Aside0.mk (show Kd.V (Kd.int .i64) 3 _ w.heap.size _ _ (rd_L1 t813 0) from Kd.V_mk ul836_0 ge836_0)
             clear hva_ hvn_ hvc_ ge836_0 ul836_0
             clear hcc836 hce836
             have qi836:(0<t813.length)=True:=eq_true (by omega)
             (try rw[show ((0:Int)).toNat=0 from rfl] at hx836_0)
             (try rw[Addr.add_zero'] at hx836_0)
             have HR836_0:=Aside0.mk hi836_0
             have HC836_0:=Aside0.mk hl836_0
             clear hi836_0 hl836_0
             replace p836:=eq_true p836
             replace q836:=eq_true q836
             have p837:0≤(x11_2:Int):=dz
             have q837:x11_2<(t819.length:Int):=dz
             obtain⟨ad837,A837_0,c837_0,e837,hx837_0,hl837_0,hi837_0⟩:=at_L1 (Kd.N_reads' HO_8.out).2.2 x11_2 p837 q837
             obtain rfl:ad831=ad837:=(by injection e837)
             obtain⟨ce837,hce837,hMe837,hcc837⟩:=Kd.N_get HO_8.out [] x11_2 p837 (by first|exact q837|exact dz|(have e_:=(Kd.N_reads' HO_8.out).1;omega))
             obtain⟨ua837_0,uc837_0,rfl,ul837_0,ge837_0⟩:=Kd.FK_slice_open hMe837
             have hv837_0:=hcc837 0 _ rfl
             rw[Nat.add_zero,show ((Kd.slice 3 (Kd.int .i64))).sz=1 from rfl,Nat.mul_one] at hv837_0
             replace hv837_0:=Option.some.inj (hv837_0.symm.trans hx837_0)
             injection hv837_0 with hva_ hvn_ hvc_
             rw[hva_] at ge837_0
             rw[hvc_] at ul837_0
             have HL837_0:=Aside0.mk (show Kd.V (Kd.int .i64) 3 _ w.heap.size _ _ (rd_L1 t819 x11_2) from Kd.V_mk ul837_0 ge837_0)
             clear hva_ hvn_ hvc_ ge837_0 ul837_0
             clear hcc837 hce837
             (try (have he_:=Option.some.inj (hx837_0.symm.trans (show _=some (Value.slice A831_0 _ c831_0) from by assumption));injection he_ with ha_ hn_ hc_;clear hn_;subst ha_;subst hc_))
             have HR837_0:=Aside0.mk hi837_0
             have HC837_0:=Aside0.mk hl837_0
             clear hi837_0 hl837_0
             replace p837:=eq_true p837
             replace q837:=eq_true q837
             refine start_ (n:=12) (S:=fun w'=>w'.cell? ad836=some (.slice A836_0 (rd_L1 t813 0).length c836_0)∧w'.cell? (ad831.add (x11_2).toNat)=some (.slice A837_0 (rd_L1 t819 x11_2).length c837_0)) (ds:=[9,10]) #[F,F,F,F,F,F,F,F,F,F,F,F] (by kernel_rfl) rfl rfl ⟨hx836_0,hx837_0⟩ (fun hHeld=>?_);refine with_tabW spec_l2Times.tab12 spec_l2Times.bits12 (fun HT_ HW_=>?_)
             generalize w29.drew=w30 at HO_5 HO_6 HO_7 HO_8 HO_10 HL831_0 HO835 HB HL836_0 HL837_0 HR836_0 HR837_0 hx836_0 hx837_0 hHeld ⊢
             refine pq 0 (some 52) ?_ HT_.out rfl rfl (Or.inl ⟨by rfl,?_⟩) ?_ ?_ ?_
             rotate_left;(· intro w';go_simp;with_reducible rfl);rotate_left;(· simp only[Act.put,s1,s2,s3,i64_w,i32_w];rfl)
             refine pq 1 (some 53) ?_ HT_.out rfl rfl (Or.inl ⟨by rfl,?_⟩) ?_ ?_ ?_
             rotate_left;(· intro w';go_simp;with_reducible rfl);rotate_left;(· simp only[Act.put,s1,s2,s3,i64_w,i32_w];rfl)
             refine pq 2 (some 54) ?_ HT_.out rfl rfl (Or.inl ⟨by rfl,?_⟩) ?_ ?_ ?_
             rotate_left;(· intro w';go_simp;with_reducible rfl);rotate_left;(· simp only[Act.put,s1,s2,s3,i64_w,i32_w];rfl)
             refine pq 4 (some 56) ?_ HT_.out rfl rfl (Or.inl ⟨by rfl,?_⟩) ?_ ?_ ?_
             rotate_left;(· intro w';go_simp;with_reducible rfl);rotate_left;(· simp only[Act.put,s1,s2,s3,i64_w,i32_w];rfl)
             refine pq 5 (some 57) ?_ HT_.out rfl rfl (Or.inl ⟨by rfl,?_⟩) ?_ ?_ ?_
             rotate_left;(· intro w';go_simp;with_reducible rfl);rotate_left;(· simp only[Act.put,s1,s2,s3,i64_w,i32_w];rfl)
             refine pq 6 (some 58) ?_ HT_.out rfl rfl (Or.inl ⟨by rfl,?_⟩) ?_ ?_ ?_
             rotate_left;(· intro w';go_simp;with_reducible rfl);rotate_left;(· simp only[Act.put,s1,s2,s3,i64_w,i32_w];rfl)
             refine take_ (i:=3) (N:=some 55) (v:=?_) (a':=?_) #[T,T,T,T,T,T,T,F,F,F,F,F] rfl rfl (take_ofW HT_.out HW_.out (by kernel_rfl)) (fun _ _ _ h=>h) (Or.inl ⟨by rfl,?_⟩) hHeld ?_ ?_
             rotate_left;(· rintro w' ⟨s0,s1⟩;go_simp;with_reducible rfl);rotate_left;(· simp only[Act.put,s1,s2,s3,i64_w,i32_w];rfl)
             refine take_ (i:=7) (N:=some 59) (v:=?_) (a':=?_) #[T,T,T,T,T,T,T,T,F,F,F,F] rfl rfl (take_ofW HT_.out HW_.out (by kernel_rfl)) (fun _ _ _ h=>h) (Or.inl ⟨by rfl,?_⟩) hHeld ?_ ?_
             rotate_left;(· rintro w' ⟨s0,s1⟩;go_simp;with_reducible rfl);rotate_left;(· simp only[Act.put,s1,s2,s3,i64_w,i32_w];rfl)
             refine one_ (i:=8) (N:=some 60) #[T,T,T,T,T,T,T,T,T,F,F,F] rfl rfl (one_of HT_.out (by kernel_rfl)) (by decide) (fun K hK=>?_)
             refine goes_ Try.func44 (by kernel_rfl) rfl #[.slice A836_0 (rd_L1 t813 0).length c836_0,.slice A837_0 (rd_L1 t819 x11_2).length c837_0] (by rfl) rfl rfl az ?_
             with_reducible refine(spec_l2Add.calls k2 _ _ (rd_L1 t813 0) _ _ (rd_L1 t819 x11_2) t838 _ ?side1 ?side2 ?side3 ?side4 A25.out).mono ?_
             (case side1=>repeat (first|exact(by repeat (first|(with_reducible exact HR836_0.out)|(with_reducible refine Kd.C_alloc ?_ _)|(with_reducible refine Kd.C_drewN ?_ _)|(with_reducible refine Kd.C_drew ?_)|exact HR836_0.out))|(with_reducible refine Kd.C_alloc ?_ _)|(with_reducible refine Kd.C_drewN ?_ _)|(with_reducible refine Kd.C_drew ?_)))
             (case side2=>exact HC836_0.out)
             (case side3=>repeat (first|exact(by repeat (first|(with_reducible exact HR837_0.out)|(with_reducible refine Kd.C_alloc ?_ _)|(with_reducible refine Kd.C_drewN ?_ _)|(with_reducible refine Kd.C_drew ?_)|exact HR837_0.out))|(with_reducible refine Kd.C_alloc ?_ _)|(with_reducible refine Kd.C_drewN ?_ _)|(with_reducible refine Kd.C_drew ?_)))
             (case side4=>exact HC837_0.out)
             rintro e w32 ⟨v839,rfl,ho0,hb⟩
             have HS0_:=(hb.cell (World.block_lt_of_cell? _ _ (hHeld.1))).trans (hHeld.1)
             have HS1_:=(hb.cell (World.block_lt_of_cell? _ _ (hHeld.2))).trans (hHeld.2)
             refine⟨_,rfl,?_⟩
             have n0_:=Aside0.mk (Kd.R_elder' (Kd.Rz HO_5.out) (Kd.R_base ho0) hb)
             have n1_:=Aside0.mk (Kd.N_elder' (Kd.Nz HO_6.out) (Kd.R_base ho0) hb)
             have n2_:=Aside0.mk (Kd.R_elder' (Kd.Rz HO_7.out) (Kd.R_base ho0) hb)
             have n3_:=Aside0.mk (Kd.N_elder' (Kd.Nz HO_8.out) (Kd.R_base ho0) hb)
             have n4_:=Aside0.mk (Kd.N_elder' (Kd.Nz HO_10.out) (Kd.R_base ho0) hb)
             have n5_:=Aside0.mk (Kd.V_elder' (Kd.Vz HL831_0.out) (Kd.R_base ho0) hb)
             have n6_:=Aside0.mk (Kd.R_elder' (Kd.Rz HO835.out) (Kd.R_base ho0) hb)
             have n7_:=Aside0.mk (Kd.V_elder' (Kd.Vz HL836_0.out) (Kd.R_base ho0) hb)
             have n8_:=Aside0.mk (Kd.V_elder' (Kd.Vz HL837_0.out) (Kd.R_base ho0) hb)
             have n9_:=Aside0.mk (Kd.R_lower (Kd.R_new' (Kd.R_new' (Kd.R_new' ho0 (Kd.R_lt (Kd.Rz HO_5.out))) (Kd.R_lt (Kd.Rz HO_7.out))) (Kd.R_lt (Kd.Rz HO835.out))) (below_size bz))
             have n10_:=Aside0.mk (Kd.C_below (by repeat (first|(with_reducible exact HR836_0.out)|(with_reducible refine Kd.C_alloc ?_ _)|(with_reducible refine Kd.C_drewN ?_ _)|(with_reducible refine Kd.C_drew ?_)|exact HR836_0.out)) hb)
             have n11_:=Aside0.mk (Kd.C_below (by repeat (first|(with_reducible exact HR837_0.out)|(with_reducible refine Kd.C_alloc ?_ _)|(with_reducible refine Kd.C_drewN ?_ _)|(with_reducible refine Kd.C_drew ?_)|exact HR837_0.out)) hb)
             have n12_:=Aside0.mk (below_step bz hb)
             clear HO_5
             clear HO_6
             clear HO_7
             clear HO_8
             clear HO_10
             clear HL831_0
             clear HO835
             clear HL836_0
             clear HL837_0
             clear HR836_0
             clear HR837_0
             clear HB
             have HO_5:=n0_
             have HO_6:=n1_
             have HO_7:=n2_
             have HO_8:=n3_
             have HO_10:=n4_
             have HL831_0:=n5_
             have HO835:=n6_
             have HL836_0:=n7_
             have HL837_0:=n8_
             have HO840:=n9_
             have HR836_0:=n10_
             have HR837_0:=n11_
             have HB:=n12_
             clear n0_ n1_ n2_ n3_ n4_ n5_ n6_ n7_ n8_ n9_ n10_ n11_ n12_
             (try clear hb)
             (try clear hb2)
             (try clear hk)
             (try clear hi)
             (try clear ho0)
             obtain⟨Ao34,co34,eo34⟩:=Kd.R_slice HO840.out
             (first|subst eo34|(injection eo34 with f1_ f2_ f3_;have f4_:=f1_.symm;have f5_:=f3_.symm;clear f1_ f2_ f3_;subst f4_;subst f5_))
             refine hK.out _ _ ⟨HS0_,HS1_⟩ (fun hHeld=>?_)
             clear hK K
             refine norm_ (a':=?_) ?_ ?_
             rotate_left
             ·show Act.put _ (some 60) _=_
              simp only[Act.put,s1,s2,s3,i64_w,i32_w]
              rfl
             refine last_ (i:=9) (N:=some 61) #[T,T,T,T,T,T,T,T,T,T,F,F] rfl rfl (one_of HT_.out (by kernel_rfl)) (by decide) (fun K hK=>?_)
             refine value_ (w1:=?_) (v:=?_) (by rfl) rfl ?_ ?_
             rotate_left 2
             ·go_simp
              constructor
              ·rfl
              ·rfl
             refine hK.out _ _ ?_
             clear hK K
             refine norm_ (a':=?_) ?_ ?_
             rotate_left
             ·show Act.put _ (some 61) _=_
              simp only[Act.put,s1,s2,s3,i64_w,i32_w]
              rfl
             refine last_ (i:=10) (N:=some 62) #[T,T,T,T,T,T,T,T,T,T,T,F] rfl rfl (one_of HT_.out (by kernel_rfl)) (by decide) (fun K hK=>?_)
             refine Kd.N_append_step (Kd.slice 3 (Kd.int .i64)) (w0:=w) w.heap.size (by rfl) (.tmp 52) (.tmp 61) 52 22 (.slice none 0 0) 24 rfl Try.underlying52 info22 rfl (by decide) (by omega) u10 x10_2 t838 [.slice Ao34 t838.length co34] (fun k_=>some k_≠(v811:Value).ownBlock∧some k_≠(.slice (some ad832) t816.length co27:Value).ownBlock∧some k_≠(.slice (some ad831) t819.length co28:Value).ownBlock∧some k_≠(v834:Value).ownBlock) (fun k_=>((fun k_=>some k_≠(v811:Value).ownBlock∧some k_≠(.slice (some ad832) t816.length co27:Value).ownBlock∧some k_≠(.slice (some ad831) t819.length co28:Value).ownBlock∧some k_≠(v834:Value).ownBlock)) k_∧some k_≠(u10:Value).ownBlock) rfl rfl ?aP (fun _ hk=>hk) ?aF ?aO ?aB ?aS ?aL ?_
             (case aP=>exact(Kd.FK_slice_mk (Kd.R_reads' (Kd.R_mono (ok':=(fun k_=>((fun k_=>some k_≠(v811:Value).ownBlock∧some k_≠(.slice (some ad832) t816.length co27:Value).ownBlock∧some k_≠(.slice (some ad831) t819.length co28:Value).ownBlock∧some k_≠(v834:Value).ownBlock)) k_∧some k_≠(u10:Value).ownBlock)) (Kd.R_apart' (Kd.R_apart' (HO840.out) (Kd.N_typed HO_8.out) (by decide)) (Kd.N_typed HO_10.out) (by decide)) (fun k_ hk=>⟨⟨hk.1.1.1.1.2,⟨hk.1.1.1.2,⟨hk.1.2,hk.1.1.2⟩⟩⟩,hk.2⟩))).2.1 (Kd.R_F (Kd.R_mono (ok':=(fun k_=>((fun k_=>some k_≠(v811:Value).ownBlock∧some k_≠(.slice (some ad832) t816.length co27:Value).ownBlock∧some k_≠(.slice (some ad831) t819.length co28:Value).ownBlock∧some k_≠(v834:Value).ownBlock)) k_∧some k_≠(u10:Value).ownBlock)) (Kd.R_apart' (Kd.R_apart' (HO840.out) (Kd.N_typed HO_8.out) (by decide)) (Kd.N_typed HO_10.out) (by decide)) (fun k_ hk=>⟨⟨hk.1.1.1.1.2,⟨hk.1.1.1.2,⟨hk.1.2,hk.1.1.2⟩⟩⟩,hk.2⟩)))))
             (case aB=>exact bz)
             (case aF=>exact(fun k_ hk=>⟨Kd.fresh' (Kd.R_lt (Kd.Rz HO_5.out)) k_ hk,Kd.fresh' (Kd.R_lt (Kd.Rz HO_7.out)) k_ hk,Kd.fresh' (Kd.N_lt (Kd.Nz HO_8.out)) k_ hk,Kd.fresh' (Kd.R_lt (Kd.Rz HO835.out)) k_ hk⟩))
             (case aO=>exact(Kd.Nz <| Kd.N_mono HO_10.out (fun _ hk=>⟨hk.1.1.1,⟨hk.1.1.2.1,⟨hk.1.1.2.2,hk.1.2⟩⟩⟩)))
             (case aS=>exact(below_size bz))
             (case aL=>have:=LMc26.out;omega)
             intro v842 w33 ho hb hg hat
             rw[← Ny841.out] at ho
             have n0_:=Aside0.mk (Kd.R_over' (Kd.Rz HO_5.out) (Kd.N_typed (Kd.Nz HO_10.out)) (by decide) hg)
             have n1_:=Aside0.mk (Kd.N_afterv (ok:=(fun k_=>some k_≠(v811:Value).ownBlock∧some k_≠(.slice (some ad832) t816.length co27:Value).ownBlock∧some k_≠(.slice (some ad831) t819.length co28:Value).ownBlock∧some k_≠(v834:Value).ownBlock∧some k_≠(.slice Ao34 t838.length co34:Value).ownBlock)) (Kd.Nz <| Kd.N_mono HO_6.out (fun _ hk=>⟨⟨hk.1.1.1,⟨hk.1.1.2.1,⟨hk.1.1.2.2.1,⟨hk.1.2,hk.2⟩⟩⟩⟩,hk.1.1.2.2.2⟩)) hg hat)
             have n2_:=Aside0.mk (Kd.R_over' (Kd.Rz HO_7.out) (Kd.N_typed (Kd.Nz HO_10.out)) (by decide) hg)
             have n3_:=Aside0.mk (Kd.N_afterv (ok:=(fun k_=>some k_≠(v811:Value).ownBlock∧some k_≠(.slice (some ad836) t813.length co31:Value).ownBlock∧some k_≠(.slice (some ad832) t816.length co27:Value).ownBlock∧some k_≠(v834:Value).ownBlock∧some k_≠(.slice Ao34 t838.length co34:Value).ownBlock)) (Kd.Nz <| Kd.N_mono HO_8.out (fun _ hk=>⟨⟨hk.1.1.1,⟨hk.1.1.2.1,⟨hk.1.1.2.2.1,⟨hk.1.2,hk.2⟩⟩⟩⟩,hk.1.1.2.2.2⟩)) hg hat)
             have n4_:=Aside0.mk (Kd.V_afterv (ok:=(fun k_=>some k_≠(v811:Value).ownBlock∧some k_≠(.slice (some ad836) t813.length co31:Value).ownBlock∧some k_≠(.slice (some ad832) t816.length co27:Value).ownBlock∧some k_≠(.slice (some ad831) t819.length co28:Value).ownBlock∧some k_≠(v834:Value).ownBlock∧some k_≠(.slice Ao34 t838.length co34:Value).ownBlock)) (Kd.Vz <| Kd.V_mono HL831_0.out (fun _ hk=>⟨⟨hk.1.1.1,⟨hk.1.1.2.1,⟨hk.1.1.2.2.1,⟨hk.1.1.2.2.2.1,⟨hk.1.2,hk.2⟩⟩⟩⟩⟩,hk.1.1.2.2.2.2⟩)) hg hat)
             have n5_:=Aside0.mk (Kd.R_over' (Kd.Rz HO835.out) (Kd.N_typed (Kd.Nz HO_10.out)) (by decide) hg)
             have n6_:=Aside0.mk (Kd.V_afterv (ok:=(fun k_=>some k_≠(v811:Value).ownBlock∧some k_≠(.slice (some ad836) t813.length co31:Value).ownBlock∧some k_≠(.slice (some ad832) t816.length co27:Value).ownBlock∧some k_≠(.slice (some ad831) t819.length co28:Value).ownBlock∧some k_≠(v834:Value).ownBlock∧some k_≠(.slice Ao34 t838.length co34:Value).ownBlock)) (Kd.Vz <| Kd.V_mono HL836_0.out (fun _ hk=>⟨⟨hk.1.1.1.1,⟨hk.1.2,⟨hk.1.1.1.2.1,⟨hk.1.1.1.2.2.1,⟨hk.1.1.2,hk.2⟩⟩⟩⟩⟩,hk.1.1.1.2.2.2⟩)) hg hat)
             have n7_:=Aside0.mk (Kd.V_afterv (ok:=(fun k_=>some k_≠(v811:Value).ownBlock∧some k_≠(.slice (some ad836) t813.length co31:Value).ownBlock∧some k_≠(.slice (some ad832) t816.length co27:Value).ownBlock∧some k_≠(.slice (some ad831) t819.length co28:Value).ownBlock∧some k_≠(v834:Value).ownBlock∧some k_≠(.slice Ao34 t838.length co34:Value).ownBlock)) (Kd.Vz <| Kd.V_mono HL837_0.out (fun _ hk=>⟨⟨hk.1.1.1.1,⟨hk.1.1.1.2.1,⟨hk.1.1.1.2.2.1,⟨hk.1.2,⟨hk.1.1.2,hk.2⟩⟩⟩⟩⟩,hk.1.1.1.2.2.2⟩)) hg hat)
             have n8_:=Aside0.mk (hb)
             have n9_:=Aside0.mk (ho)
             clear HO_5
             clear HO_6
             clear HO_7
             clear HO_8
             clear HL831_0
             clear HO835
             clear HL836_0
             clear HL837_0
             clear HB
             clear HO_10
             clear HO840
             have HO_5:=n0_
             have HO_6:=n1_
             have HO_7:=n2_
             have HO_8:=n3_
             have HL831_0:=n4_
             have HO835:=n5_
             have HL836_0:=n6_
             have HL837_0:=n7_
             have HB:=n8_
             have HO843:=n9_
             clear n0_ n1_ n2_ n3_ n4_ n5_ n6_ n7_ n8_ n9_
             clear ho hb hg hat
             refine hK.out _ _ ?_
             clear hK K
             refine norm_ (a':=?_) ?_ ?_
             rotate_left
             ·show Act.put _ (some 62) _=_
              simp only[Act.put,s1,s2,s3,i64_w,i32_w]
              rfl
             refine pq 11 (some 10) ?_ HT_.out rfl rfl (Or.inl ⟨by rfl,?_⟩) ?_ ?_ ?_
             rotate_left;(· intro w';go_simp;with_reducible rfl);rotate_left;(· simp only[Act.put,s1,s2,s3,i64_w,i32_w];rfl)
             refine done_ (done_of HT_.out (by kernel_rfl)) ?_
             try go_wp2
             go_roundg k2
             case measure=>have:=HJ4.out;have:=HK2.out;omega
             case rel=>exact⟨(y833),(y841),(wrap64 (x11_2+1)),(by first|rfl|(simp;done)|(simp[*];done)),H',⟨by have:=HJ4.out;have:=HK2.out;omega⟩,⟨Kd.Rz <| Kd.R_mono HO_5.out (fun _ hk=>⟨hk.1.1,hk.1.2⟩)⟩,⟨Kd.Nz <| Kd.N_mono HO_6.out (fun _ hk=>⟨hk.1.1,⟨hk.1.2.1,⟨hk.1.2.2.1,⟨hk.1.2.2.2.1,hk.2⟩⟩⟩⟩)⟩,⟨Kd.Rz <| Kd.R_mono HO_7.out (fun _ hk=>⟨hk.1.1,hk.1.2⟩)⟩,⟨Kd.Nz <| Kd.N_mono HO_8.out (fun _ hk=>⟨hk.1.1,⟨hk.1.2.1,⟨hk.1.2.2.1,⟨hk.1.2.2.2.1,hk.2⟩⟩⟩⟩)⟩,⟨Kd.Rz <| Kd.R_mono HO835.out (fun _ hk=>⟨hk.1.1,hk.1.2⟩)⟩,⟨by(with_reducible repeat (first|apply Kd.N_alloc|apply Kd.N_drewN|apply Kd.N_drew));exact HO843.out⟩,⟨bz⟩⟩
            ·rw[if_neg c26] at H
             exact absurd H (by simp)
           ·rw[if_neg c24] at H
            exact absurd H (by simp)
          ·rw[if_neg c23] at H
           exact absurd H (by simp)
         ·rw[if_neg c22] at H
          have c22b0:decide (1<((rd_L1 t819 x11_2).length:Int))=false:=decide_eq_false c22
          have c22b1:decide (1<(rd_L1 t819 x11_2).length)=false:=decide_eq_false (by omega)
          clear c22
          by_cases c35:0<(t810.length:Int)
          ·rw[if_pos c35] at H
           have c35b0:decide (0<(t810.length:Int))=true:=decide_eq_true c35
           have c35b1:decide (0<t810.length)=true:=decide_eq_true (by omega)
           clear c35
           by_cases c36:x9_2.length<17592186044416
           ·rw[if_pos c36] at H
            have LMc36:=Aside0.mk c36
            clear c36
            obtain⟨y846,hy846⟩:∃ y_:List Int,y_=(x9_2++[wrap64 ((rd t810 0)*(rd t816 x11_2))]):=⟨_,rfl⟩
            replace H:(if 1≤(t810.length:Int) then((some (t810.drop 1:List Int)).bind fun y849=>(if y846.length+y849.length<17592186044416 then(if 0<(t813.length:Int) then(if x10_2.length<5864062014805 then((some (x10_2++[rd_L1 t813 0]:List (List Int))).bind fun y858=>(if 1≤(t813.length:Int) then((some (t813.drop 1:List (List Int))).bind fun y861=>(if y858.length+y861.length<5864062014805 then(spec_l2Times.l0 k2 t810 t813 t816 t819 (y846++y849) (y858++y861) (wrap64 (x11_2+1))) else(none))) else(none))) else(none)) else(none)) else(none))) else(none))=some r:=hz hy846 H
            have Ny846:=Aside0.mk hy846
            clear hy846
            by_cases c37:1≤(t810.length:Int)
            ·rw[if_pos c37] at H
             have c37b0:=eq_true c37
             have c37b1:decide (1≤(t810.length:Int))=true:=decide_eq_true c37
             clear c37
             obtain⟨y849,hy849⟩:∃ y_:List Int,y_=(t810.drop 1):=⟨_,rfl⟩
             replace H:(if y846.length+y849.length<17592186044416 then(if 0<(t813.length:Int) then(if x10_2.length<5864062014805 then((some (x10_2++[rd_L1 t813 0]:List (List Int))).bind fun y858=>(if 1≤(t813.length:Int) then((some (t813.drop 1:List (List Int))).bind fun y861=>(if y858.length+y861.length<5864062014805 then(spec_l2Times.l0 k2 t810 t813 t816 t819 (y846++y849) (y858++y861) (wrap64 (x11_2+1))) else(none))) else(none))) else(none)) else(none)) else(none))=some r:=hz hy849 H
             have Ny849:=Aside0.mk hy849
             clear hy849
             by_cases c38:y846.length+y849.length<17592186044416
             ·rw[if_pos c38] at H
              have LMc38:=Aside0.mk c38
              clear c38
              obtain⟨y854,hy854⟩:∃ y_:List Int,y_=(y846++y849):=⟨_,rfl⟩
              replace H:(if 0<(t813.length:Int) then(if x10_2.length<5864062014805 then((some (x10_2++[rd_L1 t813 0]:List (List Int))).bind fun y858=>(if 1≤(t813.length:Int) then((some (t813.drop 1:List (List Int))).bind fun y861=>(if y858.length+y861.length<5864062014805 then(spec_l2Times.l0 k2 t810 t813 t816 t819 y854 (y858++y861) (wrap64 (x11_2+1))) else(none))) else(none))) else(none)) else(none))=some r:=hz hy854 H
              have Ny854:=Aside0.mk hy854
              clear hy854
              by_cases c39:0<(t813.length:Int)
              ·rw[if_pos c39] at H
               have c39b0:decide (0<(t813.length:Int))=true:=decide_eq_true c39
               have c39b1:decide (0<t813.length)=true:=decide_eq_true (by omega)
               clear c39
               by_cases c40:x10_2.length<5864062014805
               ·rw[if_pos c40] at H
                have LMc40:=Aside0.mk c40
                clear c40
                obtain⟨y858,hy858⟩:∃ y_:List (List Int),y_=(x10_2++[rd_L1 t813 0]):=⟨_,rfl⟩
                replace H:(if 1≤(t813.length:Int) then((some (t813.drop 1:List (List Int))).bind fun y861=>(if y858.length+y861.length<5864062014805 then(spec_l2Times.l0 k2 t810 t813 t816 t819 y854 (y858++y861) (wrap64 (x11_2+1))) else(none))) else(none))=some r:=hz hy858 H
                have Ny858:=Aside0.mk hy858
                clear hy858
                by_cases c41:1≤(t813.length:Int)
                ·rw[if_pos c41] at H
                 have c41b0:=eq_true c41
                 have c41b1:decide (1≤(t813.length:Int))=true:=decide_eq_true c41
                 clear c41
                 obtain⟨y861,hy861⟩:∃ y_:List (List Int),y_=(t813.drop 1):=⟨_,rfl⟩
                 replace H:(if y858.length+y861.length<5864062014805 then(spec_l2Times.l0 k2 t810 t813 t816 t819 y854 (y858++y861) (wrap64 (x11_2+1))) else(none))=some r:=hz hy861 H
                 have Ny861:=Aside0.mk hy861
                 clear hy861
                 by_cases c42:y858.length+y861.length<5864062014805
                 ·rw[if_pos c42] at H
                  have LMc42:=Aside0.mk c42
                  clear c42
                  obtain⟨y866,hy866⟩:∃ y_:List (List Int),y_=(y858++y861):=⟨_,rfl⟩
                  replace H:(spec_l2Times.l0 k2 t810 t813 t816 t819 y854 y866 (wrap64 (x11_2+1)))=some r:=hz hy866 H
                  have Ny866:=Aside0.mk hy866
                  clear hy866
                  have H':=Aside0.mk H
                  clear H
                  obtain⟨Ao43,co43,eo43⟩:=Kd.R_slice HO_7.out
                  subst eo43
                  obtain⟨Ao44,co44,eo44⟩:=Kd.N_slice HO_8.out
                  subst eo44
                  have p831:0≤(x11_2:Int):=dz
                  have q831:x11_2<(t819.length:Int):=dz
                  obtain⟨ad831,A831_0,c831_0,e831,hx831_0,hl831_0,hi831_0⟩:=at_L1 (Kd.N_reads' HO_8.out).2.2 x11_2 p831 q831
                  cases e831
                  obtain⟨ce831,hce831,hMe831,hcc831⟩:=Kd.N_get HO_8.out [] x11_2 p831 (by first|exact q831|exact dz|(have e_:=(Kd.N_reads' HO_8.out).1;omega))
                  obtain⟨ua831_0,uc831_0,rfl,ul831_0,ge831_0⟩:=Kd.FK_slice_open hMe831
                  have hv831_0:=hcc831 0 _ rfl
                  rw[Nat.add_zero,show ((Kd.slice 3 (Kd.int .i64))).sz=1 from rfl,Nat.mul_one] at hv831_0
                  replace hv831_0:=Option.some.inj (hv831_0.symm.trans hx831_0)
                  injection hv831_0 with hva_ hvn_ hvc_
                  rw[hva_] at ge831_0
                  rw[hvc_] at ul831_0
                  have HL831_0:=Aside0.mk (show Kd.V (Kd.int .i64) 3 _ w.heap.size _ _ (rd_L1 t819 x11_2) from Kd.V_mk ul831_0 ge831_0)
                  clear hva_ hvn_ hvc_ ge831_0 ul831_0
                  clear hcc831 hce831
                  have HR831_0:=Aside0.mk hi831_0
                  have HC831_0:=Aside0.mk hl831_0
                  clear hi831_0 hl831_0
                  replace p831:=eq_true p831
                  replace q831:=eq_true q831
                  try go_wp2
                  have n0_:=Aside0.mk (Kd.R_drew HO_5.out)
                  have n1_:=Aside0.mk (Kd.N_drew HO_6.out)
                  have n2_:=Aside0.mk (Kd.R_drew HO_7.out)
                  have n3_:=Aside0.mk (Kd.N_drew HO_8.out)
                  have n4_:=Aside0.mk (Kd.R_drew HO_9.out)
                  have n5_:=Aside0.mk (Kd.N_drew HO_10.out)
                  have n6_:=Aside0.mk (Kd.V_drew HL831_0.out)
                  have n7_:=Aside0.mk (Kd.C_drew HR831_0.out)
                  have n8_:=Aside0.mk (below_drew1 HB.out)
                  clear HO_5
                  clear HO_6
                  clear HO_7
                  clear HO_8
                  clear HO_9
                  clear HO_10
                  clear HL831_0
                  clear HR831_0
                  clear HB
                  have HO_5:=n0_
                  have HO_6:=n1_
                  have HO_7:=n2_
                  have HO_8:=n3_
                  have HO_9:=n4_
                  have HO_10:=n5_
                  have HL831_0:=n6_
                  have HR831_0:=n7_
                  have HB:=n8_
                  clear n0_ n1_ n2_ n3_ n4_ n5_ n6_ n7_ n8_
                  obtain⟨Ao46,co46,eo46⟩:=Kd.R_slice HO_5.out
                  (first|subst eo46|(injection eo46 with f1_ f2_ f3_;have f4_:=f1_.symm;have f5_:=f3_.symm;clear f1_ f2_ f3_;subst f4_;subst f5_))
                  have p844:0≤(0:Int):=(by omega)
                  have q844:0<(t810.length:Int):=dz
                  obtain⟨ad844,e844,hx844_0⟩:=Kd.at_int (Kd.R_reads' HO_5.out).2.2 0 p844 q844
                  cases e844
                  have qi844:(0<t810.length)=True:=eq_true (by omega)
                  (try rw[show ((0:Int)).toNat=0 from rfl] at hx844_0)
                  (try rw[Addr.add_zero'] at hx844_0)
                  replace p844:=eq_true p844
                  replace q844:=eq_true q844
                  have p845:0≤(x11_2:Int):=dz
                  have q845:x11_2<(t816.length:Int):=dz
                  obtain⟨ad845,e845,hx845_0⟩:=Kd.at_int (Kd.R_reads' HO_7.out).2.2 x11_2 p845 q845
                  cases e845
                  replace p845:=eq_true p845
                  replace q845:=eq_true q845
                  have q47:(1:Int)≤((t810.length:Int):Int):=dz
                  obtain⟨i047,hi047,_,hsz47,_⟩:=info_parts info3
                  have hroom47:t810.length≤co46:=(Kd.R_reads' HO_5.out).2.1
                  have hC47:Kd.F (Kd.int .i64) _ _ (some ad844) t810.length t810:=(Kd.V_at (base:=w.heap.size) (Kd.R_V (Kd.R_apart' (Kd.R_apart' (Kd.R_apart' (HO_5.out) (Kd.N_typed HO_6.out) (by decide)) (Kd.N_typed HO_8.out) (by decide)) (Kd.N_typed HO_10.out) (by decide)))).2.2
                  have hcut47:=cut_from (P:=Try.prog) 22 3 .i64 Try.underlying22 hi047 1 hsz47 (some ad844) t810.length co46 1 (by omega) q47
                  have hr47:=Kd.F_cut (m:=(1:Int).toNat) (c:=co46) hC47 (by omega) hroom47
                  obtain⟨A47,hA47⟩:∃ Aq_,Aq_=(if co46=(1:Int).toNat then(some ad844) else((some ad844):Option Addr).map (·.add ((1:Int).toNat*1))):=⟨_,rfl⟩
                  obtain⟨c47,hc47⟩:∃ cq_,cq_=co46-(1:Int).toNat:=⟨_,rfl⟩
                  have hy47:y849.length=t810.length-(1:Int).toNat:=(by rw[Ny849.out,List.length_drop]<;>omega)
                  rw[show (t810).drop (1:Int).toNat=y849 from Ny849.out.symm] at hr47
                  replace hr47:Kd.F (Kd.int .i64) _ _ A47 y849.length y849:=(by rw[hA47];exact hr47)
                  rw[← hy47,← hA47,← hc47] at hcut47
                  have HO853:=Aside0.mk (show Kd.V (Kd.int .i64) 3 _ w.heap.size _ (.slice A47 y849.length c47) y849 from Kd.V_mk (by rw[hy47,hc47];exact Nat.sub_le_sub_right hroom47 _) hr47)
                  have HC853:=Aside0.mk (show y849.length≤c47 from by rw[hy47,hc47];exact Nat.sub_le_sub_right hroom47 _)
                  clear hr47 hC47 hroom47 hi047 hsz47 hc47
                  have KY47:=Aside0.mk hy47
                  have KA47:=Aside0.mk hA47
                  clear hy47 hA47
                  replace q47:=eq_true q47
                  refine start_ (n:=15) (S:=fun w'=>w'.cell? ad844=some (.int .i64 (rd t810 0))∧w'.cell? (ad845.add (x11_2).toNat)=some (.int .i64 (rd t816 x11_2))) (ds:=[9,10,13]) #[F,F,F,F,F,F,F,F,F,F,F,F,F,F,F] (by kernel_rfl) rfl rfl ⟨hx844_0,hx845_0⟩ (fun hHeld=>?_);refine with_tabW spec_l2Times.tab13 spec_l2Times.bits13 (fun HT_ HW_=>?_)
                  generalize wr.drew=w45 at HO_5 HO_6 HO_7 HO_8 HO_9 HO_10 HL831_0 HR831_0 HB HO853 hx844_0 hx845_0 hHeld ⊢
                  refine pq 0 (some 63) ?_ HT_.out rfl rfl (Or.inl ⟨by rfl,?_⟩) ?_ ?_ ?_
                  rotate_left;(· intro w';go_simp;with_reducible rfl);rotate_left;(· simp only[Act.put,s1,s2,s3,i64_w,i32_w];rfl)
                  refine pq 1 (some 64) ?_ HT_.out rfl rfl (Or.inl ⟨by rfl,?_⟩) ?_ ?_ ?_
                  rotate_left;(· intro w';go_simp;with_reducible rfl);rotate_left;(· simp only[Act.put,s1,s2,s3,i64_w,i32_w];rfl)
                  refine pq 2 (some 65) ?_ HT_.out rfl rfl (Or.inl ⟨by rfl,?_⟩) ?_ ?_ ?_
                  rotate_left;(· intro w';go_simp;with_reducible rfl);rotate_left;(· simp only[Act.put,s1,s2,s3,i64_w,i32_w];rfl)
                  refine pq 4 (some 67) ?_ HT_.out rfl rfl (Or.inl ⟨by rfl,?_⟩) ?_ ?_ ?_
                  rotate_left;(· intro w';go_simp;with_reducible rfl);rotate_left;(· simp only[Act.put,s1,s2,s3,i64_w,i32_w];rfl)
                  refine pq 5 (some 68) ?_ HT_.out rfl rfl (Or.inl ⟨by rfl,?_⟩) ?_ ?_ ?_
                  rotate_left;(· intro w';go_simp;with_reducible rfl);rotate_left;(· simp only[Act.put,s1,s2,s3,i64_w,i32_w];rfl)
                  refine pq 6 (some 69) ?_ HT_.out rfl rfl (Or.inl ⟨by rfl,?_⟩) ?_ ?_ ?_
                  rotate_left;(· intro w';go_simp;with_reducible rfl);rotate_left;(· simp only[Act.put,s1,s2,s3,i64_w,i32_w];rfl)
                  refine pq 11 (some 74) ?_ HT_.out rfl rfl (Or.inl ⟨by rfl,?_⟩) ?_ ?_ ?_
                  rotate_left;(· intro w';go_simp;with_reducible rfl);rotate_left;(· simp only[Act.put,s1,s2,s3,i64_w,i32_w];rfl)
                  refine pq 12 (some 75) ?_ HT_.out rfl rfl (Or.inl ⟨by rfl,?_⟩) ?_ ?_ ?_
                  rotate_left;(· intro w';go_simp;with_reducible rfl);rotate_left;(· simp only[Act.put,s1,s2,s3,i64_w,i32_w];rfl)
                  refine take_ (i:=3) (N:=some 66) (v:=?_) (a':=?_) #[T,T,T,T,T,T,T,F,F,F,F,T,T,F,F] rfl rfl (take_ofW HT_.out HW_.out (by kernel_rfl)) (fun _ _ _ h=>h) (Or.inl ⟨by rfl,?_⟩) hHeld ?_ ?_
                  rotate_left;(· rintro w' ⟨s0,s1⟩;go_simp;with_reducible rfl);rotate_left;(· simp only[Act.put,s1,s2,s3,i64_w,i32_w];rfl)
                  refine take_ (i:=7) (N:=some 70) (v:=?_) (a':=?_) #[T,T,T,T,T,T,T,T,F,F,F,T,T,F,F] rfl rfl (take_ofW HT_.out HW_.out (by kernel_rfl)) (fun _ _ _ h=>h) (Or.inl ⟨by rfl,?_⟩) hHeld ?_ ?_
                  rotate_left;(· rintro w' ⟨s0,s1⟩;go_simp;with_reducible rfl);rotate_left;(· simp only[Act.put,s1,s2,s3,i64_w,i32_w];rfl)
                  refine pq 8 (some 71) ?_ HT_.out rfl rfl (Or.inl ⟨by rfl,?_⟩) ?_ ?_ ?_
                  rotate_left;(· intro w';go_simp;with_reducible rfl);rotate_left;(· simp only[Act.put,s1,s2,s3,i64_w,i32_w];rfl)
                  refine last_ (i:=9) (N:=some 72) #[T,T,T,T,T,T,T,T,T,T,F,T,T,F,F] rfl rfl (one_of HT_.out (by kernel_rfl)) (by decide) (fun K hK=>?_)
                  refine value_ (w1:=?_) (v:=?_) (by rfl) rfl ?_ ?_
                  rotate_left 2
                  ·go_simp
                   constructor
                   ·rfl
                   ·rfl
                  refine hK.out _ _ ?_
                  clear hK K
                  refine norm_ (a':=?_) ?_ ?_
                  rotate_left
                  ·show Act.put _ (some 72) _=_
                   simp only[Act.put,s1,s2,s3,i64_w,i32_w]
                   rfl
                  refine last_ (i:=10) (N:=some 73) #[T,T,T,T,T,T,T,T,T,T,T,T,T,F,F] rfl rfl (one_of HT_.out (by kernel_rfl)) (by decide) (fun K hK=>?_)
                  refine Kd.R_append_step (Kd.int .i64) (w0:=w) w.heap.size (by rfl) (.tmp 63) (.tmp 72) 22 3 (.int .i64 0) 8 rfl Try.underlying22 info3 rfl (by decide) (by omega) u9 x9_2 (wrap64 ((rd t810 0)*(rd t816 x11_2))) [.int .i64 (wrap64 ((rd t810 0)*(rd t816 x11_2)))] (fun k_=>some k_≠(.slice (some ad844) t810.length co46:Value).ownBlock∧some k_≠(.slice (some ad845) t816.length co43:Value).ownBlock) (fun _=>False) rfl rfl ?aP (fun _ hk=>hk.elim) ?aF ?aO ?aB ?aS ?aL ?_
                  (case aP=>exact rfl)
                  (case aB=>exact bz)
                  (case aF=>exact(fun k_ hk=>⟨Kd.fresh' (Kd.R_lt (Kd.Rz HO_5.out)) k_ hk,Kd.fresh' (Kd.R_lt (Kd.Rz HO_7.out)) k_ hk⟩))
                  (case aO=>exact(Kd.Rz HO_9.out))
                  (case aS=>exact(below_size bz))
                  (case aL=>have:=LMc36.out;omega)
                  intro v847 w48 ho hb hg hat
                  rw[← Ny846.out] at ho
                  have n0_:=Aside0.mk (Kd.R_after (ok:=(fun k_=>some k_≠(.slice (some ad845) t816.length co43:Value).ownBlock)) (Kd.Rz HO_5.out) hg hat)
                  have n1_:=Aside0.mk (Kd.N_afterv (ok:=(fun k_=>some k_≠(.slice (some ad844) t810.length co46:Value).ownBlock∧some k_≠(.slice (some ad845) t816.length co43:Value).ownBlock∧some k_≠(.slice (some ad831) t819.length co44:Value).ownBlock∧some k_≠(u10:Value).ownBlock)) (Kd.Nz <| Kd.N_mono HO_6.out (fun _ hk=>⟨⟨hk.1,⟨hk.2.1,⟨hk.2.2.1,hk.2.2.2.2⟩⟩⟩,hk.2.2.2.1⟩)) hg hat)
                  have n2_:=Aside0.mk (Kd.R_after (ok:=(fun k_=>some k_≠(.slice (some ad844) t810.length co46:Value).ownBlock)) (Kd.Rz HO_7.out) hg hat)
                  have n3_:=Aside0.mk (Kd.N_afterv (ok:=(fun k_=>some k_≠(.slice (some ad844) t810.length co46:Value).ownBlock∧some k_≠(v814:Value).ownBlock∧some k_≠(.slice (some ad845) t816.length co43:Value).ownBlock∧some k_≠(u10:Value).ownBlock)) (Kd.Nz <| Kd.N_mono HO_8.out (fun _ hk=>⟨⟨hk.1,⟨hk.2.1,⟨hk.2.2.1,hk.2.2.2.2⟩⟩⟩,hk.2.2.2.1⟩)) hg hat)
                  have n4_:=Aside0.mk (Kd.N_afterv (ok:=(fun k_=>some k_≠(.slice (some ad844) t810.length co46:Value).ownBlock∧some k_≠(.slice (some ad845) t816.length co43:Value).ownBlock∧some k_≠(.slice (some ad831) t819.length co44:Value).ownBlock)) (Kd.Nz <| Kd.N_mono HO_10.out (fun _ hk=>⟨⟨hk.1,⟨hk.2.1,hk.2.2.1⟩⟩,hk.2.2.2⟩)) hg hat)
                  have n5_:=Aside0.mk (Kd.V_afterv (ok:=(fun k_=>some k_≠(.slice (some ad844) t810.length co46:Value).ownBlock∧some k_≠(v814:Value).ownBlock∧some k_≠(.slice (some ad845) t816.length co43:Value).ownBlock∧some k_≠(.slice (some ad831) t819.length co44:Value).ownBlock∧some k_≠(u10:Value).ownBlock)) (Kd.Vz <| Kd.V_mono HL831_0.out (fun _ hk=>⟨⟨hk.1.1,⟨hk.1.2.1,⟨hk.1.2.2.1,⟨hk.2,hk.1.2.2.2.2⟩⟩⟩⟩,hk.1.2.2.2.1⟩)) hg hat)
                  have n6_:=Aside0.mk (Kd.V_afterv (ok:=(fun k_=>some k_≠(v814:Value).ownBlock∧some k_≠(.slice (some ad845) t816.length co43:Value).ownBlock∧some k_≠(.slice (some ad831) t819.length co44:Value).ownBlock∧some k_≠(u10:Value).ownBlock)) (Kd.Vz <| Kd.V_mono HO853.out (fun _ hk=>⟨⟨hk.1.1.2,⟨hk.1.1.1.1,⟨hk.1.2,hk.2⟩⟩⟩,hk.1.1.1.2⟩)) hg hat)
                  have n7_:=Aside0.mk (hb)
                  have n8_:=Aside0.mk (ho)
                  clear HO_5
                  clear HO_6
                  clear HO_7
                  clear HO_8
                  clear HO_10
                  clear HL831_0
                  clear HO853
                  clear HB
                  clear HO_9
                  have HO_5:=n0_
                  have HO_6:=n1_
                  have HO_7:=n2_
                  have HO_8:=n3_
                  have HO_10:=n4_
                  have HL831_0:=n5_
                  have HO853:=n6_
                  have HB:=n7_
                  have HO848:=n8_
                  clear n0_ n1_ n2_ n3_ n4_ n5_ n6_ n7_ n8_
                  clear ho hb hg hat
                  refine hK.out _ _ ?_
                  clear hK K
                  refine norm_ (a':=?_) ?_ ?_
                  rotate_left
                  ·show Act.put _ (some 73) _=_
                   simp only[Act.put,s1,s2,s3,i64_w,i32_w]
                   rfl
                  refine last_ (i:=13) (N:=some 76) #[T,T,T,T,T,T,T,T,T,T,T,T,T,T,F] rfl rfl (one_of HT_.out (by kernel_rfl)) (by decide) (fun K hK=>?_)
                  refine Kd.R_append_rows_step (Kd.int .i64) (w0:=w) w.heap.size (by rfl) (.tmp 73) (.tmp 75) 22 3 (.int .i64 0) 8 rfl Try.underlying22 info3 rfl (by decide) (by omega) v847 y846 y849 _ _ _ (fun k_=>some k_≠(.slice (some ad844) t810.length co46:Value).ownBlock∧some k_≠(.slice (some ad845) t816.length co43:Value).ownBlock) (fun _=>False) rfl rfl ?aO ?aR (fun _ _ h=>h) (fun _ h=>h.elim) ?aF ?aB ?aS ?aL ?_
                  (case aR=>repeat (first|exact(Kd.V_reads' HO853.out).2.2|(with_reducible refine Kd.C_alloc ?_ _)|(with_reducible refine Kd.C_drewN ?_ _)|(with_reducible refine Kd.C_drew ?_)))
                  (case aB=>exact bz)
                  (case aF=>exact(fun k_ hk=>⟨Kd.fresh' (Kd.R_lt (Kd.Rz HO_5.out)) k_ hk,Kd.fresh' (Kd.R_lt (Kd.Rz HO_7.out)) k_ hk⟩))
                  (case aO=>exact(Kd.Rz HO848.out))
                  (case aS=>exact(below_size bz))
                  (case aL=>have:=LMc38.out;omega)
                  intro v855 w49 ho hb hg hat
                  rw[← Ny854.out] at ho
                  have n0_:=Aside0.mk (Kd.R_after (ok:=(fun k_=>some k_≠(.slice (some ad845) t816.length co43:Value).ownBlock)) (Kd.Rz HO_5.out) hg hat)
                  have n1_:=Aside0.mk (Kd.N_afterv (ok:=(fun k_=>some k_≠(.slice (some ad844) t810.length co46:Value).ownBlock∧some k_≠(.slice (some ad845) t816.length co43:Value).ownBlock∧some k_≠(.slice (some ad831) t819.length co44:Value).ownBlock∧some k_≠(u10:Value).ownBlock)) (Kd.Nz HO_6.out) hg hat)
                  have n2_:=Aside0.mk (Kd.R_after (ok:=(fun k_=>some k_≠(.slice (some ad844) t810.length co46:Value).ownBlock)) (Kd.Rz HO_7.out) hg hat)
                  have n3_:=Aside0.mk (Kd.N_afterv (ok:=(fun k_=>some k_≠(.slice (some ad844) t810.length co46:Value).ownBlock∧some k_≠(v814:Value).ownBlock∧some k_≠(.slice (some ad845) t816.length co43:Value).ownBlock∧some k_≠(u10:Value).ownBlock)) (Kd.Nz HO_8.out) hg hat)
                  have n4_:=Aside0.mk (Kd.N_afterv (ok:=(fun k_=>some k_≠(.slice (some ad844) t810.length co46:Value).ownBlock∧some k_≠(.slice (some ad845) t816.length co43:Value).ownBlock∧some k_≠(.slice (some ad831) t819.length co44:Value).ownBlock)) (Kd.Nz HO_10.out) hg hat)
                  have n5_:=Aside0.mk (Kd.V_afterv (ok:=(fun k_=>some k_≠(.slice (some ad844) t810.length co46:Value).ownBlock∧some k_≠(v814:Value).ownBlock∧some k_≠(.slice (some ad845) t816.length co43:Value).ownBlock∧some k_≠(.slice (some ad831) t819.length co44:Value).ownBlock∧some k_≠(u10:Value).ownBlock)) (Kd.Vz HL831_0.out) hg hat)
                  have n6_:=Aside0.mk (Kd.V_afterv (ok:=(fun k_=>some k_≠(v814:Value).ownBlock∧some k_≠(.slice (some ad845) t816.length co43:Value).ownBlock∧some k_≠(.slice (some ad831) t819.length co44:Value).ownBlock∧some k_≠(u10:Value).ownBlock)) (Kd.Vz HO853.out) hg hat)
                  have n7_:=Aside0.mk (hb)
                  have n8_:=Aside0.mk (ho)
                  clear HO_5
                  clear HO_6
                  clear HO_7
                  clear HO_8
                  clear HO_10
                  clear HL831_0
                  clear HO853
                  clear HB
                  clear HO848
                  have HO_5:=n0_
                  have HO_6:=n1_
                  have HO_7:=n2_
                  have HO_8:=n3_
                  have HO_10:=n4_
                  have HL831_0:=n5_
                  have HO853:=n6_
                  have HB:=n7_
                  have HO856:=n8_
                  clear n0_ n1_ n2_ n3_ n4_ n5_ n6_ n7_ n8_
                  clear ho hb hg hat
                  refine hK.out _ _ ?_
                  clear hK K
                  refine norm_ (a':=?_) ?_ ?_
                  rotate_left
                  ·show Act.put _ (some 76) _=_
                   simp only[Act.put,s1,s2,s3,i64_w,i32_w]
                   rfl
                  refine pq 14 (some 9) ?_ HT_.out rfl rfl (Or.inl ⟨by rfl,?_⟩) ?_ ?_ ?_
                  rotate_left;(· intro w';go_simp;with_reducible rfl);rotate_left;(· simp only[Act.put,s1,s2,s3,i64_w,i32_w];rfl)
                  refine done_ (done_of HT_.out (by kernel_rfl)) ?_
                  try go_wp2
                  have n0_:=Aside0.mk (Kd.R_drew HO_5.out)
                  have n1_:=Aside0.mk (Kd.N_drew HO_6.out)
                  have n2_:=Aside0.mk (Kd.R_drew HO_7.out)
                  have n3_:=Aside0.mk (Kd.N_drew HO_8.out)
                  have n4_:=Aside0.mk (Kd.N_drew HO_10.out)
                  have n5_:=Aside0.mk (Kd.V_drew HL831_0.out)
                  have n6_:=Aside0.mk (Kd.V_drew HO853.out)
                  have n7_:=Aside0.mk (Kd.R_drew HO856.out)
                  have n8_:=Aside0.mk (below_drew1 HB.out)
                  clear HO_5
                  clear HO_6
                  clear HO_7
                  clear HO_8
                  clear HO_10
                  clear HL831_0
                  clear HO853
                  clear HO856
                  clear HB
                  have HO_5:=n0_
                  have HO_6:=n1_
                  have HO_7:=n2_
                  have HO_8:=n3_
                  have HO_10:=n4_
                  have HL831_0:=n5_
                  have HO853:=n6_
                  have HO856:=n7_
                  have HB:=n8_
                  clear n0_ n1_ n2_ n3_ n4_ n5_ n6_ n7_ n8_
                  obtain⟨Ao51,co51,eo51⟩:=Kd.N_slice HO_6.out
                  (first|subst eo51|(injection eo51 with f1_ f2_ f3_;have f4_:=f1_.symm;have f5_:=f3_.symm;clear f1_ f2_ f3_;subst f4_;subst f5_))
                  have p857:0≤(0:Int):=(by omega)
                  have q857:0<(t813.length:Int):=dz
                  obtain⟨ad857,A857_0,c857_0,e857,hx857_0,hl857_0,hi857_0⟩:=at_L1 (Kd.N_reads' HO_6.out).2.2 0 p857 q857
                  cases e857
                  obtain⟨ce857,hce857,hMe857,hcc857⟩:=Kd.N_get HO_6.out [] 0 p857 (by first|exact q857|exact dz|(have e_:=(Kd.N_reads' HO_6.out).1;omega))
                  obtain⟨ua857_0,uc857_0,rfl,ul857_0,ge857_0⟩:=Kd.FK_slice_open hMe857
                  have hv857_0:=hcc857 0 _ rfl
                  rw[Nat.add_zero,show ((Kd.slice 3 (Kd.int .i64))).sz=1 from rfl,Nat.mul_one] at hv857_0
                  replace hv857_0:=Option.some.inj (hv857_0.symm.trans hx857_0)
                  injection hv857_0 with hva_ hvn_ hvc_
                  rw[hva_] at ge857_0
                  rw[hvc_] at ul857_0
                  have HL857_0:=Aside0.mk (show Kd.V (Kd.int .i64) 3 _ w.heap.size _ _ (rd_L1 t813 0) from Kd.V_mk ul857_0 ge857_0)
                  clear hva_ hvn_ hvc_ ge857_0 ul857_0
                  clear hcc857 hce857
                  have qi857:(0<t813.length)=True:=eq_true (by omega)
                  (try rw[show ((0:Int)).toNat=0 from rfl] at hx857_0)
                  (try rw[Addr.add_zero'] at hx857_0)
                  have HR857_0:=Aside0.mk hi857_0
                  have HC857_0:=Aside0.mk hl857_0
                  clear hi857_0 hl857_0
                  replace p857:=eq_true p857
                  replace q857:=eq_true q857
                  have q52:(1:Int)≤((t813.length:Int):Int):=dz
                  obtain⟨i052,hi052,_,hsz52,_⟩:=info_parts info22
                  have hroom52:t813.length≤co51:=(Kd.N_reads' HO_6.out).2.1
                  have hC52:Kd.F (Kd.slice 3 (Kd.int .i64)) _ _ (some ad857) t813.length t813:=(Kd.V_at (base:=w.heap.size) (Kd.N_V HO_6.out)).2.2
                  have hcut52:=cut_from (P:=Try.prog) 52 22 .i64 Try.underlying52 hi052 1 hsz52 (some ad857) t813.length co51 1 (by omega) q52
                  have hr52:=Kd.F_cut (m:=(1:Int).toNat) (c:=co51) hC52 (by omega) hroom52
                  obtain⟨A52,hA52⟩:∃ Aq_,Aq_=(if co51=(1:Int).toNat then(some ad857) else((some ad857):Option Addr).map (·.add ((1:Int).toNat*1))):=⟨_,rfl⟩
                  obtain⟨c52,hc52⟩:∃ cq_,cq_=co51-(1:Int).toNat:=⟨_,rfl⟩
                  have hy52:y861.length=t813.length-(1:Int).toNat:=(by rw[Ny861.out,List.length_drop]<;>omega)
                  rw[show (t813).drop (1:Int).toNat=y861 from Ny861.out.symm] at hr52
                  replace hr52:Kd.F (Kd.slice 3 (Kd.int .i64)) _ _ A52 y861.length y861:=(by rw[hA52];exact hr52)
                  rw[← hy52,← hA52,← hc52] at hcut52
                  have HO865:=Aside0.mk (show Kd.V (Kd.slice 3 (Kd.int .i64)) 22 _ w.heap.size _ (.slice A52 y861.length c52) y861 from Kd.V_mk (by rw[hy52,hc52];exact Nat.sub_le_sub_right hroom52 _) hr52)
                  have HC865:=Aside0.mk (show y861.length≤c52 from by rw[hy52,hc52];exact Nat.sub_le_sub_right hroom52 _)
                  clear hr52 hC52 hroom52 hi052 hsz52 hc52
                  have KY52:=Aside0.mk hy52
                  have KA52:=Aside0.mk hA52
                  clear hy52 hA52
                  replace q52:=eq_true q52
                  refine start_ (n:=10) (S:=fun w'=>w'.cell? ad857=some (.slice A857_0 (rd_L1 t813 0).length c857_0)) (ds:=[4,5,8]) #[F,F,F,F,F,F,F,F,F,F] (by kernel_rfl) rfl rfl (hx857_0) (fun hHeld=>?_);refine with_tabW spec_l2Times.tab14 spec_l2Times.bits14 (fun HT_ HW_=>?_)
                  generalize w49.drew=w50 at HO_5 HO_6 HO_7 HO_8 HO_10 HL831_0 HO853 HO856 HB HL857_0 HO865 HR857_0 hx857_0 hHeld ⊢
                  refine pq 0 (some 77) ?_ HT_.out rfl rfl (Or.inl ⟨by rfl,?_⟩) ?_ ?_ ?_
                  rotate_left;(· intro w';go_simp;with_reducible rfl);rotate_left;(· simp only[Act.put,s1,s2,s3,i64_w,i32_w];rfl)
                  refine pq 1 (some 78) ?_ HT_.out rfl rfl (Or.inl ⟨by rfl,?_⟩) ?_ ?_ ?_
                  rotate_left;(· intro w';go_simp;with_reducible rfl);rotate_left;(· simp only[Act.put,s1,s2,s3,i64_w,i32_w];rfl)
                  refine pq 2 (some 79) ?_ HT_.out rfl rfl (Or.inl ⟨by rfl,?_⟩) ?_ ?_ ?_
                  rotate_left;(· intro w';go_simp;with_reducible rfl);rotate_left;(· simp only[Act.put,s1,s2,s3,i64_w,i32_w];rfl)
                  refine pq 6 (some 83) ?_ HT_.out rfl rfl (Or.inl ⟨by rfl,?_⟩) ?_ ?_ ?_
                  rotate_left;(· intro w';go_simp;with_reducible rfl);rotate_left;(· simp only[Act.put,s1,s2,s3,i64_w,i32_w];rfl)
                  refine pq 7 (some 84) ?_ HT_.out rfl rfl (Or.inl ⟨by rfl,?_⟩) ?_ ?_ ?_
                  rotate_left;(· intro w';go_simp;with_reducible rfl);rotate_left;(· simp only[Act.put,s1,s2,s3,i64_w,i32_w];rfl)
                  refine take_ (i:=3) (N:=some 80) (v:=?_) (a':=?_) #[T,T,T,T,F,F,T,T,F,F] rfl rfl (take_ofW HT_.out HW_.out (by kernel_rfl)) (fun _ _ _ h=>h) (Or.inl ⟨by rfl,?_⟩) hHeld ?_ ?_
                  rotate_left;(· intro w' s0;go_simp;with_reducible rfl);rotate_left;(· simp only[Act.put,s1,s2,s3,i64_w,i32_w];rfl)
                  refine last_ (i:=4) (N:=some 81) #[T,T,T,T,T,F,T,T,F,F] rfl rfl (one_of HT_.out (by kernel_rfl)) (by decide) (fun K hK=>?_)
                  refine value_ (w1:=?_) (v:=?_) (by rfl) rfl ?_ ?_
                  rotate_left 2
                  ·go_simp
                   constructor
                   ·rfl
                   ·rfl
                  refine hK.out _ _ ?_
                  clear hK K
                  refine norm_ (a':=?_) ?_ ?_
                  rotate_left
                  ·show Act.put _ (some 81) _=_
                   simp only[Act.put,s1,s2,s3,i64_w,i32_w]
                   rfl
                  refine last_ (i:=5) (N:=some 82) #[T,T,T,T,T,T,T,T,F,F] rfl rfl (one_of HT_.out (by kernel_rfl)) (by decide) (fun K hK=>?_)
                  refine Kd.N_append_step (Kd.slice 3 (Kd.int .i64)) (w0:=w) w.heap.size (by rfl) (.tmp 77) (.tmp 81) 52 22 (.slice none 0 0) 24 rfl Try.underlying52 info22 rfl (by decide) (by omega) u10 x10_2 (rd_L1 t813 0) [.slice A857_0 (rd_L1 t813 0).length c857_0] (fun k_=>some k_≠(.slice (some ad844) t810.length co46:Value).ownBlock∧some k_≠(.slice (some ad845) t816.length co43:Value).ownBlock∧some k_≠(.slice (some ad831) t819.length co44:Value).ownBlock∧some k_≠(v855:Value).ownBlock) (fun k_=>((fun k_=>some k_≠(.slice (some ad844) t810.length co46:Value).ownBlock∧some k_≠(.slice (some ad845) t816.length co43:Value).ownBlock∧some k_≠(.slice (some ad831) t819.length co44:Value).ownBlock∧some k_≠(v855:Value).ownBlock)) k_∧some k_≠(u10:Value).ownBlock) rfl rfl ?aP (fun _ hk=>hk) ?aF ?aO ?aB ?aS ?aL ?_
                  (case aP=>exact(Kd.FK_slice_mk (Kd.V_reads' (Kd.V_mono (ok':=(fun k_=>((fun k_=>some k_≠(.slice (some ad844) t810.length co46:Value).ownBlock∧some k_≠(.slice (some ad845) t816.length co43:Value).ownBlock∧some k_≠(.slice (some ad831) t819.length co44:Value).ownBlock∧some k_≠(v855:Value).ownBlock)) k_∧some k_≠(u10:Value).ownBlock)) (HL857_0.out) (fun k_ hk=>⟨⟨hk.1.1.1,⟨hk.1.1.2.1,⟨hk.1.1.2.2.1,hk.1.2⟩⟩⟩,hk.1.1.2.2.2⟩))).2.1 (Kd.V_F (Kd.V_mono (ok':=(fun k_=>((fun k_=>some k_≠(.slice (some ad844) t810.length co46:Value).ownBlock∧some k_≠(.slice (some ad845) t816.length co43:Value).ownBlock∧some k_≠(.slice (some ad831) t819.length co44:Value).ownBlock∧some k_≠(v855:Value).ownBlock)) k_∧some k_≠(u10:Value).ownBlock)) (HL857_0.out) (fun k_ hk=>⟨⟨hk.1.1.1,⟨hk.1.1.2.1,⟨hk.1.1.2.2.1,hk.1.2⟩⟩⟩,hk.1.1.2.2.2⟩)))))
                  (case aB=>exact bz)
                  (case aF=>exact(fun k_ hk=>⟨Kd.fresh' (Kd.R_lt (Kd.Rz HO_5.out)) k_ hk,Kd.fresh' (Kd.R_lt (Kd.Rz HO_7.out)) k_ hk,Kd.fresh' (Kd.N_lt (Kd.Nz HO_8.out)) k_ hk,Kd.fresh' (Kd.R_lt (Kd.Rz HO856.out)) k_ hk⟩))
                  (case aO=>exact(Kd.Nz <| Kd.N_mono HO_10.out (fun _ hk=>⟨hk.1.1,⟨hk.1.2.1,⟨hk.1.2.2,hk.2⟩⟩⟩)))
                  (case aS=>exact(below_size bz))
                  (case aL=>have:=LMc40.out;omega)
                  intro v859 w53 ho hb hg hat
                  rw[← Ny858.out] at ho
                  have n0_:=Aside0.mk (Kd.R_over' (Kd.Rz HO_5.out) (Kd.N_typed (Kd.Nz HO_10.out)) (by decide) hg)
                  have n1_:=Aside0.mk (Kd.N_afterv (ok:=(fun k_=>some k_≠(.slice (some ad844) t810.length co46:Value).ownBlock∧some k_≠(.slice (some ad845) t816.length co43:Value).ownBlock∧some k_≠(.slice (some ad831) t819.length co44:Value).ownBlock∧some k_≠(v855:Value).ownBlock)) (Kd.Nz <| Kd.N_mono HO_6.out (fun _ hk=>⟨⟨hk.1.1,⟨hk.1.2.1,⟨hk.1.2.2.1,hk.2⟩⟩⟩,hk.1.2.2.2⟩)) hg hat)
                  have n2_:=Aside0.mk (Kd.R_over' (Kd.Rz HO_7.out) (Kd.N_typed (Kd.Nz HO_10.out)) (by decide) hg)
                  have n3_:=Aside0.mk (Kd.N_afterv (ok:=(fun k_=>some k_≠(.slice (some ad844) t810.length co46:Value).ownBlock∧some k_≠(.slice (some ad857) t813.length co51:Value).ownBlock∧some k_≠(.slice (some ad845) t816.length co43:Value).ownBlock∧some k_≠(v855:Value).ownBlock)) (Kd.Nz <| Kd.N_mono HO_8.out (fun _ hk=>⟨⟨hk.1.1,⟨hk.1.2.1,⟨hk.1.2.2.1,hk.2⟩⟩⟩,hk.1.2.2.2⟩)) hg hat)
                  have n4_:=Aside0.mk (Kd.V_afterv (ok:=(fun k_=>some k_≠(.slice (some ad844) t810.length co46:Value).ownBlock∧some k_≠(.slice (some ad857) t813.length co51:Value).ownBlock∧some k_≠(.slice (some ad845) t816.length co43:Value).ownBlock∧some k_≠(.slice (some ad831) t819.length co44:Value).ownBlock∧some k_≠(v855:Value).ownBlock)) (Kd.Vz <| Kd.V_mono HL831_0.out (fun _ hk=>⟨⟨hk.1.1,⟨hk.1.2.1,⟨hk.1.2.2.1,⟨hk.1.2.2.2.1,hk.2⟩⟩⟩⟩,hk.1.2.2.2.2⟩)) hg hat)
                  have n5_:=Aside0.mk (Kd.V_afterv (ok:=(fun k_=>some k_≠(.slice (some ad857) t813.length co51:Value).ownBlock∧some k_≠(.slice (some ad845) t816.length co43:Value).ownBlock∧some k_≠(.slice (some ad831) t819.length co44:Value).ownBlock∧some k_≠(v855:Value).ownBlock)) (Kd.Vz <| Kd.V_mono HO853.out (fun _ hk=>⟨⟨hk.1.1,⟨hk.1.2.1,⟨hk.1.2.2.1,hk.2⟩⟩⟩,hk.1.2.2.2⟩)) hg hat)
                  have n6_:=Aside0.mk (Kd.R_over' (Kd.Rz HO856.out) (Kd.N_typed (Kd.Nz HO_10.out)) (by decide) hg)
                  have n7_:=Aside0.mk (Kd.V_afterv (ok:=(fun k_=>some k_≠(.slice (some ad844) t810.length co46:Value).ownBlock∧some k_≠(.slice (some ad857) t813.length co51:Value).ownBlock∧some k_≠(.slice (some ad845) t816.length co43:Value).ownBlock∧some k_≠(.slice (some ad831) t819.length co44:Value).ownBlock∧some k_≠(v855:Value).ownBlock)) (Kd.Vz <| Kd.V_mono HL857_0.out (fun _ hk=>⟨⟨hk.1.1.1,⟨hk.2,⟨hk.1.1.2.1,⟨hk.1.1.2.2.1,hk.1.2⟩⟩⟩⟩,hk.1.1.2.2.2⟩)) hg hat)
                  have n8_:=Aside0.mk (Kd.V_afterv (ok:=(fun k_=>some k_≠(.slice (some ad844) t810.length co46:Value).ownBlock∧some k_≠(.slice (some ad845) t816.length co43:Value).ownBlock∧some k_≠(.slice (some ad831) t819.length co44:Value).ownBlock∧some k_≠(v855:Value).ownBlock)) (Kd.Vz <| Kd.V_mono HO865.out (fun _ hk=>⟨⟨hk.1.1,⟨hk.1.2.1,⟨hk.1.2.2.1,hk.2⟩⟩⟩,hk.1.2.2.2⟩)) hg hat)
                  have n9_:=Aside0.mk (hb)
                  have n10_:=Aside0.mk (ho)
                  clear HO_5
                  clear HO_6
                  clear HO_7
                  clear HO_8
                  clear HL831_0
                  clear HO853
                  clear HO856
                  clear HL857_0
                  clear HO865
                  clear HB
                  clear HO_10
                  have HO_5:=n0_
                  have HO_6:=n1_
                  have HO_7:=n2_
                  have HO_8:=n3_
                  have HL831_0:=n4_
                  have HO853:=n5_
                  have HO856:=n6_
                  have HL857_0:=n7_
                  have HO865:=n8_
                  have HB:=n9_
                  have HO860:=n10_
                  clear n0_ n1_ n2_ n3_ n4_ n5_ n6_ n7_ n8_ n9_ n10_
                  clear ho hb hg hat
                  refine hK.out _ _ ?_
                  clear hK K
                  refine norm_ (a':=?_) ?_ ?_
                  rotate_left
                  ·show Act.put _ (some 82) _=_
                   simp only[Act.put,s1,s2,s3,i64_w,i32_w]
                   rfl
                  refine last_ (i:=8) (N:=some 85) #[T,T,T,T,T,T,T,T,T,F] rfl rfl (one_of HT_.out (by kernel_rfl)) (by decide) (fun K hK=>?_)
                  refine Kd.N_append_rows_step (Kd.slice 3 (Kd.int .i64)) (w0:=w) w.heap.size (by rfl) (.tmp 82) (.tmp 84) 52 22 (.slice none 0 0) 24 rfl Try.underlying52 info22 rfl (by decide) (by omega) v859 y858 y861 _ _ _ (fun k_=>some k_≠(.slice (some ad844) t810.length co46:Value).ownBlock∧some k_≠(.slice (some ad845) t816.length co43:Value).ownBlock∧some k_≠(.slice (some ad831) t819.length co44:Value).ownBlock∧some k_≠(v855:Value).ownBlock) (fun k_=>((fun k_=>some k_≠(.slice (some ad844) t810.length co46:Value).ownBlock∧some k_≠(.slice (some ad845) t816.length co43:Value).ownBlock∧some k_≠(.slice (some ad831) t819.length co44:Value).ownBlock∧some k_≠(v855:Value).ownBlock)) k_∧some k_≠(v859:Value).ownBlock) rfl rfl ?aO ?aR (fun _ hk=>hk) ?aF ?aB ?aS ?aL ?_
                  (case aR=>exact(by skip;exact Kd.V_F (Kd.V_mono (ok':=(fun k_=>((fun k_=>some k_≠(.slice (some ad844) t810.length co46:Value).ownBlock∧some k_≠(.slice (some ad845) t816.length co43:Value).ownBlock∧some k_≠(.slice (some ad831) t819.length co44:Value).ownBlock∧some k_≠(v855:Value).ownBlock)) k_∧some k_≠(v859:Value).ownBlock)) (HO865.out) (fun k_ hk=>⟨⟨hk.1.1,⟨hk.1.2.1,⟨hk.1.2.2.1,hk.1.2.2.2⟩⟩⟩,hk.2⟩))))
                  (case aB=>exact bz)
                  (case aF=>exact(fun k_ hk=>⟨Kd.fresh' (Kd.R_lt (Kd.Rz HO_5.out)) k_ hk,Kd.fresh' (Kd.R_lt (Kd.Rz HO_7.out)) k_ hk,Kd.fresh' (Kd.N_lt (Kd.Nz HO_8.out)) k_ hk,Kd.fresh' (Kd.R_lt (Kd.Rz HO856.out)) k_ hk⟩))
                  (case aO=>exact(Kd.Nz HO860.out))
                  (case aS=>exact(below_size bz))
                  (case aL=>have:=LMc42.out;omega)
                  intro v867 w54 ho hb hg hat
                  rw[← Ny866.out] at ho
                  have n0_:=Aside0.mk (Kd.R_over' (Kd.Rz HO_5.out) (Kd.N_typed (Kd.Nz HO860.out)) (by decide) hg)
                  have n1_:=Aside0.mk (Kd.N_afterv (ok:=(fun k_=>some k_≠(.slice (some ad844) t810.length co46:Value).ownBlock∧some k_≠(.slice (some ad845) t816.length co43:Value).ownBlock∧some k_≠(.slice (some ad831) t819.length co44:Value).ownBlock∧some k_≠(v855:Value).ownBlock)) (Kd.Nz HO_6.out) hg hat)
                  have n2_:=Aside0.mk (Kd.R_over' (Kd.Rz HO_7.out) (Kd.N_typed (Kd.Nz HO860.out)) (by decide) hg)
                  have n3_:=Aside0.mk (Kd.N_afterv (ok:=(fun k_=>some k_≠(.slice (some ad844) t810.length co46:Value).ownBlock∧some k_≠(.slice (some ad857) t813.length co51:Value).ownBlock∧some k_≠(.slice (some ad845) t816.length co43:Value).ownBlock∧some k_≠(v855:Value).ownBlock)) (Kd.Nz HO_8.out) hg hat)
                  have n4_:=Aside0.mk (Kd.V_afterv (ok:=(fun k_=>some k_≠(.slice (some ad844) t810.length co46:Value).ownBlock∧some k_≠(.slice (some ad857) t813.length co51:Value).ownBlock∧some k_≠(.slice (some ad845) t816.length co43:Value).ownBlock∧some k_≠(.slice (some ad831) t819.length co44:Value).ownBlock∧some k_≠(v855:Value).ownBlock)) (Kd.Vz HL831_0.out) hg hat)
                  have n5_:=Aside0.mk (Kd.V_afterv (ok:=(fun k_=>some k_≠(.slice (some ad857) t813.length co51:Value).ownBlock∧some k_≠(.slice (some ad845) t816.length co43:Value).ownBlock∧some k_≠(.slice (some ad831) t819.length co44:Value).ownBlock∧some k_≠(v855:Value).ownBlock)) (Kd.Vz HO853.out) hg hat)
                  have n6_:=Aside0.mk (Kd.R_over' (Kd.Rz HO856.out) (Kd.N_typed (Kd.Nz HO860.out)) (by decide) hg)
                  have n7_:=Aside0.mk (Kd.V_afterv (ok:=(fun k_=>some k_≠(.slice (some ad844) t810.length co46:Value).ownBlock∧some k_≠(.slice (some ad857) t813.length co51:Value).ownBlock∧some k_≠(.slice (some ad845) t816.length co43:Value).ownBlock∧some k_≠(.slice (some ad831) t819.length co44:Value).ownBlock∧some k_≠(v855:Value).ownBlock)) (Kd.Vz HL857_0.out) hg hat)
                  have n8_:=Aside0.mk (Kd.V_afterv (ok:=(fun k_=>some k_≠(.slice (some ad844) t810.length co46:Value).ownBlock∧some k_≠(.slice (some ad845) t816.length co43:Value).ownBlock∧some k_≠(.slice (some ad831) t819.length co44:Value).ownBlock∧some k_≠(v855:Value).ownBlock)) (Kd.Vz HO865.out) hg hat)
                  have n9_:=Aside0.mk (hb)
                  have n10_:=Aside0.mk (ho)
                  clear HO_5
                  clear HO_6
                  clear HO_7
                  clear HO_8
                  clear HL831_0
                  clear HO853
                  clear HO856
                  clear HL857_0
                  clear HO865
                  clear HB
                  clear HO860
                  have HO_5:=n0_
                  have HO_6:=n1_
                  have HO_7:=n2_
                  have HO_8:=n3_
                  have HL831_0:=n4_
                  have HO853:=n5_
                  have HO856:=n6_
                  have HL857_0:=n7_
                  have HO865:=n8_
                  have HB:=n9_
                  have HO868:=n10_
                  clear n0_ n1_ n2_ n3_ n4_ n5_ n6_ n7_ n8_ n9_ n10_
                  clear ho hb hg hat
                  refine hK.out _ _ ?_
                  clear hK K
                  refine norm_ (a':=?_) ?_ ?_
                  rotate_left
                  ·show Act.put _ (some 85) _=_
                   simp only[Act.put,s1,s2,s3,i64_w,i32_w]
                   rfl
                  refine pq 9 (some 10) ?_ HT_.out rfl rfl (Or.inl ⟨by rfl,?_⟩) ?_ ?_ ?_
                  rotate_left;(· intro w';go_simp;with_reducible rfl);rotate_left;(· simp only[Act.put,s1,s2,s3,i64_w,i32_w];rfl)
                  refine done_ (done_of HT_.out (by kernel_rfl)) ?_
                  try go_wp2
                  go_roundg k2
                  case measure=>have:=HJ4.out;have:=HK2.out;omega
                  case rel=>exact⟨(y854),(y866),(wrap64 (x11_2+1)),(by first|rfl|(simp;done)|(simp[*];done)),H',⟨by have:=HJ4.out;have:=HK2.out;omega⟩,⟨by(with_reducible repeat (first|apply Kd.R_alloc|apply Kd.R_drewN|apply Kd.R_drew));exact HO_5.out⟩,⟨Kd.Nz <| Kd.N_mono HO_6.out (fun _ hk=>⟨hk.1.1,⟨hk.1.2.1,⟨hk.1.2.2.1,⟨hk.1.2.2.2,hk.2⟩⟩⟩⟩)⟩,⟨by(with_reducible repeat (first|apply Kd.R_alloc|apply Kd.R_drewN|apply Kd.R_drew));exact HO_7.out⟩,⟨Kd.Nz <| Kd.N_mono HO_8.out (fun _ hk=>⟨hk.1.1,⟨hk.1.2.1,⟨hk.1.2.2.1,⟨hk.1.2.2.2,hk.2⟩⟩⟩⟩)⟩,⟨by(with_reducible repeat (first|apply Kd.R_alloc|apply Kd.R_drewN|apply Kd.R_drew));exact HO856.out⟩,⟨by(with_reducible repeat (first|apply Kd.N_alloc|apply Kd.N_drewN|apply Kd.N_drew));exact HO868.out⟩,⟨bz⟩⟩
                 ·rw[if_neg c42] at H
                  exact absurd H (by simp)
                ·rw[if_neg c41] at H
                 exact absurd H (by simp)
               ·rw[if_neg c40] at H
                exact absurd H (by simp)
              ·rw[if_neg c39] at H
               exact absurd H (by simp)
             ·rw[if_neg c38] at H
              exact absurd H (by simp)
            ·rw[if_neg c37] at H
             exact absurd H (by simp)
           ·rw[if_neg c36] at H
            exact absurd H (by simp)
          ·rw[if_neg c35] at H
           exact absurd H (by simp)
        ·rw[if_neg c21] at H
         exact absurd H (by simp)
       ·rw[if_neg c20] at H
        exact absurd H (by simp)
      ·rw[if_neg c19] at H
       have c19b0:decide (x11_2<(t816.length:Int))=false:=decide_eq_false c19
       clear c19
       replace H:=Option.bind_eq_some_iff.mp H
       obtain⟨t869,A550,H⟩:=H
       replace H:(some t869)=some r:=H
       have A55:=Aside0.mk A550
       clear A550
       obtain rfl:=Option.some.inj H
       obtain⟨Ao56,co56,eo56⟩:=Kd.R_slice HO_7.out
       subst eo56
       obtain⟨Ao57,co57,eo57⟩:=Kd.R_slice HO_9.out
       subst eo57
       obtain⟨Ao58,co58,eo58⟩:=Kd.N_slice HO_10.out
       subst eo58
       go_wp2_with (first|((with_reducible refine gate_callee (f:=54) rfl ?_);refine goesL_ (some 88) rfl rfl Try.func54 (by kernel_rfl) rfl #[.slice Ao57 x9_2.length co57,.slice Ao58 x10_2.length co58] rfl az ?_;(with_reducible refine(spec_l1Make.calls k2 _ _ x9_2 _ _ x10_2 t869 _ ?side1 ?side2 ?side3 ?side4 A55.out).mono ?_);(case side1=>exact Kd.Cz (Kd.R_reads' HO_9.out).2.2);(case side2=>exact(Kd.R_reads' HO_9.out).2.1);(case side3=>exact Kd.Cz (Kd.N_reads' HO_10.out).2.2);(case side4=>exact(Kd.N_reads' HO_10.out).2.1);rintro e w59 ⟨v870,rfl,ho0,hb⟩;refine⟨_,rfl,?_⟩;replace HO_6:=Aside0.mk (Kd.N_elder' (Kd.Nz HO_6.out) (Kd.R_base ho0) hb);replace HO_8:=Aside0.mk (Kd.N_elder' (Kd.Nz HO_8.out) (Kd.R_base ho0) hb);replace HO_10:=Aside0.mk (Kd.N_elder' (Kd.Nz HO_10.out) (Kd.R_base ho0) hb);have HO871:=Aside0.mk (Kd.R_lower (Kd.R_new' (Kd.R_new' (Kd.R_new' ho0 (Kd.R_lt (Kd.Rz HO_5.out))) (Kd.R_lt (Kd.Rz HO_7.out))) (Kd.R_lt (Kd.Rz HO_9.out))) (below_size bz));replace HO_5:=Aside0.mk (Kd.R_elder' (Kd.Rz HO_5.out) (Kd.R_base ho0) hb);replace HO_7:=Aside0.mk (Kd.R_elder' (Kd.Rz HO_7.out) (Kd.R_base ho0) hb);replace HO_9:=Aside0.mk (Kd.R_elder' (Kd.Rz HO_9.out) (Kd.R_base ho0) hb);replace HB:=Aside0.mk (below_step bz hb);(try clear hb);(try clear hb2);(try clear hk);(try clear hi);(try clear ho0)))
       go_ret
       exact⟨_,by first|rfl|(simp[errW_none,errW_some]<;>rfl)|(simp[*,errW_none,errW_some]<;>rfl),Kd.Rz <| Kd.R_mono HO871.out (fun _ hk=>trivial),bz⟩
end Go.Proofs.Ytfblcanijhnhmaa.P