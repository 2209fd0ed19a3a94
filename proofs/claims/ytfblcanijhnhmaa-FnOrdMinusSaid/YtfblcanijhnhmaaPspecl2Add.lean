/- One Go function comes to what its Lean function tells. -/
import Derived.Test.YtfblcanijhnhmaaP0
import Derived.Test.YtfblcanijhnhmaaPspecl1Compare
import Derived.Test.YtfblcanijhnhmaaPspecl1Make
import Derived.Test.YtfblcanijhnhmaaPspecl1Terms
namespace Go.Proofs.Ytfblcanijhnhmaa.P
open Go.RowKit YtfblcanijhnhmaaW.PrintWords YtfblcanijhnhmaaW.PrintLast YtfblcanijhnhmaaW.PrintMore
set_option linter.unusedVariables false
set_option linter.unusedSimpArgs false
/-! ### spec_l2Add: function 44 -/
mutual
def spec_l2Add.j1:Nat→List Int→List (List Int)→List Int→List (List Int)→Option (List Int)
 | 0,_,_,_,_=>none
 | k+1,x5,x6,x9,x10=>if(wrap64 ((x9.length:Int)-1))≥0 then(if 0≤(wrap64 ((x9.length:Int)-1)) then(if(wrap64 ((x9.length:Int)-1))<(x10.length:Int) then(if 0<(x6.length:Int) then((spec_l1Compare.f k (rd_L1 x10 (wrap64 ((x9.length:Int)-1))) (rd_L1 x6 0)).bind fun t220=>(if t220=0 then(if(wrap64 ((x9.length:Int)-1))<(x9.length:Int) then(if 0<(x5.length:Int) then((some (x9.set ((wrap64 ((x9.length:Int)-1)):Int).toNat (wrap64 ((rd x9 (wrap64 ((x9.length:Int)-1)))+(rd x5 0))):List Int)).bind fun y223=>(if 1≤(x5.length:Int) then((some (x5.drop 1:List Int)).bind fun y224=>(if y223.length+y224.length<17592186044416 then(if 1≤(x6.length:Int) then((some (x6.drop 1:List (List Int))).bind fun y232=>(if x10.length+y232.length<5864062014805 then((spec_l1Make.f k (y223++y224) (x10++y232)).bind fun t240=>(some t240)) else(none))) else(none)) else(none))) else(none))) else(none)) else(none)) else(if 0≤(x5.length:Int) then((some (x5.drop 0:List Int)).bind fun y243=>(if x9.length+y243.length<17592186044416 then(if 0≤(x6.length:Int) then((some (x6.drop 0:List (List Int))).bind fun y251=>(if x10.length+y251.length<5864062014805 then((spec_l1Make.f k (x9++y243) (x10++y251)).bind fun t259=>(some t259)) else(none))) else(none)) else(none))) else(none)))) else(none)) else(none)) else(none)) else(if 0≤(x5.length:Int) then((some (x5.drop 0:List Int)).bind fun y262=>(if x9.length+y262.length<17592186044416 then(if 0≤(x6.length:Int) then((some (x6.drop 0:List (List Int))).bind fun y270=>(if x10.length+y270.length<5864062014805 then((spec_l1Make.f k (x9++y262) (x10++y270)).bind fun t278=>(some t278)) else(none))) else(none)) else(none))) else(none))
def spec_l2Add.l0:Nat→List Int→List (List Int)→List Int→List (List Int)→List Int→List (List Int)→Int→Option (List Int)
 | 0,_,_,_,_,_,_,_=>none
 | k+1,x5,x6,x7,x8,x9,x10,x11=>if x11<(x7.length:Int) then(if 0≤x11 then(if x11<(x8.length:Int) then(if 0<(x6.length:Int) then((spec_l1Compare.f k (rd_L1 x8 x11) (rd_L1 x6 0)).bind fun t209=>(if t209≥0 then(if x9.length<17592186044416 then(if x10.length<5864062014805 then(spec_l2Add.l0 k x5 x6 x7 x8 (x9++[rd x7 x11]) (x10++[rd_L1 x8 x11]) (wrap64 (x11+1))) else(none)) else(none)) else(spec_l2Add.j1 k x5 x6 x9 x10))) else(none)) else(none)) else(none)) else(spec_l2Add.j1 k x5 x6 x9 x10)
end
def spec_l2Add.f (k:Nat)(l0:List Int)(l1:List Int):Option (List Int):=(spec_l1Terms.f k l1).bind fun bt183=>(if(bt183.1.length:Int)=0 then((some (([]:List Int):List Int)).bind fun y189=>(if y189.length+l0.length<17592186044416 then(some (y189++l0)) else(none))) else((spec_l1Terms.f k l0).bind fun bt195=>(spec_l2Add.l0 k bt183.1 bt183.2 bt195.1 bt195.2 (([]:List Int)) (([]:List (List Int))) 0)))
theorem spec_l2Add.mono_l:∀ k,(∀ y0 y1 y2 y3,LeO (spec_l2Add.j1 k y0 y1 y2 y3) (spec_l2Add.j1 (k+1) y0 y1 y2 y3))∧(∀ y0 y1 y2 y3 y4 y5 y6,LeO (spec_l2Add.l0 k y0 y1 y2 y3 y4 y5 y6) (spec_l2Add.l0 (k+1) y0 y1 y2 y3 y4 y5 y6))
 | 0=>⟨fun _ _ _ _ r h=>by simp[spec_l2Add.j1] at h,fun _ _ _ _ _ _ _ r h=>by simp[spec_l2Add.l0] at h⟩
 | k+1=>by
  obtain⟨ih0,ih1⟩:=spec_l2Add.mono_l k
  refine⟨?_,?_⟩
  ·intro y0 y1 y2 y3
   unfold spec_l2Add.j1
   repeat' first|(with_reducible first|exact ih0 _ _ _ _|exact spec_l1Compare.mono _ _ _|exact spec_l1Make.mono _ _ _|exact LeO.refl _|exact LeO.none _|refine LeO.ite ?_ ?_|refine LeO.bind ?_ (fun _=>?_))|exact ih0 _ _ _ _|exact spec_l1Compare.mono _ _ _|exact spec_l1Make.mono _ _ _|exact LeO.none _|refine LeO.ite ?_ ?_|refine LeO.bind ?_ (fun _=>?_)
  ·intro y0 y1 y2 y3 y4 y5 y6
   unfold spec_l2Add.l0
   repeat' first|(with_reducible first|exact ih0 _ _ _ _|exact ih1 _ _ _ _ _ _ _|exact spec_l1Compare.mono _ _ _|exact LeO.refl _|exact LeO.none _|refine LeO.ite ?_ ?_|refine LeO.bind ?_ (fun _=>?_))|exact ih0 _ _ _ _|exact ih1 _ _ _ _ _ _ _|exact spec_l1Compare.mono _ _ _|exact LeO.none _|refine LeO.ite ?_ ?_|refine LeO.bind ?_ (fun _=>?_)
theorem spec_l2Add.mono:∀ a0 a1 k,LeO (spec_l2Add.f k a0 a1) (spec_l2Add.f (k+1) a0 a1):=by
 intro a0 a1 k
 obtain⟨ih0,ih1⟩:=spec_l2Add.mono_l k
 unfold spec_l2Add.f
 repeat' first|(with_reducible first|exact ih0 _ _ _ _|exact ih1 _ _ _ _ _ _ _|exact spec_l1Terms.mono _ _|exact LeO.refl _|exact LeO.none _|refine LeO.ite ?_ ?_|refine LeO.bind ?_ (fun _=>?_))|exact ih0 _ _ _ _|exact ih1 _ _ _ _ _ _ _|exact spec_l1Terms.mono _ _|exact LeO.none _|refine LeO.ite ?_ ?_|refine LeO.bind ?_ (fun _=>?_)
def spec_l2Add.T8:Bool × List (List Nat × List Nat):=(true,[([],[]),([],[]),([1],[1]),([0,2],[0,2]),([3],[3]),([4],[4]),([4],[4]),([5,6,4],[4,5,6]),([7,4],[4,7]),([4],[4]),([9,4],[4,9]),([10,4],[4,10]),([8,11,4,4],[4,8,11]),([12,4],[4,12]),([4,13],[4,13])])
def spec_l2Add.B8:List Nat:=[0,0,2,7,15,31,31,127,255,31,543,1567,4095,8191,16383]
theorem spec_l2Add.tab8:rtab .any (opsOf Try.f44 8)=spec_l2Add.T8:=by kernel_rfl
theorem spec_l2Add.bits8:waitsOk spec_l2Add.T8.2 spec_l2Add.B8=true:=by kernel_rfl
def spec_l2Add.T14:Bool × List (List Nat × List Nat):=(true,[([],[]),([0],[0]),([1],[1]),([2],[2]),([2],[2]),([3,4,2],[2,3,4]),([5,2],[2,5]),([2],[2]),([7,2],[2,7]),([8,2],[2,8]),([6,9,2,2],[2,6,9]),([10,2],[2,10]),([2,11],[2,11])])
def spec_l2Add.B14:List Nat:=[0,1,3,7,7,31,63,7,135,391,1023,2047,4095]
theorem spec_l2Add.tab14:rtab .any (opsOf Try.f44 14)=spec_l2Add.T14:=by kernel_rfl
theorem spec_l2Add.bits14:waitsOk spec_l2Add.T14.2 spec_l2Add.B14=true:=by kernel_rfl
def spec_l2Add.T15:Bool × List (List Nat × List Nat):=(true,[([],[]),([],[]),([],[]),([],[]),([2,3],[2,3]),([4],[4]),([],[]),([6],[6]),([7],[7]),([5,8],[5,8]),([0,1,0,1,2,3,4,5,6,7,8,9],[0,1]),([10,9,0,1,2,3,4,5,6,7,8,9],[9,10])])
def spec_l2Add.B15:List Nat:=[0,0,0,0,12,28,0,64,192,508,1023,2047]
theorem spec_l2Add.tab15:rtab .any (opsOf Try.f44 15)=spec_l2Add.T15:=by kernel_rfl
theorem spec_l2Add.bits15:waitsOk spec_l2Add.T15.2 spec_l2Add.B15=true:=by kernel_rfl
def spec_l2Add.T17:Bool × List (List Nat × List Nat):=(true,[([],[]),([],[]),([],[]),([1,2],[1,2]),([0,3],[0,3]),([],[]),([],[]),([],[]),([6,7],[6,7]),([5,8,4],[5,8]),([4,9,9],[4,9]),([10,10,0,1,2,3,4,5,6,7,8,9,10],[10])])
def spec_l2Add.B17:List Nat:=[0,0,0,6,15,0,0,0,192,511,1023,2047]
theorem spec_l2Add.tab17:rtab .any (opsOf Try.f44 17)=spec_l2Add.T17:=by kernel_rfl
theorem spec_l2Add.bits17:waitsOk spec_l2Add.T17.2 spec_l2Add.B17=true:=by kernel_rfl
set_option maxHeartbeats 8000000 in
set_option maxRecDepth 100000 in
theorem spec_l2Add.calls (k:Nat)(A0:Option Addr)(c0:Nat)(l0:List Int)(A1:Option Addr)(c1:Nat)(l1:List Int)(r:List Int)(w:World)(hr0:Kd.C (Kd.int .i64) w A0 l0.length l0)(hc0:l0.length≤c0)(hr1:Kd.C (Kd.int .i64) w A1 l1.length l1)(hc1:l1.length≤c1)(h:spec_l2Add.f k l0 l1=some r) :
  Calls Try.prog 44 #[.slice A0 l0.length c0,.slice A1 l1.length c1] w fun e w'=>∃ v0_:Value,e=.returned (v0_)∧Kd.R (Kd.int .i64) 3 w' w.heap.size (fun _=>True) v0_ r∧Below w.heap.size w w':=by
 have HR0:=Sd.mk hr0
 have HC0:=Sd.mk hc0
 clear hr0 hc0
 have HR1:=Sd.mk hr1
 have HC1:=Sd.mk hc1
 clear hr1 hc1
 have HB:=Sd.mk (Below.refl w.heap.size w)
 have H:((spec_l1Terms.f k l1).bind fun bt183=>(if(bt183.1.length:Int)=0 then((some (([]:List Int):List Int)).bind fun y189=>(if y189.length+l0.length<17592186044416 then(some (y189++l0)) else(none))) else((spec_l1Terms.f k l0).bind fun bt195=>(spec_l2Add.l0 k bt183.1 bt183.2 bt195.1 bt195.2 (([]:List Int)) (([]:List (List Int))) 0))))=some r:=h
 clear h
 replace H:=Option.bind_eq_some_iff.mp H
 obtain⟨⟨t183,t186⟩,A30,H⟩:=H
 replace H:(if(t183.length:Int)=0 then((some (([]:List Int):List Int)).bind fun y189=>(if y189.length+l0.length<17592186044416 then(some (y189++l0)) else(none))) else((spec_l1Terms.f k l0).bind fun bt195=>(spec_l2Add.l0 k t183 t186 bt195.1 bt195.2 (([]:List Int)) (([]:List (List Int))) 0)))=some r:=H
 have A3:=Sd.mk A30
 clear A30
 by_cases c4:(t183.length:Int)=0
 ·rw[if_pos c4] at H
  have c4b0:((t183.length:Int) == 0)=true:=beq_iff_eq.mpr c4
  have c4b1:((t183.length:Int) != 0)=false:=bne_eq_false_iff_eq.mpr c4
  clear c4
  obtain⟨y189,hy189⟩:∃ y_:List Int,y_=(([]:List Int)):=⟨_,rfl⟩
  replace H:(if y189.length+l0.length<17592186044416 then(some (y189++l0)) else(none))=some r:=hz hy189 H
  have Ny189:=Sd.mk hy189
  clear hy189
  by_cases c5:y189.length+l0.length<17592186044416
  ·rw[if_pos c5] at H
   have LMc5:=Sd.mk c5
   clear c5
   obtain⟨y192,hy192⟩:∃ y_:List Int,y_=(y189++l0):=⟨_,rfl⟩
   replace H:(some y192)=some r:=hz hy192 H
   have Ny192:=Sd.mk hy192
   clear hy192
   obtain rfl:=Option.some.inj H
   go_enter Try.func44,Try.ntmps44
   go_wp2_with (first|((with_reducible refine gate_callee (f:=52) rfl ?_);refine goesL_ (some 16) rfl rfl Try.func52 (by kernel_rfl) rfl #[.slice A1 l1.length c1] rfl az ?_;(with_reducible refine(spec_l1Terms.calls k (fun k_=>k_<w.heap.size) _ _ l1 t183 t186 _ ?side1 A3.out).mono ?_);(case side1=>exact Kd.V_mk HC1.out (Kd.F_below (Kd.C_F (Kd.heap_int .i64) HR1.out) bz));rintro e w6 ⟨v184,v187,rfl,ho0,ho1,hb⟩;refine⟨_,rfl,?_⟩;have HO185:=Sd.mk (Kd.R_lower (Kd.R_mono (ok':=fun k_=>True) ho0 (fun _ hk_=>trivial)) (below_size bz));have HO188:=Sd.mk (Kd.N_lower (Kd.N_mono (ok':=fun k_=>some k_≠(v184:Value).ownBlock) ho1 (fun k_ hk_=>hk_.2)) (below_size bz));replace HB:=Sd.mk (below_step bz hb);(try clear hb);(try clear hb2);(try clear hk);(try clear hi);(try clear ho0);(try clear ho1);obtain⟨Ao7,co7,eo7⟩:=Kd.R_slice HO185.out;subst eo7)|((with_reducible refine gate_dst (N:=22) rfl ?_);refine Kd.R_lit (Kd.int .i64) _ 3 ?hg (N:=22) ?hd (xs:=([]:List Int)) (inner:=[]) (ok:=fun _=>True) (okp:=fun _=>True) ?hr ?hp (fun _ hk=>hk) trivial (Below.refl _ _) (Nat.le_refl _) (by simp) ?_;(case hd=>rfl);(case hg=>rfl);(case hr=>first|(go_simp;done)|(go_simp;rfl));(case hp=>exact(Reps.none _ _));intro v190 w8 ho9 hb hg_ hnew_;clear hg_ hnew_;(first|rw[← Ny189.out] at ho9|(simp only[Int.reduceToNat] at ho9;rw[← Ny189.out] at ho9));replace HO188:=Sd.mk (Kd.N_elder' (Kd.Nz HO188.out) (Kd.R_base ho9) hb);have HO191:=Sd.mk (Kd.R_lower (Kd.R_new' ho9 (Kd.R_lt (Kd.Rz HO185.out))) (below_size bz));replace HO185:=Sd.mk (Kd.R_elder' (Kd.Rz HO185.out) (Kd.R_base ho9) hb);replace HB:=Sd.mk (below_step bz hb);clear hb ho9)|((with_reducible refine gate_builtin (b:=.append) (xs:=#[.tmp 22,.tmp 23]) rfl ?_);at_builtin;refine Kd.R_append_rows (Kd.int .i64) (w0:=w) w.heap.size rfl (.tmp 22) (.tmp 23) 22 3 (.int .i64 0) 8 rfl Try.underlying22 info3 rfl (by decide) (by omega) v190 y189 l0 _ _ _ (fun k_=>some k_≠(.slice Ao7 t183.length co7:Value).ownBlock) (fun _=>False) rfl rfl ?aO ?aR (fun _ _ h=>h) (fun _ h=>h.elim) ?aF ?aB ?aS ?aL ?_;(case aR=>repeat (first|exact(Kd.C_below HR0.out HB.out)|(with_reducible refine Kd.C_alloc ?_ _)|(with_reducible refine Kd.C_drewN ?_ _)|(with_reducible refine Kd.C_drew ?_)));(case aB=>exact bz);(case aF=>exact(fun k_ hk=>Kd.fresh' (Kd.R_lt (Kd.Rz HO185.out)) k_ hk));(case aO=>exact(Kd.Rz <| Kd.R_mono HO191.out (fun _ hk=>hk.2)));(case aS=>exact(below_size bz));(case aL=>have:=LMc5.out;omega);intro v193 w10 ho hb hg hat;rw[← Ny192.out] at ho;replace HO185:=Sd.mk (Kd.R_after (ok:=(fun _=>True)) (Kd.Rz HO185.out) hg hat);replace HO188:=Sd.mk (Kd.N_afterv (ok:=(fun k_=>some k_≠(.slice Ao7 t183.length co7:Value).ownBlock)) (Kd.Nz HO188.out) hg hat);replace HB:=Sd.mk (hb);have HO194:=Sd.mk (ho);clear HO191;clear ho hb hg hat))
   go_ret
   exact⟨_,by first|rfl|(simp[errW_none,errW_some]<;>rfl)|(simp[*,errW_none,errW_some]<;>rfl),Kd.Rz <| Kd.R_mono HO194.out (fun _ hk=>trivial),bz⟩
  ·rw[if_neg c5] at H
   exact absurd H (by simp)
 ·rw[if_neg c4] at H
  have c4b0:((t183.length:Int) == 0)=false:=beq_eq_false_iff_ne.mpr c4
  have c4b1:((t183.length:Int) != 0)=true:=bne_iff_ne.mpr c4
  have c4b2:¬ (t183=[]):=fun h_=>c4 (by rw[h_];rfl)
  replace H:=Option.bind_eq_some_iff.mp H
  obtain⟨⟨t195,t198⟩,A110,H⟩:=H
  replace H:(spec_l2Add.l0 k t183 t186 t195 t198 (([]:List Int)) (([]:List (List Int))) 0)=some r:=H
  have A11:=Sd.mk A110
  clear A110
  obtain⟨y201,hy201⟩:∃ y_:List Int,y_=(([]:List Int)):=⟨_,rfl⟩
  replace H:(spec_l2Add.l0 k t183 t186 t195 t198 y201 (([]:List (List Int))) 0)=some r:=hz hy201 H
  have Ny201:=Sd.mk hy201
  clear hy201
  obtain⟨y204,hy204⟩:∃ y_:List (List Int),y_=(([]:List (List Int))):=⟨_,rfl⟩
  replace H:(spec_l2Add.l0 k t183 t186 t195 t198 y201 y204 0)=some r:=hz hy204 H
  have Ny204:=Sd.mk hy204
  clear hy204
  have HC12:=Sd.mk H
  clear H
  go_enter Try.func44,Try.ntmps44
  go_upto_block 0 with (first|((with_reducible refine gate_callee (f:=52) rfl ?_);refine goesL_ (some 16) rfl rfl Try.func52 (by kernel_rfl) rfl #[.slice A1 l1.length c1] rfl az ?_;(with_reducible refine(spec_l1Terms.calls k (fun k_=>k_<w.heap.size) _ _ l1 t183 t186 _ ?side1 A3.out).mono ?_);(case side1=>exact Kd.V_mk HC1.out (Kd.F_below (Kd.C_F (Kd.heap_int .i64) HR1.out) bz));rintro e w13 ⟨v184,v187,rfl,ho0,ho1,hb⟩;refine⟨_,rfl,?_⟩;have HO185:=Sd.mk (Kd.R_lower (Kd.R_mono (ok':=fun k_=>True) ho0 (fun _ hk_=>trivial)) (below_size bz));have HO188:=Sd.mk (Kd.N_lower (Kd.N_mono (ok':=fun k_=>some k_≠(v184:Value).ownBlock) ho1 (fun k_ hk_=>hk_.2)) (below_size bz));replace HB:=Sd.mk (below_step bz hb);(try clear hb);(try clear hb2);(try clear hk);(try clear hi);(try clear ho0);(try clear ho1);obtain⟨Ao14,co14,eo14⟩:=Kd.R_slice HO185.out;subst eo14)|((with_reducible refine gate_callee (f:=52) rfl ?_);refine goesL_ (some 27) rfl rfl Try.func52 (by kernel_rfl) rfl #[.slice A0 l0.length c0] rfl az ?_;(with_reducible refine(spec_l1Terms.calls k (fun k_=>k_<w.heap.size) _ _ l0 t195 t198 _ ?side1 A11.out).mono ?_);(case side1=>exact Kd.V_mk HC0.out (Kd.F_below (Kd.C_F (Kd.heap_int .i64) HR0.out) bz));rintro e w15 ⟨v196,v199,rfl,ho0,ho1,hb⟩;refine⟨_,rfl,?_⟩;have HO197:=Sd.mk (Kd.R_lower (Kd.R_new' (Kd.R_mono (ok':=fun k_=>True) ho0 (fun _ hk_=>trivial)) (Kd.R_lt (Kd.Rz HO185.out))) (below_size bz));have HO200:=Sd.mk (Kd.N_lower (Kd.N_mono (ok':=fun k_=>some k_≠(v196:Value).ownBlock∧some k_≠(.slice Ao14 t183.length co14:Value).ownBlock∧some k_≠(v187:Value).ownBlock) ho1 (fun k_ hk_=>⟨hk_.2,Or.elim hk_.1 (fun hs_=>fun e_=>Nat.not_le.2 hs_ (Kd.R_base HO185.out k_ e_.symm)) (fun hn_=>(Kd.fresh' (Kd.R_lt (Kd.Rz HO185.out)) k_ hn_)),Or.elim hk_.1 (fun hs_=>fun e_=>Nat.not_le.2 hs_ (Kd.N_base HO188.out k_ e_.symm)) (fun hn_=>(Kd.fresh' (Kd.N_lt (Kd.Nz HO188.out)) k_ hn_))⟩)) (below_size bz));replace HO185:=Sd.mk (Kd.R_elder' (Kd.Rz HO185.out) (Kd.R_base ho0) hb);replace HO188:=Sd.mk (Kd.N_mono (Kd.N_told (Kd.N_told (Kd.N_old (Kd.Nz HO188.out) hb) (Kd.R_base ho0)) (Kd.N_base ho1)) (fun _ h_=>h_.1));replace HB:=Sd.mk (below_step bz hb);(try clear hb);(try clear hb2);(try clear hk);(try clear hi);(try clear ho0);(try clear ho1))|((with_reducible refine gate_dst (N:=30) rfl ?_);refine Kd.R_lit (Kd.int .i64) _ 3 ?hg (N:=30) ?hd (xs:=([]:List Int)) (inner:=[]) (ok:=fun _=>True) (okp:=fun _=>True) ?hr ?hp (fun _ hk=>hk) trivial (Below.refl _ _) (Nat.le_refl _) (by simp) ?_;(case hd=>rfl);(case hg=>rfl);(case hr=>first|(go_simp;done)|(go_simp;rfl));(case hp=>exact(Reps.none _ _));intro v202 w16 ho17 hb hg_ hnew_;clear hg_ hnew_;(first|rw[← Ny201.out] at ho17|(simp only[Int.reduceToNat] at ho17;rw[← Ny201.out] at ho17));replace HO188:=Sd.mk (Kd.N_elder' (Kd.Nz HO188.out) (Kd.R_base ho17) hb);replace HO200:=Sd.mk (Kd.N_elder' (Kd.Nz HO200.out) (Kd.R_base ho17) hb);have HO203:=Sd.mk (Kd.R_lower (Kd.R_new' (Kd.R_new' ho17 (Kd.R_lt (Kd.Rz HO185.out))) (Kd.R_lt (Kd.Rz HO197.out))) (below_size bz));replace HO185:=Sd.mk (Kd.R_elder' (Kd.Rz HO185.out) (Kd.R_base ho17) hb);replace HO197:=Sd.mk (Kd.R_elder' (Kd.Rz HO197.out) (Kd.R_base ho17) hb);replace HB:=Sd.mk (below_step bz hb);clear hb ho17)|((with_reducible refine gate_dst (N:=31) rfl ?_);refine Kd.N_lit (Kd.slice 3 (Kd.int .i64)) _ 22 ?hg (N':=31) ?hd (xs:=([]:List (List Int))) (inner:=[]) (ok:=(fun k_=>some k_≠(.slice Ao14 t183.length co14:Value).ownBlock∧some k_≠(v187:Value).ownBlock∧some k_≠(v196:Value).ownBlock∧some k_≠(v199:Value).ownBlock∧some k_≠(v202:Value).ownBlock)) (okp:=(fun k_=>some k_≠(.slice Ao14 t183.length co14:Value).ownBlock∧some k_≠(v187:Value).ownBlock∧some k_≠(v196:Value).ownBlock∧some k_≠(v199:Value).ownBlock∧some k_≠(v202:Value).ownBlock)) ?hr ?hp (fun _ hk=>hk) ((show ∀ k_,w16.heap.size≤k_→(fun k_=>some k_≠(.slice Ao14 t183.length co14:Value).ownBlock∧some k_≠(v187:Value).ownBlock∧some k_≠(v196:Value).ownBlock∧some k_≠(v199:Value).ownBlock∧some k_≠(v202:Value).ownBlock) k_ from fun k_ hk=>⟨Kd.fresh' (Kd.R_lt (Kd.Rz HO185.out)) k_ hk,Kd.fresh' (Kd.N_lt (Kd.Nz HO188.out)) k_ hk,Kd.fresh' (Kd.R_lt (Kd.Rz HO197.out)) k_ hk,Kd.fresh' (Kd.N_lt (Kd.Nz HO200.out)) k_ hk,Kd.fresh' (Kd.R_lt (Kd.Rz HO203.out)) k_ hk⟩) _ (Nat.le_refl _)) (Below.refl _ _) (Nat.le_refl _) (by simp) ?_;(case hd=>rfl);(case hg=>rfl);(case hr=>first|(go_simp;done)|(go_simp;rfl));(case hp=>exact(Reps.none _ _));intro v205 w18 ho19 hb hg_ hnew_;clear hg_ hnew_;(first|rw[← Ny204.out] at ho19|(simp only[Int.reduceToNat] at ho19;rw[← Ny204.out] at ho19));replace HO185:=Sd.mk (Kd.R_below (Kd.Rz HO185.out) hb);replace HO188:=Sd.mk (Kd.N_elder' (Kd.Nz HO188.out) (Kd.N_base ho19) hb);replace HO197:=Sd.mk (Kd.R_below (Kd.Rz HO197.out) hb);replace HO200:=Sd.mk (Kd.N_elder' (Kd.Nz HO200.out) (Kd.N_base ho19) hb);replace HO203:=Sd.mk (Kd.R_below (Kd.Rz HO203.out) hb);have HO206:=Sd.mk (Kd.N_lower ho19 (below_size bz));replace HB:=Sd.mk (below_step bz hb);clear hb ho19))
  (try simp only[Act.put,List.setIfInBounds_toArray,List.set_cons_zero,List.set_cons_succ])
  go_cut [9,10] (fun v9 v10 wc=>∃ (kq:Nat) (x9_11:List Int) (x10_11:List (List Int)),Sd (spec_l2Add.j1 kq t183 t186 x9_11 x10_11=some r)∧Sd (kq≤k)∧Sd (Kd.R (Kd.int .i64) 3 wc w.heap.size (fun k_=>some k_≠(v9:Value).ownBlock) (.slice Ao14 t183.length co14) t183)∧Sd (Kd.N (Kd.slice 3 (Kd.int .i64)) 22 wc w.heap.size (fun k_=>some k_≠((.slice Ao14 t183.length co14):Value).ownBlock∧some k_≠(v9:Value).ownBlock∧some k_≠(v10:Value).ownBlock) v187 t186)∧Sd (Kd.R (Kd.int .i64) 3 wc w.heap.size (fun k_=>some k_≠((.slice Ao14 t183.length co14):Value).ownBlock) v9 x9_11)∧Sd (Kd.N (Kd.slice 3 (Kd.int .i64)) 22 wc w.heap.size (fun k_=>some k_≠((.slice Ao14 t183.length co14):Value).ownBlock∧some k_≠(v187:Value).ownBlock∧some k_≠(v9:Value).ownBlock) v10 x10_11)∧Sd (Below w.heap.size w wc))
  case first =>
   have H:=HC12.out
   clear HC12
   have H':=Sd.mk H
   clear H
   go_wp2
   go_loopg [9,10,11] k (fun kq v9 v10 v11 w'=>∃ (x9_1:List Int) (x10_1:List (List Int)) (x11_1:Int),v11=.int .i64 x11_1∧Sd (spec_l2Add.l0 kq t183 t186 t195 t198 x9_1 x10_1 x11_1=some r)∧Sd (kq≤k)∧Sd (Kd.R (Kd.int .i64) 3 w' w.heap.size (fun k_=>some k_≠(v196:Value).ownBlock∧some k_≠(v9:Value).ownBlock) (.slice Ao14 t183.length co14) t183)∧Sd (Kd.N (Kd.slice 3 (Kd.int .i64)) 22 w' w.heap.size (fun k_=>some k_≠((.slice Ao14 t183.length co14):Value).ownBlock∧some k_≠(v196:Value).ownBlock∧some k_≠(v199:Value).ownBlock∧some k_≠(v9:Value).ownBlock∧some k_≠(v10:Value).ownBlock) v187 t186)∧Sd (Kd.R (Kd.int .i64) 3 w' w.heap.size (fun k_=>some k_≠((.slice Ao14 t183.length co14):Value).ownBlock∧some k_≠(v9:Value).ownBlock) v196 t195)∧Sd (Kd.N (Kd.slice 3 (Kd.int .i64)) 22 w' w.heap.size (fun k_=>some k_≠((.slice Ao14 t183.length co14):Value).ownBlock∧some k_≠(v187:Value).ownBlock∧some k_≠(v196:Value).ownBlock∧some k_≠(v9:Value).ownBlock∧some k_≠(v10:Value).ownBlock) v199 t198)∧Sd (Kd.R (Kd.int .i64) 3 w' w.heap.size (fun k_=>some k_≠((.slice Ao14 t183.length co14):Value).ownBlock∧some k_≠(v196:Value).ownBlock) v9 x9_1)∧Sd (Kd.N (Kd.slice 3 (Kd.int .i64)) 22 w' w.heap.size (fun k_=>some k_≠((.slice Ao14 t183.length co14):Value).ownBlock∧some k_≠(v187:Value).ownBlock∧some k_≠(v196:Value).ownBlock∧some k_≠(v199:Value).ownBlock∧some k_≠(v9:Value).ownBlock) v10 x10_1)∧Sd (Below w.heap.size w w'))
   case atStart=>exact⟨(y201),(y204),(0),(by first|rfl|(simp;done)|(simp[*];done)),H',⟨Nat.le_refl _⟩,⟨Kd.Rz <| Kd.R_mono HO185.out (fun _ hk=>⟨hk.1.2,hk.2⟩)⟩,⟨Kd.Nz <| Kd.N_mono HO188.out (fun _ hk=>⟨hk.1.1.1.1,⟨hk.1.1.1.2,⟨hk.1.1.2,⟨hk.1.2,hk.2⟩⟩⟩⟩)⟩,⟨Kd.Rz <| Kd.R_mono HO197.out (fun _ hk=>⟨hk.1.2,hk.2⟩)⟩,⟨Kd.Nz <| Kd.N_mono HO200.out (fun _ hk=>⟨hk.1.1.2.1,⟨hk.1.1.2.2,⟨hk.1.1.1,⟨hk.1.2,hk.2⟩⟩⟩⟩)⟩,⟨Kd.Rz <| Kd.R_mono HO203.out (fun _ hk=>⟨hk.1.2,hk.2⟩)⟩,⟨by(with_reducible repeat (first|apply Kd.N_alloc|apply Kd.N_drewN|apply Kd.N_drew));exact HO206.out⟩,⟨bz⟩⟩
   case round =>
    clear H'
    try clear c1
    try clear p2
    try clear c4
    try clear c4b0
    try clear c4b1
    try clear c4b2
    try clear c5
    obtain⟨x9_1,x10_1,x11_1,rfl,HA,HK1,HO_5,HO_6,HO_7,HO_8,HO_9,HO_10,HB⟩:=hrel
    cases gk with
    | zero=>exact absurd HA.out (by simp[spec_l2Add.l0])
    | succ k1 =>
     have H:=HA.out
     clear HA
     simp only[spec_l2Add.l0] at H
     by_cases c20:x11_1<(t195.length:Int)
     ·rw[if_pos c20] at H
      have c20b0:decide (x11_1<(t195.length:Int))=true:=decide_eq_true c20
      clear c20
      (first|rw[c20b0]|(simp only[i64_w,i32_w];rw[c20b0])|skip)
      by_cases c21:0≤x11_1
      ·rw[if_pos c21] at H
       have c21b0:decide (0≤x11_1)=true:=decide_eq_true c21
       clear c21
       by_cases c22:x11_1<(t198.length:Int)
       ·rw[if_pos c22] at H
        have c22b0:decide (x11_1<(t198.length:Int))=true:=decide_eq_true c22
        clear c22
        by_cases c23:0<(t186.length:Int)
        ·rw[if_pos c23] at H
         have c23b0:decide (0<(t186.length:Int))=true:=decide_eq_true c23
         have c23b1:decide (0<t186.length)=true:=decide_eq_true (by omega)
         clear c23
         replace H:=Option.bind_eq_some_iff.mp H
         obtain⟨t209,A240,H⟩:=H
         replace H:(if t209≥0 then(if x9_1.length<17592186044416 then(if x10_1.length<5864062014805 then(spec_l2Add.l0 k1 t183 t186 t195 t198 (x9_1++[rd t195 x11_1]) (x10_1++[rd_L1 t198 x11_1]) (wrap64 (x11_1+1))) else(none)) else(none)) else(spec_l2Add.j1 k1 t183 t186 x9_1 x10_1))=some r:=H
         have A24:=Sd.mk A240
         clear A240
         by_cases c25:t209≥0
         ·rw[if_pos c25] at H
          have c25b0:decide (0≤t209)=true:=decide_eq_true c25
          clear c25
          by_cases c26:x9_1.length<17592186044416
          ·rw[if_pos c26] at H
           have LMc26:=Sd.mk c26
           clear c26
           obtain⟨y211,hy211⟩:∃ y_:List Int,y_=(x9_1++[rd t195 x11_1]):=⟨_,rfl⟩
           replace H:(if x10_1.length<5864062014805 then(spec_l2Add.l0 k1 t183 t186 t195 t198 y211 (x10_1++[rd_L1 t198 x11_1]) (wrap64 (x11_1+1))) else(none))=some r:=hz hy211 H
           have Ny211:=Sd.mk hy211
           clear hy211
           by_cases c27:x10_1.length<5864062014805
           ·rw[if_pos c27] at H
            have LMc27:=Sd.mk c27
            clear c27
            obtain⟨y215,hy215⟩:∃ y_:List (List Int),y_=(x10_1++[rd_L1 t198 x11_1]):=⟨_,rfl⟩
            replace H:(spec_l2Add.l0 k1 t183 t186 t195 t198 y211 y215 (wrap64 (x11_1+1)))=some r:=hz hy215 H
            have Ny215:=Sd.mk hy215
            clear hy215
            have H':=Sd.mk H
            clear H
            try go_wp2
            have n0_:=Sd.mk (Kd.R_drew HO_5.out)
            have n1_:=Sd.mk (Kd.N_drew HO_6.out)
            have n2_:=Sd.mk (Kd.R_drew HO_7.out)
            have n3_:=Sd.mk (Kd.N_drew HO_8.out)
            have n4_:=Sd.mk (Kd.R_drew HO_9.out)
            have n5_:=Sd.mk (Kd.N_drew HO_10.out)
            have n6_:=Sd.mk (below_drew1 HB.out)
            clear HO_5
            clear HO_6
            clear HO_7
            clear HO_8
            clear HO_9
            clear HO_10
            clear HB
            have HO_5:=n0_
            have HO_6:=n1_
            have HO_7:=n2_
            have HO_8:=n3_
            have HO_9:=n4_
            have HO_10:=n5_
            have HB:=n6_
            clear n0_ n1_ n2_ n3_ n4_ n5_ n6_
            obtain⟨Ao29,co29,eo29⟩:=Kd.R_slice HO_7.out
            (first|subst eo29|(injection eo29 with f1_ f2_ f3_;have f4_:=f1_.symm;have f5_:=f3_.symm;clear f1_ f2_ f3_;subst f4_;subst f5_))
            obtain⟨Ao30,co30,eo30⟩:=Kd.N_slice HO_8.out
            (first|subst eo30|(injection eo30 with f1_ f2_ f3_;have f4_:=f1_.symm;have f5_:=f3_.symm;clear f1_ f2_ f3_;subst f4_;subst f5_))
            have p207:0≤(x11_1:Int):=dz
            have q207:x11_1<(t198.length:Int):=dz
            obtain⟨ad207,A207_0,c207_0,e207,hx207_0,hl207_0,hi207_0⟩:=at_L1 (Kd.N_reads' HO_8.out).2.2 x11_1 p207 q207
            cases e207
            obtain⟨ce207,hce207,hMe207,hcc207⟩:=Kd.N_get HO_8.out [] x11_1 p207 (by first|exact q207|exact dz|(have e_:=(Kd.N_reads' HO_8.out).1;omega))
            obtain⟨ua207_0,uc207_0,rfl,ul207_0,ge207_0⟩:=Kd.FK_slice_open hMe207
            have hv207_0:=hcc207 0 _ rfl
            rw[Nat.add_zero,show ((Kd.slice 3 (Kd.int .i64))).sz=1 from rfl,Nat.mul_one] at hv207_0
            replace hv207_0:=Option.some.inj (hv207_0.symm.trans hx207_0)
            injection hv207_0 with hva_ hvn_ hvc_
            rw[hva_] at ge207_0
            rw[hvc_] at ul207_0
            have HL207_0:=Sd.mk (show Kd.V (Kd.int .i64) 3 _ w.heap.size _ _ (rd_L1 t198 x11_1) from Kd.V_mk ul207_0 ge207_0)
            clear hva_ hvn_ hvc_ ge207_0 ul207_0
            clear hcc207 hce207
            have HR207_0:=Sd.mk hi207_0
            have HC207_0:=Sd.mk hl207_0
            clear hi207_0 hl207_0
            replace p207:=eq_true p207
            replace q207:=eq_true q207
            obtain⟨Ao31,co31,eo31⟩:=Kd.N_slice HO_6.out
            (first|subst eo31|(injection eo31 with f1_ f2_ f3_;have f4_:=f1_.symm;have f5_:=f3_.symm;clear f1_ f2_ f3_;subst f4_;subst f5_))
            have p208:0≤(0:Int):=(by omega)
            have q208:0<(t186.length:Int):=dz
            obtain⟨ad208,A208_0,c208_0,e208,hx208_0,hl208_0,hi208_0⟩:=at_L1 (Kd.N_reads' HO_6.out).2.2 0 p208 q208
            cases e208
            obtain⟨ce208,hce208,hMe208,hcc208⟩:=Kd.N_get HO_6.out [] 0 p208 (by first|exact q208|exact dz|(have e_:=(Kd.N_reads' HO_6.out).1;omega))
            obtain⟨ua208_0,uc208_0,rfl,ul208_0,ge208_0⟩:=Kd.FK_slice_open hMe208
            have hv208_0:=hcc208 0 _ rfl
            rw[Nat.add_zero,show ((Kd.slice 3 (Kd.int .i64))).sz=1 from rfl,Nat.mul_one] at hv208_0
            replace hv208_0:=Option.some.inj (hv208_0.symm.trans hx208_0)
            injection hv208_0 with hva_ hvn_ hvc_
            rw[hva_] at ge208_0
            rw[hvc_] at ul208_0
            have HL208_0:=Sd.mk (show Kd.V (Kd.int .i64) 3 _ w.heap.size _ _ (rd_L1 t186 0) from Kd.V_mk ul208_0 ge208_0)
            clear hva_ hvn_ hvc_ ge208_0 ul208_0
            clear hcc208 hce208
            have qi208:(0<t186.length)=True:=eq_true (by omega)
            (try rw[show ((0:Int)).toNat=0 from rfl] at hx208_0)
            (try rw[Addr.add_zero'] at hx208_0)
            have HR208_0:=Sd.mk hi208_0
            have HC208_0:=Sd.mk hl208_0
            clear hi208_0 hl208_0
            replace p208:=eq_true p208
            replace q208:=eq_true q208
            refine start_ (n:=15) (S:=fun w'=>w'.cell? (ad207.add (x11_1).toNat)=some (.slice A207_0 (rd_L1 t198 x11_1).length c207_0)∧w'.cell? ad208=some (.slice A208_0 (rd_L1 t186 0).length c208_0)) (ds:=[]) #[F,F,F,F,F,F,F,F,F,F,F,F,F,F,F] (by kernel_rfl) rfl rfl ⟨hx207_0,hx208_0⟩ (fun hHeld=>?_);refine with_tabW spec_l2Add.tab8 spec_l2Add.bits8 (fun HT_ HW_=>?_)
            generalize wr.drew=w28 at HO_5 HO_6 HO_7 HO_8 HO_9 HO_10 HB HL207_0 HL208_0 HR207_0 HR208_0 hx207_0 hx208_0 hHeld ⊢
            refine pq 0 (some 32) HT_.out rfl rfl ?_
            refine pq 1 (some 33) HT_.out rfl rfl ?_
            refine pq 2 (some 34) HT_.out rfl rfl ?_
            refine pq 3 (some 35) HT_.out rfl rfl ?_
            refine pq 4 (some 36) HT_.out rfl rfl ?_
            refine pq 5 (some 37) HT_.out rfl rfl ?_
            refine pq 6 (some 38) HT_.out rfl rfl ?_
            refine pq 7 (some 39) HT_.out rfl rfl ?_
            refine pq 9 (some 41) HT_.out rfl rfl ?_
            refine pq 10 (some 42) HT_.out rfl rfl ?_
            refine take_ (i:=8) (N:=some 40) (v:=?_) (a':=?_) #[T,T,T,T,T,T,T,T,T,T,T,F,F,F,F] rfl rfl (take_ofW HT_.out HW_.out (by kernel_rfl)) (fun _ _ _ h=>h) (Or.inl ⟨by rfl,?_⟩) hHeld ?_ ?_
            rotate_left;(· rintro w' ⟨s0,s1⟩;go_simp;with_reducible rfl);rotate_left;(· simp only[Act.put,s1,s2,s3,i64_w,i32_w];rfl)
            refine take_ (i:=11) (N:=some 43) (v:=?_) (a':=?_) #[T,T,T,T,T,T,T,T,T,T,T,T,F,F,F] rfl rfl (take_ofW HT_.out HW_.out (by kernel_rfl)) (fun _ _ _ h=>h) (Or.inl ⟨by rfl,?_⟩) hHeld ?_ ?_
            rotate_left;(· rintro w' ⟨s0,s1⟩;go_simp;with_reducible rfl);rotate_left;(· simp only[Act.put,s1,s2,s3,i64_w,i32_w];rfl)
            refine one_ (i:=12) (N:=some 44) #[T,T,T,T,T,T,T,T,T,T,T,T,T,F,F] rfl rfl (one_of HT_.out (by kernel_rfl)) (by decide) (fun K hK=>?_)
            refine goes_ Try.func53 (by kernel_rfl) rfl #[.slice A207_0 (rd_L1 t198 x11_1).length c207_0,.slice A208_0 (rd_L1 t186 0).length c208_0] (by rfl) rfl rfl az ?_
            with_reducible refine(spec_l1Compare.calls k1 _ _ (rd_L1 t198 x11_1) _ _ (rd_L1 t186 0) t209 _ ?side1 ?side2 ?side3 ?side4 A24.out).mono ?_
            (case side1=>exact(Kd.Cz HR207_0.out))
            (case side2=>exact HC207_0.out)
            (case side3=>exact(Kd.Cz HR208_0.out))
            (case side4=>exact HC208_0.out)
            rintro e w32 ⟨rfl,hb⟩
            have HS0_:=(hb.cell (World.block_lt_of_cell? _ _ (hHeld.1))).trans (hHeld.1)
            have HS1_:=(hb.cell (World.block_lt_of_cell? _ _ (hHeld.2))).trans (hHeld.2)
            refine⟨_,rfl,?_⟩
            have n0_:=Sd.mk (Kd.R_below (Kd.Rz HO_5.out) hb)
            have n1_:=Sd.mk (Kd.N_below (Kd.Nz HO_6.out) hb)
            have n2_:=Sd.mk (Kd.R_below (Kd.Rz HO_7.out) hb)
            have n3_:=Sd.mk (Kd.N_below (Kd.Nz HO_8.out) hb)
            have n4_:=Sd.mk (Kd.R_below (Kd.Rz HO_9.out) hb)
            have n5_:=Sd.mk (Kd.N_below (Kd.Nz HO_10.out) hb)
            have n6_:=Sd.mk (Kd.V_below (Kd.Vz HL207_0.out) hb)
            have n7_:=Sd.mk (Kd.V_below (Kd.Vz HL208_0.out) hb)
            have n8_:=Sd.mk (Kd.C_below (Kd.Cz HR207_0.out) hb)
            have n9_:=Sd.mk (Kd.C_below (Kd.Cz HR208_0.out) hb)
            have n10_:=Sd.mk (below_step bz hb)
            clear HO_5
            clear HO_6
            clear HO_7
            clear HO_8
            clear HO_9
            clear HO_10
            clear HL207_0
            clear HL208_0
            clear HR207_0
            clear HR208_0
            clear HB
            have HO_5:=n0_
            have HO_6:=n1_
            have HO_7:=n2_
            have HO_8:=n3_
            have HO_9:=n4_
            have HO_10:=n5_
            have HL207_0:=n6_
            have HL208_0:=n7_
            have HR207_0:=n8_
            have HR208_0:=n9_
            have HB:=n10_
            clear n0_ n1_ n2_ n3_ n4_ n5_ n6_ n7_ n8_ n9_ n10_
            (try clear hb)
            (try clear hb2)
            (try clear hk)
            (try clear hi)
            refine hK.out _ _ ⟨HS0_,HS1_⟩ (fun hHeld=>?_)
            clear hK K
            refine norm_ (a':=?_) ?_ ?_
            rotate_left
            ·show Act.put _ (some 44) _=_
             simp only[Act.put,s1,s2,s3,i64_w,i32_w]
             rfl
            refine pq 13 (some 45) HT_.out rfl rfl ?_
            refine pq 14 (some 46) HT_.out rfl rfl ?_
            refine done_ (done_of HT_.out (by kernel_rfl)) ?_
            have p210:0≤(x11_1:Int):=dz
            have q210:x11_1<(t195.length:Int):=dz
            obtain⟨ad210,e210,hx210_0⟩:=Kd.at_int (Kd.R_reads' HO_7.out).2.2 x11_1 p210 q210
            cases e210
            replace p210:=eq_true p210
            replace q210:=eq_true q210
            try go_wp2_with (first|((with_reducible refine gate_builtin (b:=.append) (xs:=#[.tmp 49,.tmp 54]) rfl ?_);at_builtin;refine Kd.R_append (Kd.int .i64) (w0:=w) w.heap.size rfl (.tmp 49) (.tmp 54) 22 3 (.int .i64 0) 8 rfl Try.underlying22 info3 rfl (by decide) (by omega) u9 x9_1 (rd t195 x11_1) [.int .i64 (rd t195 x11_1)] (fun k_=>some k_≠(.slice Ao14 t183.length co14:Value).ownBlock∧some k_≠(.slice (some ad210) t195.length co29:Value).ownBlock) (fun _=>False) rfl rfl ?aP (fun _ hk=>hk.elim) ?aF ?aO ?aB ?aS ?aL ?_;(case aP=>exact rfl);(case aB=>exact bz);(case aF=>exact(fun k_ hk=>⟨Kd.fresh' (Kd.R_lt (Kd.Rz HO_5.out)) k_ hk,Kd.fresh' (Kd.R_lt (Kd.Rz HO_7.out)) k_ hk⟩));(case aO=>exact(Kd.Rz HO_9.out));(case aS=>exact(below_size bz));(case aL=>have:=LMc26.out;omega);intro v212 w33 ho hb hg hat;rw[← Ny211.out] at ho;replace HO_5:=Sd.mk (Kd.R_after (ok:=(fun k_=>some k_≠(.slice (some ad210) t195.length co29:Value).ownBlock)) (Kd.Rz HO_5.out) hg hat);replace HO_6:=Sd.mk (Kd.N_afterv (ok:=(fun k_=>some k_≠(.slice Ao14 t183.length co14:Value).ownBlock∧some k_≠(.slice (some ad210) t195.length co29:Value).ownBlock∧some k_≠(.slice (some ad207) t198.length co30:Value).ownBlock∧some k_≠(u10:Value).ownBlock)) (Kd.Nz <| Kd.N_mono HO_6.out (fun _ hk=>⟨⟨hk.1,⟨hk.2.1,⟨hk.2.2.1,hk.2.2.2.2⟩⟩⟩,hk.2.2.2.1⟩)) hg hat);replace HO_7:=Sd.mk (Kd.R_after (ok:=(fun k_=>some k_≠(.slice Ao14 t183.length co14:Value).ownBlock)) (Kd.Rz HO_7.out) hg hat);replace HO_8:=Sd.mk (Kd.N_afterv (ok:=(fun k_=>some k_≠(.slice Ao14 t183.length co14:Value).ownBlock∧some k_≠(.slice (some ad208) t186.length co31:Value).ownBlock∧some k_≠(.slice (some ad210) t195.length co29:Value).ownBlock∧some k_≠(u10:Value).ownBlock)) (Kd.Nz <| Kd.N_mono HO_8.out (fun _ hk=>⟨⟨hk.1,⟨hk.2.1,⟨hk.2.2.1,hk.2.2.2.2⟩⟩⟩,hk.2.2.2.1⟩)) hg hat);replace HO_10:=Sd.mk (Kd.N_afterv (ok:=(fun k_=>some k_≠(.slice Ao14 t183.length co14:Value).ownBlock∧some k_≠(.slice (some ad208) t186.length co31:Value).ownBlock∧some k_≠(.slice (some ad210) t195.length co29:Value).ownBlock∧some k_≠(.slice (some ad207) t198.length co30:Value).ownBlock)) (Kd.Nz <| Kd.N_mono HO_10.out (fun _ hk=>⟨⟨hk.1,⟨hk.2.1,⟨hk.2.2.1,hk.2.2.2.1⟩⟩⟩,hk.2.2.2.2⟩)) hg hat);replace HL207_0:=Sd.mk (Kd.V_afterv (ok:=(fun k_=>some k_≠(.slice Ao14 t183.length co14:Value).ownBlock∧some k_≠(.slice (some ad208) t186.length co31:Value).ownBlock∧some k_≠(.slice (some ad210) t195.length co29:Value).ownBlock∧some k_≠(.slice (some ad207) t198.length co30:Value).ownBlock∧some k_≠(u10:Value).ownBlock)) (Kd.Vz <| Kd.V_mono HL207_0.out (fun _ hk=>⟨⟨hk.1.1,⟨hk.1.2.1,⟨hk.1.2.2.1,⟨hk.2,hk.1.2.2.2.2⟩⟩⟩⟩,hk.1.2.2.2.1⟩)) hg hat);replace HL208_0:=Sd.mk (Kd.V_afterv (ok:=(fun k_=>some k_≠(.slice Ao14 t183.length co14:Value).ownBlock∧some k_≠(.slice (some ad208) t186.length co31:Value).ownBlock∧some k_≠(.slice (some ad210) t195.length co29:Value).ownBlock∧some k_≠(.slice (some ad207) t198.length co30:Value).ownBlock∧some k_≠(u10:Value).ownBlock)) (Kd.Vz <| Kd.V_mono HL208_0.out (fun _ hk=>⟨⟨hk.1.1,⟨hk.2,⟨hk.1.2.1,⟨hk.1.2.2.1,hk.1.2.2.2.2⟩⟩⟩⟩,hk.1.2.2.2.1⟩)) hg hat);replace HB:=Sd.mk (hb);have HO213:=Sd.mk (ho);clear HO_9;clear ho hb hg hat;have p214:0≤(x11_1:Int):=dz;have q214:x11_1<(t198.length:Int):=dz;obtain⟨ad214,A214_0,c214_0,e214,hx214_0,hl214_0,hi214_0⟩:=at_L1 (Kd.N_reads' HO_8.out).2.2 x11_1 p214 q214;obtain rfl:ad207=ad214:=(by injection e214);obtain⟨ce214,hce214,hMe214,hcc214⟩:=Kd.N_get HO_8.out [] x11_1 p214 (by first|exact q214|exact dz|(have e_:=(Kd.N_reads' HO_8.out).1;omega));obtain⟨ua214_0,uc214_0,rfl,ul214_0,ge214_0⟩:=Kd.FK_slice_open hMe214;have hv214_0:=hcc214 0 _ rfl;rw[Nat.add_zero,show ((Kd.slice 3 (Kd.int .i64))).sz=1 from rfl,Nat.mul_one] at hv214_0;replace hv214_0:=Option.some.inj (hv214_0.symm.trans hx214_0);injection hv214_0 with hva_ hvn_ hvc_;rw[hva_] at ge214_0;rw[hvc_] at ul214_0;have HL214_0:=Sd.mk (show Kd.V (Kd.int .i64) 3 _ w.heap.size _ _ (rd_L1 t198 x11_1) from Kd.V_mk ul214_0 ge214_0);clear hva_ hvn_ hvc_ ge214_0 ul214_0;clear hcc214 hce214;have HR214_0:=Sd.mk hi214_0;have HC214_0:=Sd.mk hl214_0;clear hi214_0 hl214_0;replace p214:=eq_true p214;replace q214:=eq_true q214)|((with_reducible refine gate_builtin (b:=.append) (xs:=#[.tmp 56,.tmp 61]) rfl ?_);at_builtin;refine Kd.N_append (Kd.slice 3 (Kd.int .i64)) (w0:=w) w.heap.size rfl (.tmp 56) (.tmp 61) 52 22 (.slice none 0 0) 24 rfl Try.underlying52 info22 rfl (by decide) (by omega) u10 x10_1 (rd_L1 t198 x11_1) [.slice A214_0 (rd_L1 t198 x11_1).length c214_0] (fun k_=>some k_≠(.slice Ao14 t183.length co14:Value).ownBlock∧some k_≠(.slice (some ad208) t186.length co31:Value).ownBlock∧some k_≠(.slice (some ad210) t195.length co29:Value).ownBlock∧some k_≠(.slice (some ad207) t198.length co30:Value).ownBlock∧some k_≠(v212:Value).ownBlock) (fun k_=>((fun k_=>some k_≠(.slice Ao14 t183.length co14:Value).ownBlock∧some k_≠(.slice (some ad208) t186.length co31:Value).ownBlock∧some k_≠(.slice (some ad210) t195.length co29:Value).ownBlock∧some k_≠(.slice (some ad207) t198.length co30:Value).ownBlock∧some k_≠(v212:Value).ownBlock)) k_∧some k_≠(u10:Value).ownBlock) rfl rfl ?aP (fun _ hk=>hk) ?aF ?aO ?aB ?aS ?aL ?_;(case aP=>exact(Kd.FK_slice_mk (Kd.V_reads' (Kd.V_mono (ok':=(fun k_=>((fun k_=>some k_≠(.slice Ao14 t183.length co14:Value).ownBlock∧some k_≠(.slice (some ad208) t186.length co31:Value).ownBlock∧some k_≠(.slice (some ad210) t195.length co29:Value).ownBlock∧some k_≠(.slice (some ad207) t198.length co30:Value).ownBlock∧some k_≠(v212:Value).ownBlock)) k_∧some k_≠(u10:Value).ownBlock)) (HL214_0.out) (fun k_ hk=>⟨⟨hk.1.1.1,⟨hk.1.1.2.1,⟨hk.1.1.2.2.1,⟨hk.2,hk.1.2⟩⟩⟩⟩,hk.1.1.2.2.2⟩))).2.1 (Kd.V_F (Kd.V_mono (ok':=(fun k_=>((fun k_=>some k_≠(.slice Ao14 t183.length co14:Value).ownBlock∧some k_≠(.slice (some ad208) t186.length co31:Value).ownBlock∧some k_≠(.slice (some ad210) t195.length co29:Value).ownBlock∧some k_≠(.slice (some ad207) t198.length co30:Value).ownBlock∧some k_≠(v212:Value).ownBlock)) k_∧some k_≠(u10:Value).ownBlock)) (HL214_0.out) (fun k_ hk=>⟨⟨hk.1.1.1,⟨hk.1.1.2.1,⟨hk.1.1.2.2.1,⟨hk.2,hk.1.2⟩⟩⟩⟩,hk.1.1.2.2.2⟩)))));(case aB=>exact bz);(case aF=>exact(fun k_ hk=>⟨Kd.fresh' (Kd.R_lt (Kd.Rz HO_5.out)) k_ hk,Kd.fresh' (Kd.N_lt (Kd.Nz HO_6.out)) k_ hk,Kd.fresh' (Kd.R_lt (Kd.Rz HO_7.out)) k_ hk,Kd.fresh' (Kd.N_lt (Kd.Nz HO_8.out)) k_ hk,Kd.fresh' (Kd.R_lt (Kd.Rz HO213.out)) k_ hk⟩));(case aO=>exact(Kd.Nz <| Kd.N_mono HO_10.out (fun _ hk=>⟨hk.1.1,⟨hk.1.2.1,⟨hk.1.2.2.1,⟨hk.1.2.2.2,hk.2⟩⟩⟩⟩)));(case aS=>exact(below_size bz));(case aL=>have:=LMc27.out;omega);intro v216 w34 ho hb hg hat;rw[← Ny215.out] at ho;replace HO_5:=Sd.mk (Kd.R_over' (Kd.Rz HO_5.out) (Kd.N_typed (Kd.Nz HO_10.out)) (by decide) hg);replace HO_6:=Sd.mk (Kd.N_afterv (ok:=(fun k_=>some k_≠(.slice Ao14 t183.length co14:Value).ownBlock∧some k_≠(.slice (some ad210) t195.length co29:Value).ownBlock∧some k_≠(.slice (some ad207) t198.length co30:Value).ownBlock∧some k_≠(v212:Value).ownBlock)) (Kd.Nz <| Kd.N_mono HO_6.out (fun _ hk=>⟨⟨hk.1.1,⟨hk.1.2.1,⟨hk.1.2.2.1,hk.2⟩⟩⟩,hk.1.2.2.2⟩)) hg hat);replace HO_7:=Sd.mk (Kd.R_over' (Kd.Rz HO_7.out) (Kd.N_typed (Kd.Nz HO_10.out)) (by decide) hg);replace HO_8:=Sd.mk (Kd.N_afterv (ok:=(fun k_=>some k_≠(.slice Ao14 t183.length co14:Value).ownBlock∧some k_≠(.slice (some ad208) t186.length co31:Value).ownBlock∧some k_≠(.slice (some ad210) t195.length co29:Value).ownBlock∧some k_≠(v212:Value).ownBlock)) (Kd.Nz <| Kd.N_mono HO_8.out (fun _ hk=>⟨⟨hk.1.1,⟨hk.1.2.1,⟨hk.1.2.2.1,hk.2⟩⟩⟩,hk.1.2.2.2⟩)) hg hat);replace HL207_0:=Sd.mk (Kd.V_afterv (ok:=(fun k_=>some k_≠(.slice Ao14 t183.length co14:Value).ownBlock∧some k_≠(.slice (some ad208) t186.length co31:Value).ownBlock∧some k_≠(.slice (some ad210) t195.length co29:Value).ownBlock∧some k_≠(.slice (some ad207) t198.length co30:Value).ownBlock∧some k_≠(v212:Value).ownBlock)) (Kd.Vz <| Kd.V_mono HL207_0.out (fun _ hk=>⟨⟨hk.1.1,⟨hk.1.2.1,⟨hk.1.2.2.1,⟨hk.1.2.2.2.1,hk.2⟩⟩⟩⟩,hk.1.2.2.2.2⟩)) hg hat);replace HL208_0:=Sd.mk (Kd.V_afterv (ok:=(fun k_=>some k_≠(.slice Ao14 t183.length co14:Value).ownBlock∧some k_≠(.slice (some ad208) t186.length co31:Value).ownBlock∧some k_≠(.slice (some ad210) t195.length co29:Value).ownBlock∧some k_≠(.slice (some ad207) t198.length co30:Value).ownBlock∧some k_≠(v212:Value).ownBlock)) (Kd.Vz <| Kd.V_mono HL208_0.out (fun _ hk=>⟨⟨hk.1.1,⟨hk.1.2.1,⟨hk.1.2.2.1,⟨hk.1.2.2.2.1,hk.2⟩⟩⟩⟩,hk.1.2.2.2.2⟩)) hg hat);replace HO213:=Sd.mk (Kd.R_over' (Kd.Rz HO213.out) (Kd.N_typed (Kd.Nz HO_10.out)) (by decide) hg);replace HL214_0:=Sd.mk (Kd.V_afterv (ok:=(fun k_=>some k_≠(.slice Ao14 t183.length co14:Value).ownBlock∧some k_≠(.slice (some ad208) t186.length co31:Value).ownBlock∧some k_≠(.slice (some ad210) t195.length co29:Value).ownBlock∧some k_≠(.slice (some ad207) t198.length co30:Value).ownBlock∧some k_≠(v212:Value).ownBlock)) (Kd.Vz <| Kd.V_mono HL214_0.out (fun _ hk=>⟨⟨hk.1.1.1,⟨hk.1.1.2.1,⟨hk.1.1.2.2.1,⟨hk.2,hk.1.2⟩⟩⟩⟩,hk.1.1.2.2.2⟩)) hg hat);replace HB:=Sd.mk (hb);have HO217:=Sd.mk (ho);clear HO_10;clear ho hb hg hat))
            go_roundg k1
            case measure=>have:=HK1.out;omega
            case rel=>exact⟨(y211),(y215),(wrap64 (x11_1+1)),(by first|rfl|(simp;done)|(simp[*];done)),H',⟨by have:=HK1.out;omega⟩,⟨by(with_reducible repeat (first|apply Kd.R_alloc|apply Kd.R_drewN|apply Kd.R_drew));exact HO_5.out⟩,⟨Kd.Nz <| Kd.N_mono HO_6.out (fun _ hk=>⟨hk.1.1,⟨hk.1.2.1,⟨hk.1.2.2.1,⟨hk.1.2.2.2,hk.2⟩⟩⟩⟩)⟩,⟨by(with_reducible repeat (first|apply Kd.R_alloc|apply Kd.R_drewN|apply Kd.R_drew));exact HO_7.out⟩,⟨Kd.Nz <| Kd.N_mono HO_8.out (fun _ hk=>⟨hk.1.1,⟨hk.1.2.1,⟨hk.1.2.2.1,⟨hk.1.2.2.2,hk.2⟩⟩⟩⟩)⟩,⟨by(with_reducible repeat (first|apply Kd.R_alloc|apply Kd.R_drewN|apply Kd.R_drew));exact HO213.out⟩,⟨by(with_reducible repeat (first|apply Kd.N_alloc|apply Kd.N_drewN|apply Kd.N_drew));exact HO217.out⟩,⟨bz⟩⟩
           ·rw[if_neg c27] at H
            exact absurd H (by simp)
          ·rw[if_neg c26] at H
           exact absurd H (by simp)
         ·rw[if_neg c25] at H
          have c25b0:decide (0≤t209)=false:=decide_eq_false c25
          clear c25
          have H':=Sd.mk H
          clear H
          try go_wp2
          have n0_:=Sd.mk (Kd.R_drew HO_5.out)
          have n1_:=Sd.mk (Kd.N_drew HO_6.out)
          have n2_:=Sd.mk (Kd.R_drew HO_7.out)
          have n3_:=Sd.mk (Kd.N_drew HO_8.out)
          have n4_:=Sd.mk (Kd.R_drew HO_9.out)
          have n5_:=Sd.mk (Kd.N_drew HO_10.out)
          have n6_:=Sd.mk (below_drew1 HB.out)
          clear HO_5
          clear HO_6
          clear HO_7
          clear HO_8
          clear HO_9
          clear HO_10
          clear HB
          have HO_5:=n0_
          have HO_6:=n1_
          have HO_7:=n2_
          have HO_8:=n3_
          have HO_9:=n4_
          have HO_10:=n5_
          have HB:=n6_
          clear n0_ n1_ n2_ n3_ n4_ n5_ n6_
          obtain⟨Ao36,co36,eo36⟩:=Kd.R_slice HO_7.out
          (first|subst eo36|(injection eo36 with f1_ f2_ f3_;have f4_:=f1_.symm;have f5_:=f3_.symm;clear f1_ f2_ f3_;subst f4_;subst f5_))
          obtain⟨Ao37,co37,eo37⟩:=Kd.N_slice HO_8.out
          (first|subst eo37|(injection eo37 with f1_ f2_ f3_;have f4_:=f1_.symm;have f5_:=f3_.symm;clear f1_ f2_ f3_;subst f4_;subst f5_))
          have p207:0≤(x11_1:Int):=dz
          have q207:x11_1<(t198.length:Int):=dz
          obtain⟨ad207,A207_0,c207_0,e207,hx207_0,hl207_0,hi207_0⟩:=at_L1 (Kd.N_reads' HO_8.out).2.2 x11_1 p207 q207
          cases e207
          obtain⟨ce207,hce207,hMe207,hcc207⟩:=Kd.N_get HO_8.out [] x11_1 p207 (by first|exact q207|exact dz|(have e_:=(Kd.N_reads' HO_8.out).1;omega))
          obtain⟨ua207_0,uc207_0,rfl,ul207_0,ge207_0⟩:=Kd.FK_slice_open hMe207
          have hv207_0:=hcc207 0 _ rfl
          rw[Nat.add_zero,show ((Kd.slice 3 (Kd.int .i64))).sz=1 from rfl,Nat.mul_one] at hv207_0
          replace hv207_0:=Option.some.inj (hv207_0.symm.trans hx207_0)
          injection hv207_0 with hva_ hvn_ hvc_
          rw[hva_] at ge207_0
          rw[hvc_] at ul207_0
          have HL207_0:=Sd.mk (show Kd.V (Kd.int .i64) 3 _ w.heap.size _ _ (rd_L1 t198 x11_1) from Kd.V_mk ul207_0 ge207_0)
          clear hva_ hvn_ hvc_ ge207_0 ul207_0
          clear hcc207 hce207
          have HR207_0:=Sd.mk hi207_0
          have HC207_0:=Sd.mk hl207_0
          clear hi207_0 hl207_0
          replace p207:=eq_true p207
          replace q207:=eq_true q207
          obtain⟨Ao38,co38,eo38⟩:=Kd.N_slice HO_6.out
          (first|subst eo38|(injection eo38 with f1_ f2_ f3_;have f4_:=f1_.symm;have f5_:=f3_.symm;clear f1_ f2_ f3_;subst f4_;subst f5_))
          have p208:0≤(0:Int):=(by omega)
          have q208:0<(t186.length:Int):=dz
          obtain⟨ad208,A208_0,c208_0,e208,hx208_0,hl208_0,hi208_0⟩:=at_L1 (Kd.N_reads' HO_6.out).2.2 0 p208 q208
          cases e208
          obtain⟨ce208,hce208,hMe208,hcc208⟩:=Kd.N_get HO_6.out [] 0 p208 (by first|exact q208|exact dz|(have e_:=(Kd.N_reads' HO_6.out).1;omega))
          obtain⟨ua208_0,uc208_0,rfl,ul208_0,ge208_0⟩:=Kd.FK_slice_open hMe208
          have hv208_0:=hcc208 0 _ rfl
          rw[Nat.add_zero,show ((Kd.slice 3 (Kd.int .i64))).sz=1 from rfl,Nat.mul_one] at hv208_0
          replace hv208_0:=Option.some.inj (hv208_0.symm.trans hx208_0)
          injection hv208_0 with hva_ hvn_ hvc_
          rw[hva_] at ge208_0
          rw[hvc_] at ul208_0
          have HL208_0:=Sd.mk (show Kd.V (Kd.int .i64) 3 _ w.heap.size _ _ (rd_L1 t186 0) from Kd.V_mk ul208_0 ge208_0)
          clear hva_ hvn_ hvc_ ge208_0 ul208_0
          clear hcc208 hce208
          have qi208:(0<t186.length)=True:=eq_true (by omega)
          (try rw[show ((0:Int)).toNat=0 from rfl] at hx208_0)
          (try rw[Addr.add_zero'] at hx208_0)
          have HR208_0:=Sd.mk hi208_0
          have HC208_0:=Sd.mk hl208_0
          clear hi208_0 hl208_0
          replace p208:=eq_true p208
          replace q208:=eq_true q208
          refine start_ (n:=15) (S:=fun w'=>w'.cell? (ad207.add (x11_1).toNat)=some (.slice A207_0 (rd_L1 t198 x11_1).length c207_0)∧w'.cell? ad208=some (.slice A208_0 (rd_L1 t186 0).length c208_0)) (ds:=[]) #[F,F,F,F,F,F,F,F,F,F,F,F,F,F,F] (by kernel_rfl) rfl rfl ⟨hx207_0,hx208_0⟩ (fun hHeld=>?_);refine with_tabW spec_l2Add.tab8 spec_l2Add.bits8 (fun HT_ HW_=>?_)
          generalize wr.drew=w35 at HO_5 HO_6 HO_7 HO_8 HO_9 HO_10 HB HL207_0 HL208_0 HR207_0 HR208_0 hx207_0 hx208_0 hHeld ⊢
          refine pq 0 (some 32) HT_.out rfl rfl ?_
          refine pq 1 (some 33) HT_.out rfl rfl ?_
          refine pq 2 (some 34) HT_.out rfl rfl ?_
          refine pq 3 (some 35) HT_.out rfl rfl ?_
          refine pq 4 (some 36) HT_.out rfl rfl ?_
          refine pq 5 (some 37) HT_.out rfl rfl ?_
          refine pq 6 (some 38) HT_.out rfl rfl ?_
          refine pq 7 (some 39) HT_.out rfl rfl ?_
          refine pq 9 (some 41) HT_.out rfl rfl ?_
          refine pq 10 (some 42) HT_.out rfl rfl ?_
          refine take_ (i:=8) (N:=some 40) (v:=?_) (a':=?_) #[T,T,T,T,T,T,T,T,T,T,T,F,F,F,F] rfl rfl (take_ofW HT_.out HW_.out (by kernel_rfl)) (fun _ _ _ h=>h) (Or.inl ⟨by rfl,?_⟩) hHeld ?_ ?_
          rotate_left;(· rintro w' ⟨s0,s1⟩;go_simp;with_reducible rfl);rotate_left;(· simp only[Act.put,s1,s2,s3,i64_w,i32_w];rfl)
          refine take_ (i:=11) (N:=some 43) (v:=?_) (a':=?_) #[T,T,T,T,T,T,T,T,T,T,T,T,F,F,F] rfl rfl (take_ofW HT_.out HW_.out (by kernel_rfl)) (fun _ _ _ h=>h) (Or.inl ⟨by rfl,?_⟩) hHeld ?_ ?_
          rotate_left;(· rintro w' ⟨s0,s1⟩;go_simp;with_reducible rfl);rotate_left;(· simp only[Act.put,s1,s2,s3,i64_w,i32_w];rfl)
          refine one_ (i:=12) (N:=some 44) #[T,T,T,T,T,T,T,T,T,T,T,T,T,F,F] rfl rfl (one_of HT_.out (by kernel_rfl)) (by decide) (fun K hK=>?_)
          refine goes_ Try.func53 (by kernel_rfl) rfl #[.slice A207_0 (rd_L1 t198 x11_1).length c207_0,.slice A208_0 (rd_L1 t186 0).length c208_0] (by rfl) rfl rfl az ?_
          with_reducible refine(spec_l1Compare.calls k1 _ _ (rd_L1 t198 x11_1) _ _ (rd_L1 t186 0) t209 _ ?side1 ?side2 ?side3 ?side4 A24.out).mono ?_
          (case side1=>exact(Kd.Cz HR207_0.out))
          (case side2=>exact HC207_0.out)
          (case side3=>exact(Kd.Cz HR208_0.out))
          (case side4=>exact HC208_0.out)
          rintro e w39 ⟨rfl,hb⟩
          have HS0_:=(hb.cell (World.block_lt_of_cell? _ _ (hHeld.1))).trans (hHeld.1)
          have HS1_:=(hb.cell (World.block_lt_of_cell? _ _ (hHeld.2))).trans (hHeld.2)
          refine⟨_,rfl,?_⟩
          have n0_:=Sd.mk (Kd.R_below (Kd.Rz HO_5.out) hb)
          have n1_:=Sd.mk (Kd.N_below (Kd.Nz HO_6.out) hb)
          have n2_:=Sd.mk (Kd.R_below (Kd.Rz HO_7.out) hb)
          have n3_:=Sd.mk (Kd.N_below (Kd.Nz HO_8.out) hb)
          have n4_:=Sd.mk (Kd.R_below (Kd.Rz HO_9.out) hb)
          have n5_:=Sd.mk (Kd.N_below (Kd.Nz HO_10.out) hb)
          have n6_:=Sd.mk (Kd.V_below (Kd.Vz HL207_0.out) hb)
          have n7_:=Sd.mk (Kd.V_below (Kd.Vz HL208_0.out) hb)
          have n8_:=Sd.mk (Kd.C_below (Kd.Cz HR207_0.out) hb)
          have n9_:=Sd.mk (Kd.C_below (Kd.Cz HR208_0.out) hb)
          have n10_:=Sd.mk (below_step bz hb)
          clear HO_5
          clear HO_6
          clear HO_7
          clear HO_8
          clear HO_9
          clear HO_10
          clear HL207_0
          clear HL208_0
          clear HR207_0
          clear HR208_0
          clear HB
          have HO_5:=n0_
          have HO_6:=n1_
          have HO_7:=n2_
          have HO_8:=n3_
          have HO_9:=n4_
          have HO_10:=n5_
          have HL207_0:=n6_
          have HL208_0:=n7_
          have HR207_0:=n8_
          have HR208_0:=n9_
          have HB:=n10_
          clear n0_ n1_ n2_ n3_ n4_ n5_ n6_ n7_ n8_ n9_ n10_
          (try clear hb)
          (try clear hb2)
          (try clear hk)
          (try clear hi)
          refine hK.out _ _ ⟨HS0_,HS1_⟩ (fun hHeld=>?_)
          clear hK K
          refine norm_ (a':=?_) ?_ ?_
          rotate_left
          ·show Act.put _ (some 44) _=_
           simp only[Act.put,s1,s2,s3,i64_w,i32_w]
           rfl
          refine pq 13 (some 45) HT_.out rfl rfl ?_
          refine pq 14 (some 46) HT_.out rfl rfl ?_
          refine done_ (done_of HT_.out (by kernel_rfl)) ?_
          try go_wp2
          go_meet
          case rel=>exact⟨_,(x9_1),(x10_1),H',⟨by have:=HK1.out;first|omega|exact Nat.le_refl _⟩,⟨Kd.Rz <| Kd.R_mono HO_5.out (fun _ hk=>hk.2)⟩,⟨Kd.Nz <| Kd.N_mono HO_6.out (fun _ hk=>⟨hk.1,⟨hk.2.2.2.1,hk.2.2.2.2⟩⟩)⟩,⟨Kd.Rz <| Kd.R_mono HO_9.out (fun _ hk=>hk.1)⟩,⟨Kd.Nz <| Kd.N_mono HO_10.out (fun _ hk=>⟨hk.1,⟨hk.2.1,hk.2.2.2.2⟩⟩)⟩,⟨bz⟩⟩
        ·rw[if_neg c23] at H
         exact absurd H (by simp)
       ·rw[if_neg c22] at H
        exact absurd H (by simp)
      ·rw[if_neg c21] at H
       exact absurd H (by simp)
     ·rw[if_neg c20] at H
      have c20b0:decide (x11_1<(t195.length:Int))=false:=decide_eq_false c20
      clear c20
      (first|rw[c20b0]|(simp only[i64_w,i32_w];rw[c20b0])|skip)
      have H':=Sd.mk H
      clear H
      try go_wp2
      have n0_:=Sd.mk (Kd.R_drew HO_5.out)
      have n1_:=Sd.mk (Kd.N_drew HO_6.out)
      have n2_:=Sd.mk (Kd.R_drew HO_7.out)
      have n3_:=Sd.mk (Kd.N_drew HO_8.out)
      have n4_:=Sd.mk (Kd.R_drew HO_9.out)
      have n5_:=Sd.mk (Kd.N_drew HO_10.out)
      have n6_:=Sd.mk (below_drew1 HB.out)
      clear HO_5
      clear HO_6
      clear HO_7
      clear HO_8
      clear HO_9
      clear HO_10
      clear HB
      have HO_5:=n0_
      have HO_6:=n1_
      have HO_7:=n2_
      have HO_8:=n3_
      have HO_9:=n4_
      have HO_10:=n5_
      have HB:=n6_
      clear n0_ n1_ n2_ n3_ n4_ n5_ n6_
      obtain⟨Ao41,co41,eo41⟩:=Kd.R_slice HO_7.out
      (first|subst eo41|(injection eo41 with f1_ f2_ f3_;have f4_:=f1_.symm;have f5_:=f3_.symm;clear f1_ f2_ f3_;subst f4_;subst f5_))
      refine start_ (n:=15) (S:=fun w'=>True) (ds:=[]) #[F,F,F,F,F,F,F,F,F,F,F,F,F,F,F] (by kernel_rfl) rfl rfl trivial (fun hHeld=>?_);refine with_tabW spec_l2Add.tab8 spec_l2Add.bits8 (fun HT_ HW_=>?_)
      generalize wr.drew=w40 at HO_5 HO_6 HO_7 HO_8 HO_9 HO_10 HB hHeld ⊢
      refine pq 0 (some 32) HT_.out rfl rfl ?_
      refine pq 1 (some 33) HT_.out rfl rfl ?_
      refine pq 2 (some 34) HT_.out rfl rfl ?_
      refine pq 3 (some 35) HT_.out rfl rfl ?_
      refine pq 4 (some 36) HT_.out rfl rfl ?_
      refine pu 5 (some 37) HT_.out rfl rfl ?_
      refine pu 6 (some 38) HT_.out rfl rfl ?_
      refine pu 7 (some 39) HT_.out rfl rfl ?_
      refine pu 8 (some 40) HT_.out rfl rfl ?_
      refine pu 9 (some 41) HT_.out rfl rfl ?_
      refine pu 10 (some 42) HT_.out rfl rfl ?_
      refine pu 11 (some 43) HT_.out rfl rfl ?_
      refine pu 12 (some 44) HT_.out rfl rfl ?_
      refine pu 13 (some 45) HT_.out rfl rfl ?_
      refine pq 14 (some 46) HT_.out rfl rfl ?_
      refine done_ (done_of HT_.out (by kernel_rfl)) ?_
      try go_wp2
      go_meet
      case rel=>exact⟨_,(x9_1),(x10_1),H',⟨by have:=HK1.out;first|omega|exact Nat.le_refl _⟩,⟨Kd.Rz <| Kd.R_mono HO_5.out (fun _ hk=>hk.2)⟩,⟨Kd.Nz <| Kd.N_mono HO_6.out (fun _ hk=>⟨hk.1,⟨hk.2.2.2.1,hk.2.2.2.2⟩⟩)⟩,⟨Kd.Rz <| Kd.R_mono HO_9.out (fun _ hk=>hk.1)⟩,⟨Kd.Nz <| Kd.N_mono HO_10.out (fun _ hk=>⟨hk.1,⟨hk.2.1,hk.2.2.2.2⟩⟩)⟩,⟨bz⟩⟩
  case rest =>
   clear HC12
   try clear c2
   try clear p2
   try clear q2
   try clear hx2
   try clear qi2
   try clear c5
   try clear p6
   try clear c20
   try clear c20b0
   try clear p20
   try clear q20
   try clear hx20
   try clear qi20
   try clear c21
   try clear p21
   try clear q21
   try clear hx21
   try clear c22
   try clear c23
   try clear c25
   try clear c25b0
   try clear c26
   try clear c27
   try clear hx207_0
   try clear hx208_0
   try clear hx210_0
   try clear hx214_0
   try clear p207
   try clear p208
   try clear p210
   try clear p214
   try clear q207
   try clear q208
   try clear q210
   try clear q214
   obtain⟨kq,x9_11,x10_11,HA,HJ11,HO_5,HO_6,HO_9,HO_10,HB⟩:=hcut
   cases kq with
   | zero=>exact absurd HA.out (by simp[spec_l2Add.j1])
   | succ kj11 =>
    have H:=HA.out
    clear HA
    simp only[spec_l2Add.j1] at H
    by_cases c42:(wrap64 ((x9_11.length:Int)-1))≥0
    ·rw[if_pos c42] at H
     have c42b0:decide (0≤(wrap64 ((x9_11.length:Int)-1)))=true:=decide_eq_true c42
     clear c42
     obtain⟨ji43,hji43⟩:∃ j_:Int,(wrap64 ((x9_11.length:Int)-1))=j_:=⟨_,rfl⟩
     replace H:(if 0≤(ji43) then(if(ji43)<(x10_11.length:Int) then(if 0<(t186.length:Int) then((spec_l1Compare.f kj11 (rd_L1 x10_11 (ji43)) (rd_L1 t186 0)).bind fun t220=>(if t220=0 then(if(ji43)<(x9_11.length:Int) then(if 0<(t183.length:Int) then((some (x9_11.set ((ji43):Int).toNat (wrap64 ((rd x9_11 (ji43))+(rd t183 0))):List Int)).bind fun y223=>(if 1≤(t183.length:Int) then((some (t183.drop 1:List Int)).bind fun y224=>(if y223.length+y224.length<17592186044416 then(if 1≤(t186.length:Int) then((some (t186.drop 1:List (List Int))).bind fun y232=>(if x10_11.length+y232.length<5864062014805 then((spec_l1Make.f kj11 (y223++y224) (x10_11++y232)).bind fun t240=>(some t240)) else(none))) else(none)) else(none))) else(none))) else(none)) else(none)) else(if 0≤(t183.length:Int) then((some (t183.drop 0:List Int)).bind fun y243=>(if x9_11.length+y243.length<17592186044416 then(if 0≤(t186.length:Int) then((some (t186.drop 0:List (List Int))).bind fun y251=>(if x10_11.length+y251.length<5864062014805 then((spec_l1Make.f kj11 (x9_11++y243) (x10_11++y251)).bind fun t259=>(some t259)) else(none))) else(none)) else(none))) else(none)))) else(none)) else(none)) else(none))=some r:=by first|(rw[hji43] at H;exact H)|(simp only[hji43] at H ⊢;exact H)
     (try rw[hji43] at c42b0)
     have hji43w:(IntKind.i64.wrap ((x9_11.length:Int)-1))=ji43:=(i64_w _).trans hji43
     by_cases c44:0≤(ji43)
     ·rw[if_pos c44] at H
      have c44b0:decide (0≤(ji43))=true:=decide_eq_true c44
      clear c44
      by_cases c45:(ji43)<(x10_11.length:Int)
      ·rw[if_pos c45] at H
       have c45b0:decide ((ji43)<(x10_11.length:Int))=true:=decide_eq_true c45
       clear c45
       by_cases c46:0<(t186.length:Int)
       ·rw[if_pos c46] at H
        have c46b0:decide (0<(t186.length:Int))=true:=decide_eq_true c46
        have c46b1:decide (0<t186.length)=true:=decide_eq_true (by omega)
        clear c46
        replace H:=Option.bind_eq_some_iff.mp H
        obtain⟨t220,A470,H⟩:=H
        replace H:(if t220=0 then(if(ji43)<(x9_11.length:Int) then(if 0<(t183.length:Int) then((some (x9_11.set ((ji43):Int).toNat (wrap64 ((rd x9_11 (ji43))+(rd t183 0))):List Int)).bind fun y223=>(if 1≤(t183.length:Int) then((some (t183.drop 1:List Int)).bind fun y224=>(if y223.length+y224.length<17592186044416 then(if 1≤(t186.length:Int) then((some (t186.drop 1:List (List Int))).bind fun y232=>(if x10_11.length+y232.length<5864062014805 then((spec_l1Make.f kj11 (y223++y224) (x10_11++y232)).bind fun t240=>(some t240)) else(none))) else(none)) else(none))) else(none))) else(none)) else(none)) else(if 0≤(t183.length:Int) then((some (t183.drop 0:List Int)).bind fun y243=>(if x9_11.length+y243.length<17592186044416 then(if 0≤(t186.length:Int) then((some (t186.drop 0:List (List Int))).bind fun y251=>(if x10_11.length+y251.length<5864062014805 then((spec_l1Make.f kj11 (x9_11++y243) (x10_11++y251)).bind fun t259=>(some t259)) else(none))) else(none)) else(none))) else(none)))=some r:=H
        have A47:=Sd.mk A470
        clear A470
        by_cases c48:t220=0
        ·rw[if_pos c48] at H
         have c48b0:(t220 == 0)=true:=beq_iff_eq.mpr c48
         have c48b1:(t220 != 0)=false:=bne_eq_false_iff_eq.mpr c48
         clear c48
         by_cases c49:(ji43)<(x9_11.length:Int)
         ·rw[if_pos c49] at H
          have c49b0:decide ((ji43)<(x9_11.length:Int))=true:=decide_eq_true c49
          clear c49
          by_cases c50:0<(t183.length:Int)
          ·rw[if_pos c50] at H
           have c50b0:decide (0<(t183.length:Int))=true:=decide_eq_true c50
           have c50b1:decide (0<t183.length)=true:=decide_eq_true (by omega)
           clear c50
           obtain⟨y223,hy223⟩:∃ y_:List Int,y_=(x9_11.set ((ji43):Int).toNat (wrap64 ((rd x9_11 (ji43))+(rd t183 0)))):=⟨_,rfl⟩
           replace H:(if 1≤(t183.length:Int) then((some (t183.drop 1:List Int)).bind fun y224=>(if y223.length+y224.length<17592186044416 then(if 1≤(t186.length:Int) then((some (t186.drop 1:List (List Int))).bind fun y232=>(if x10_11.length+y232.length<5864062014805 then((spec_l1Make.f kj11 (y223++y224) (x10_11++y232)).bind fun t240=>(some t240)) else(none))) else(none)) else(none))) else(none))=some r:=hz hy223 H
           have Ny223:=Sd.mk hy223
           clear hy223
           by_cases c52:1≤(t183.length:Int)
           ·rw[if_pos c52] at H
            have c52b0:=eq_true c52
            have c52b1:decide (1≤(t183.length:Int))=true:=decide_eq_true c52
            clear c52
            obtain⟨y224,hy224⟩:∃ y_:List Int,y_=(t183.drop 1):=⟨_,rfl⟩
            replace H:(if y223.length+y224.length<17592186044416 then(if 1≤(t186.length:Int) then((some (t186.drop 1:List (List Int))).bind fun y232=>(if x10_11.length+y232.length<5864062014805 then((spec_l1Make.f kj11 (y223++y224) (x10_11++y232)).bind fun t240=>(some t240)) else(none))) else(none)) else(none))=some r:=hz hy224 H
            have Ny224:=Sd.mk hy224
            clear hy224
            by_cases c53:y223.length+y224.length<17592186044416
            ·rw[if_pos c53] at H
             have LMc53:=Sd.mk c53
             clear c53
             obtain⟨y229,hy229⟩:∃ y_:List Int,y_=(y223++y224):=⟨_,rfl⟩
             replace H:(if 1≤(t186.length:Int) then((some (t186.drop 1:List (List Int))).bind fun y232=>(if x10_11.length+y232.length<5864062014805 then((spec_l1Make.f kj11 y229 (x10_11++y232)).bind fun t240=>(some t240)) else(none))) else(none))=some r:=hz hy229 H
             have Ny229:=Sd.mk hy229
             clear hy229
             by_cases c54:1≤(t186.length:Int)
             ·rw[if_pos c54] at H
              have c54b0:=eq_true c54
              have c54b1:decide (1≤(t186.length:Int))=true:=decide_eq_true c54
              clear c54
              obtain⟨y232,hy232⟩:∃ y_:List (List Int),y_=(t186.drop 1):=⟨_,rfl⟩
              replace H:(if x10_11.length+y232.length<5864062014805 then((spec_l1Make.f kj11 y229 (x10_11++y232)).bind fun t240=>(some t240)) else(none))=some r:=hz hy232 H
              have Ny232:=Sd.mk hy232
              clear hy232
              by_cases c55:x10_11.length+y232.length<5864062014805
              ·rw[if_pos c55] at H
               have LMc55:=Sd.mk c55
               clear c55
               obtain⟨y237,hy237⟩:∃ y_:List (List Int),y_=(x10_11++y232):=⟨_,rfl⟩
               replace H:((spec_l1Make.f kj11 y229 y237).bind fun t240=>(some t240))=some r:=hz hy237 H
               have Ny237:=Sd.mk hy237
               clear hy237
               replace H:=Option.bind_eq_some_iff.mp H
               obtain⟨t240,A560,H⟩:=H
               replace H:(some t240)=some r:=H
               have A56:=Sd.mk A560
               clear A560
               obtain rfl:=Option.some.inj H
               obtain⟨Ao57,co57,eo57⟩:=Kd.R_slice HO_9.out
               subst eo57
               try go_wp2
               have n0_:=Sd.mk (Kd.R_drew HO_5.out)
               have n1_:=Sd.mk (Kd.N_drew HO_6.out)
               have n2_:=Sd.mk (Kd.R_drew HO_9.out)
               have n3_:=Sd.mk (Kd.N_drew HO_10.out)
               have n4_:=Sd.mk (below_drew1 HB.out)
               clear HO_5
               clear HO_6
               clear HO_9
               clear HO_10
               clear HB
               have HO_5:=n0_
               have HO_6:=n1_
               have HO_9:=n2_
               have HO_10:=n3_
               have HB:=n4_
               clear n0_ n1_ n2_ n3_ n4_
               obtain⟨Ao59,co59,eo59⟩:=Kd.N_slice HO_10.out
               (first|subst eo59|(injection eo59 with f1_ f2_ f3_;have f4_:=f1_.symm;have f5_:=f3_.symm;clear f1_ f2_ f3_;subst f4_;subst f5_))
               have p218:0≤((ji43):Int):=dz
               have q218:(ji43)<(x10_11.length:Int):=dz
               obtain⟨ad218,A218_0,c218_0,e218,hx218_0,hl218_0,hi218_0⟩:=at_L1 (Kd.N_reads' HO_10.out).2.2 (ji43) p218 q218
               cases e218
               obtain⟨ce218,hce218,hMe218,hcc218⟩:=Kd.N_get HO_10.out [] (ji43) p218 (by first|exact q218|exact dz|(have e_:=(Kd.N_reads' HO_10.out).1;omega))
               obtain⟨ua218_0,uc218_0,rfl,ul218_0,ge218_0⟩:=Kd.FK_slice_open hMe218
               have hv218_0:=hcc218 0 _ rfl
               rw[Nat.add_zero,show ((Kd.slice 3 (Kd.int .i64))).sz=1 from rfl,Nat.mul_one] at hv218_0
               replace hv218_0:=Option.some.inj (hv218_0.symm.trans hx218_0)
               injection hv218_0 with hva_ hvn_ hvc_
               rw[hva_] at ge218_0
               rw[hvc_] at ul218_0
               have HL218_0:=Sd.mk (show Kd.V (Kd.int .i64) 3 _ w.heap.size _ _ (rd_L1 x10_11 (ji43)) from Kd.V_mk ul218_0 ge218_0)
               clear hva_ hvn_ hvc_ ge218_0 ul218_0
               clear hcc218 hce218
               have HR218_0:=Sd.mk hi218_0
               have HC218_0:=Sd.mk hl218_0
               clear hi218_0 hl218_0
               replace p218:=eq_true p218
               replace q218:=eq_true q218
               obtain⟨Ao60,co60,eo60⟩:=Kd.N_slice HO_6.out
               (first|subst eo60|(injection eo60 with f1_ f2_ f3_;have f4_:=f1_.symm;have f5_:=f3_.symm;clear f1_ f2_ f3_;subst f4_;subst f5_))
               have p219:0≤(0:Int):=(by omega)
               have q219:0<(t186.length:Int):=dz
               obtain⟨ad219,A219_0,c219_0,e219,hx219_0,hl219_0,hi219_0⟩:=at_L1 (Kd.N_reads' HO_6.out).2.2 0 p219 q219
               cases e219
               obtain⟨ce219,hce219,hMe219,hcc219⟩:=Kd.N_get HO_6.out [] 0 p219 (by first|exact q219|exact dz|(have e_:=(Kd.N_reads' HO_6.out).1;omega))
               obtain⟨ua219_0,uc219_0,rfl,ul219_0,ge219_0⟩:=Kd.FK_slice_open hMe219
               have hv219_0:=hcc219 0 _ rfl
               rw[Nat.add_zero,show ((Kd.slice 3 (Kd.int .i64))).sz=1 from rfl,Nat.mul_one] at hv219_0
               replace hv219_0:=Option.some.inj (hv219_0.symm.trans hx219_0)
               injection hv219_0 with hva_ hvn_ hvc_
               rw[hva_] at ge219_0
               rw[hvc_] at ul219_0
               have HL219_0:=Sd.mk (show Kd.V (Kd.int .i64) 3 _ w.heap.size _ _ (rd_L1 t186 0) from Kd.V_mk ul219_0 ge219_0)
               clear hva_ hvn_ hvc_ ge219_0 ul219_0
               clear hcc219 hce219
               have qi219:(0<t186.length)=True:=eq_true (by omega)
               (try rw[show ((0:Int)).toNat=0 from rfl] at hx219_0)
               (try rw[Addr.add_zero'] at hx219_0)
               have HR219_0:=Sd.mk hi219_0
               have HC219_0:=Sd.mk hl219_0
               clear hi219_0 hl219_0
               replace p219:=eq_true p219
               replace q219:=eq_true q219
               refine start_ (n:=13) (S:=fun w'=>w'.cell? (ad218.add ((ji43)).toNat)=some (.slice A218_0 (rd_L1 x10_11 (ji43)).length c218_0)∧w'.cell? ad219=some (.slice A219_0 (rd_L1 t186 0).length c219_0)) (ds:=[]) #[F,F,F,F,F,F,F,F,F,F,F,F,F] (by kernel_rfl) rfl rfl ⟨hx218_0,hx219_0⟩ (fun hHeld=>?_);refine with_tabW spec_l2Add.tab14 spec_l2Add.bits14 (fun HT_ HW_=>?_)
               generalize wc.drew=w58 at HO_5 HO_6 HO_9 HO_10 HB HL218_0 HL219_0 HR218_0 HR219_0 hx218_0 hx219_0 hHeld ⊢
               refine pq 0 (some 66) HT_.out rfl rfl ?_
               refine pq 1 (some 67) HT_.out rfl rfl ?_
               refine pq 2 (some 68) HT_.out rfl rfl ?_
               refine pq 3 (some 69) HT_.out rfl rfl ?_
               refine pq 4 (some 70) HT_.out rfl rfl ?_
               refine pq 5 (some 71) HT_.out rfl rfl ?_
               refine pq 7 (some 73) HT_.out rfl rfl ?_
               refine pq 8 (some 74) HT_.out rfl rfl ?_
               refine take_ (i:=6) (N:=some 72) (v:=?_) (a':=?_) #[T,T,T,T,T,T,T,T,T,F,F,F,F] rfl rfl (take_ofW HT_.out HW_.out (by kernel_rfl)) (fun _ _ _ h=>h) (Or.inl ⟨by rfl,?_⟩) hHeld ?_ ?_
               rotate_left;(· rintro w' ⟨s0,s1⟩;go_simp;with_reducible rfl);rotate_left;(· simp only[Act.put,s1,s2,s3,i64_w,i32_w];rfl)
               refine take_ (i:=9) (N:=some 75) (v:=?_) (a':=?_) #[T,T,T,T,T,T,T,T,T,T,F,F,F] rfl rfl (take_ofW HT_.out HW_.out (by kernel_rfl)) (fun _ _ _ h=>h) (Or.inl ⟨by rfl,?_⟩) hHeld ?_ ?_
               rotate_left;(· rintro w' ⟨s0,s1⟩;go_simp;with_reducible rfl);rotate_left;(· simp only[Act.put,s1,s2,s3,i64_w,i32_w];rfl)
               refine one_ (i:=10) (N:=some 76) #[T,T,T,T,T,T,T,T,T,T,T,F,F] rfl rfl (one_of HT_.out (by kernel_rfl)) (by decide) (fun K hK=>?_)
               refine goes_ Try.func53 (by kernel_rfl) rfl #[.slice A218_0 (rd_L1 x10_11 (ji43)).length c218_0,.slice A219_0 (rd_L1 t186 0).length c219_0] (by rfl) rfl rfl (by(try simp only[List.map_toArray,List.map_cons,List.map_nil]);first|done|(simp only[hji43];rfl)|rfl|(simp only[List.length_drop,List.length_take];rfl)) ?_
               with_reducible refine(spec_l1Compare.calls kj11 _ _ (rd_L1 x10_11 (ji43)) _ _ (rd_L1 t186 0) t220 _ ?side1 ?side2 ?side3 ?side4 A47.out).mono ?_
               (case side1=>exact(Kd.Cz HR218_0.out))
               (case side2=>exact HC218_0.out)
               (case side3=>exact(Kd.Cz HR219_0.out))
               (case side4=>exact HC219_0.out)
               rintro e w61 ⟨rfl,hb⟩
               have HS0_:=(hb.cell (World.block_lt_of_cell? _ _ (hHeld.1))).trans (hHeld.1)
               have HS1_:=(hb.cell (World.block_lt_of_cell? _ _ (hHeld.2))).trans (hHeld.2)
               refine⟨_,rfl,?_⟩
               have n0_:=Sd.mk (Kd.R_below (Kd.Rz HO_5.out) hb)
               have n1_:=Sd.mk (Kd.N_below (Kd.Nz HO_6.out) hb)
               have n2_:=Sd.mk (Kd.R_below (Kd.Rz HO_9.out) hb)
               have n3_:=Sd.mk (Kd.N_below (Kd.Nz HO_10.out) hb)
               have n4_:=Sd.mk (Kd.V_below (Kd.Vz HL218_0.out) hb)
               have n5_:=Sd.mk (Kd.V_below (Kd.Vz HL219_0.out) hb)
               have n6_:=Sd.mk (Kd.C_below (Kd.Cz HR218_0.out) hb)
               have n7_:=Sd.mk (Kd.C_below (Kd.Cz HR219_0.out) hb)
               have n8_:=Sd.mk (below_step bz hb)
               clear HO_5
               clear HO_6
               clear HO_9
               clear HO_10
               clear HL218_0
               clear HL219_0
               clear HR218_0
               clear HR219_0
               clear HB
               have HO_5:=n0_
               have HO_6:=n1_
               have HO_9:=n2_
               have HO_10:=n3_
               have HL218_0:=n4_
               have HL219_0:=n5_
               have HR218_0:=n6_
               have HR219_0:=n7_
               have HB:=n8_
               clear n0_ n1_ n2_ n3_ n4_ n5_ n6_ n7_ n8_
               (try clear hb)
               (try clear hb2)
               (try clear hk)
               (try clear hi)
               refine hK.out _ _ ⟨HS0_,HS1_⟩ (fun hHeld=>?_)
               clear hK K
               refine norm_ (a':=?_) ?_ ?_
               rotate_left
               ·show Act.put _ (some 76) _=_
                simp only[Act.put,s1,s2,s3,i64_w,i32_w]
                rfl
               refine pq 11 (some 77) HT_.out rfl rfl ?_
               refine pq 12 (some 78) HT_.out rfl rfl ?_
               refine done_ (done_of HT_.out (by kernel_rfl)) ?_
               try go_wp2
               have n0_:=Sd.mk (Kd.R_drew HO_5.out)
               have n1_:=Sd.mk (Kd.N_drew HO_6.out)
               have n2_:=Sd.mk (Kd.R_drew HO_9.out)
               have n3_:=Sd.mk (Kd.N_drew HO_10.out)
               have n4_:=Sd.mk (Kd.V_drew HL218_0.out)
               have n5_:=Sd.mk (Kd.V_drew HL219_0.out)
               have n6_:=Sd.mk (Kd.C_drew HR218_0.out)
               have n7_:=Sd.mk (Kd.C_drew HR219_0.out)
               have n8_:=Sd.mk (below_drew1 HB.out)
               clear HO_5
               clear HO_6
               clear HO_9
               clear HO_10
               clear HL218_0
               clear HL219_0
               clear HR218_0
               clear HR219_0
               clear HB
               have HO_5:=n0_
               have HO_6:=n1_
               have HO_9:=n2_
               have HO_10:=n3_
               have HL218_0:=n4_
               have HL219_0:=n5_
               have HR218_0:=n6_
               have HR219_0:=n7_
               have HB:=n8_
               clear n0_ n1_ n2_ n3_ n4_ n5_ n6_ n7_ n8_
               have p221:0≤((ji43):Int):=dz
               have q221:(ji43)<(x9_11.length:Int):=dz
               obtain⟨ad221,e221,hx221_0⟩:=Kd.at_int (Kd.R_reads' HO_9.out).2.2 (ji43) p221 q221
               cases e221
               replace p221:=eq_true p221
               replace q221:=eq_true q221
               have p222:0≤(0:Int):=(by omega)
               have q222:0<(t183.length:Int):=dz
               obtain⟨ad222,e222,hx222_0⟩:=Kd.at_int (Kd.R_reads' HO_5.out).2.2 0 p222 q222
               cases e222
               have qi222:(0<t183.length)=True:=eq_true (by omega)
               (try rw[show ((0:Int)).toNat=0 from rfl] at hx222_0)
               (try rw[Addr.add_zero'] at hx222_0)
               replace p222:=eq_true p222
               replace q222:=eq_true q222
               have p51:0≤((ji43):Int):=dz
               have q51:((ji43):Int)<((x9_11.length:Int):Int):=dz
               obtain⟨go51,co51,eo51,gb51,gl51,cl51,HG51⟩:=Kd.R_form HO_9.out (by omega)
               (first|cases eo51|(injection eo51 with ea_ en_ ec_;(first|subst ea_|(injection ea_ with ea_;subst ea_));subst ec_;clear en_))
               have GB51:=Sd.mk gb51
               have GG51:=Sd.mk HG51
               clear gb51 gl51 HG51
               (first|simp only[add_plain] at hx221_0|skip)
               obtain⟨hx51_0,hf51_0⟩:=Kd.R_celln 0 HO_9.out ((ji43):Int) p51 q51
               replace p51:=eq_true p51
               replace q51:=eq_true q51
               have HP63:=Kd.R_putn HO_9.out ((ji43):Int) (wrap64 ((rd x9_11 (ji43))+(rd t183 0)))
               rw[← Ny223.out] at HP63
               have HQ63:=Sd.mk HP63
               clear HP63
               refine start_ (n:=12) (S:=fun w'=>w'.cell? ⟨go51,((ji43)).toNat,none⟩=some (.int .i64 (rd x9_11 (ji43)))∧w'.cell? ad222=some (.int .i64 (rd t183 0))) (ds:=[11]) #[F,F,F,F,F,F,F,F,F,F,F,F] (by kernel_rfl) rfl rfl ⟨hx221_0,hx222_0⟩ (fun hHeld=>?_);refine with_tabW spec_l2Add.tab15 spec_l2Add.bits15 (fun HT_ HW_=>?_)
               generalize w61.drew=w62 at HO_5 HO_6 HO_9 HO_10 HL218_0 HL219_0 HR218_0 HR219_0 HB GG51 HQ63 hf51_0 hx221_0 hx222_0 hx51_0 hHeld ⊢
               refine pq 0 (some 79) HT_.out rfl rfl ?_
               refine pq 1 (some 80) HT_.out rfl rfl ?_
               refine pq 2 (some 81) HT_.out rfl rfl ?_
               refine pq 3 (some 82) HT_.out rfl rfl ?_
               refine pq 4 (some 83) HT_.out rfl rfl ?_
               refine pq 6 (some 85) HT_.out rfl rfl ?_
               refine pq 7 (some 86) HT_.out rfl rfl ?_
               refine take_ (i:=5) (N:=some 84) (v:=?_) (a':=?_) #[T,T,T,T,T,T,T,T,F,F,F,F] rfl rfl (take_ofW HT_.out HW_.out (by kernel_rfl)) (fun _ _ _ h=>h) (Or.inl ⟨by rfl,?_⟩) hHeld ?_ ?_
               rotate_left;(· rintro w' ⟨s0,s1⟩;go_simp;with_reducible rfl);rotate_left;(· simp only[Act.put,s1,s2,s3,i64_w,i32_w];rfl)
               refine take_ (i:=8) (N:=some 87) (v:=?_) (a':=?_) #[T,T,T,T,T,T,T,T,T,F,F,F] rfl rfl (take_ofW HT_.out HW_.out (by kernel_rfl)) (fun _ _ _ h=>h) (Or.inl ⟨by rfl,?_⟩) hHeld ?_ ?_
               rotate_left;(· rintro w' ⟨s0,s1⟩;go_simp;with_reducible rfl);rotate_left;(· simp only[Act.put,s1,s2,s3,i64_w,i32_w];rfl)
               refine pq 9 (some 88) HT_.out rfl rfl ?_
               refine pq 10 (some 89) HT_.out rfl rfl ?_
               refine last_ (i:=11) (N:=none) #[T,T,T,T,T,T,T,T,T,T,T,T] rfl rfl (one_of HT_.out (by kernel_rfl)) (by decide) (fun K hK=>?_)
               refine skip_ (w1:=?_) (by rfl) rfl ?_ ?_
               rotate_left
               ·go_simp
                rfl
               refine hK.out _ _ ?_
               clear hK K
               refine done_ (done_of HT_.out (by kernel_rfl)) ?_
               try go_wp2
               have n0_:Sd (Kd.R (Kd.int .i64) 3 (w62.setCell ⟨go51,((ji43):Int).toNat,none⟩ (.int .i64 (wrap64 ((rd x9_11 (ji43))+(rd t183 0))))) w.heap.size (fun k_=>some k_≠(.slice (some ⟨go51,0,none⟩) x9_11.length co57:Value).ownBlock) (.slice (some ad222) t183.length co14) t183):=⟨Kd.Rz <| Kd.R_mono (Kd.R_far (p:=⟨go51,((ji43):Int).toNat,none⟩) (Kd.R_mono HO_5.out (fun k_ hk=>(⟨hk,fun e_=>hk (by rw[e_];rfl)⟩:_∧k_≠go51))) (fun _ hk=>hk.2) (.int .i64 (wrap64 ((rd x9_11 (ji43))+(rd t183 0))))) (fun _ hk=>hk.1)⟩
               have n1_:Sd (Kd.N (Kd.slice 3 (Kd.int .i64)) 22 (w62.setCell ⟨go51,((ji43):Int).toNat,none⟩ (.int .i64 (wrap64 ((rd x9_11 (ji43))+(rd t183 0))))) w.heap.size (fun k_=>some k_≠(.slice (some ad222) t183.length co14:Value).ownBlock∧some k_≠(.slice (some ⟨go51,0,none⟩) x9_11.length co57:Value).ownBlock∧some k_≠(.slice (some ad218) x10_11.length co59:Value).ownBlock) (.slice (some ad219) t186.length co60) t186):=⟨Kd.Nz <| Kd.N_mono (Kd.N_far (p:=⟨go51,((ji43):Int).toNat,none⟩) (Kd.N_mono HO_6.out (fun k_ hk=>(⟨hk,fun e_=>hk.2.1 (by rw[e_];rfl)⟩:_∧k_≠go51))) (fun _ hk=>hk.2) (.int .i64 (wrap64 ((rd x9_11 (ji43))+(rd t183 0))))) (fun _ hk=>⟨hk.1.1,⟨hk.1.2.1,hk.1.2.2⟩⟩)⟩
               have n2_:Sd (Kd.R (Kd.int .i64) 3 (w62.setCell ⟨go51,((ji43):Int).toNat,none⟩ (.int .i64 (wrap64 ((rd x9_11 (ji43))+(rd t183 0))))) w.heap.size (fun k_=>some k_≠(.slice (some ad222) t183.length co14:Value).ownBlock) (.slice (some ⟨go51,0,none⟩) x9_11.length co57) y223):=⟨by(with_reducible repeat (first|apply Kd.R_alloc|apply Kd.R_drewN|apply Kd.R_drew));exact HQ63.out⟩
               have n3_:Sd (Kd.N (Kd.slice 3 (Kd.int .i64)) 22 (w62.setCell ⟨go51,((ji43):Int).toNat,none⟩ (.int .i64 (wrap64 ((rd x9_11 (ji43))+(rd t183 0))))) w.heap.size (fun k_=>some k_≠(.slice (some ad222) t183.length co14:Value).ownBlock∧some k_≠(.slice (some ad219) t186.length co60:Value).ownBlock∧some k_≠(.slice (some ⟨go51,0,none⟩) x9_11.length co57:Value).ownBlock) (.slice (some ad218) x10_11.length co59) x10_11):=⟨Kd.Nz <| Kd.N_mono (Kd.N_far (p:=⟨go51,((ji43):Int).toNat,none⟩) (Kd.N_mono HO_10.out (fun k_ hk=>(⟨hk,fun e_=>hk.2.2 (by rw[e_];rfl)⟩:_∧k_≠go51))) (fun _ hk=>hk.2) (.int .i64 (wrap64 ((rd x9_11 (ji43))+(rd t183 0))))) (fun _ hk=>⟨hk.1.1,⟨hk.1.2.1,hk.1.2.2⟩⟩)⟩
               have n4_:Sd (Kd.V (Kd.int .i64) 3 (w62.setCell ⟨go51,((ji43):Int).toNat,none⟩ (.int .i64 (wrap64 ((rd x9_11 (ji43))+(rd t183 0))))) w.heap.size (fun k_=>some k_≠(.slice (some ad222) t183.length co14:Value).ownBlock∧some k_≠(.slice (some ad219) t186.length co60:Value).ownBlock∧some k_≠(.slice (some ⟨go51,0,none⟩) x9_11.length co57:Value).ownBlock∧some k_≠(.slice (some ad218) x10_11.length co59:Value).ownBlock) (.slice A218_0 (rd_L1 x10_11 (ji43)).length c218_0) (rd_L1 x10_11 (ji43))):=⟨Kd.Vz <| Kd.V_mono (Kd.V_far (p:=⟨go51,((ji43):Int).toNat,none⟩) (Kd.V_mono HL218_0.out (fun k_ hk=>(⟨hk,fun e_=>hk.1.2.2 (by rw[e_];rfl)⟩:_∧k_≠go51))) (fun _ hk=>hk.2) (.int .i64 (wrap64 ((rd x9_11 (ji43))+(rd t183 0))))) (fun _ hk=>⟨hk.1.1.1,⟨hk.1.1.2.1,⟨hk.1.1.2.2,hk.1.2⟩⟩⟩)⟩
               have n5_:Sd (Kd.V (Kd.int .i64) 3 (w62.setCell ⟨go51,((ji43):Int).toNat,none⟩ (.int .i64 (wrap64 ((rd x9_11 (ji43))+(rd t183 0))))) w.heap.size (fun k_=>some k_≠(.slice (some ad222) t183.length co14:Value).ownBlock∧some k_≠(.slice (some ad219) t186.length co60:Value).ownBlock∧some k_≠(.slice (some ⟨go51,0,none⟩) x9_11.length co57:Value).ownBlock∧some k_≠(.slice (some ad218) x10_11.length co59:Value).ownBlock) (.slice A219_0 (rd_L1 t186 0).length c219_0) (rd_L1 t186 0)):=⟨Kd.Vz <| Kd.V_mono (Kd.V_far (p:=⟨go51,((ji43):Int).toNat,none⟩) (Kd.V_mono HL219_0.out (fun k_ hk=>(⟨hk,fun e_=>hk.1.2.1 (by rw[e_];rfl)⟩:_∧k_≠go51))) (fun _ hk=>hk.2) (.int .i64 (wrap64 ((rd x9_11 (ji43))+(rd t183 0))))) (fun _ hk=>⟨hk.1.1.1,⟨hk.1.2,⟨hk.1.1.2.1,hk.1.1.2.2⟩⟩⟩)⟩
               have n6_:Sd (Below w.heap.size w (w62.setCell ⟨go51,((ji43):Int).toNat,none⟩ (.int .i64 (wrap64 ((rd x9_11 (ji43))+(rd t183 0)))))):=⟨by repeat (first|(with_reducible first|exact HB.out|apply below_alloc|apply pw_below_drewN|apply below_drew1|refine below_set ?_ GB51.out)|exact HB.out)⟩
               (try clear HO_5)
               (try clear HO_6)
               (try clear HO_9)
               (try clear HO_10)
               (try clear HL218_0)
               (try clear HL219_0)
               (try clear HB)
               generalize (w62.setCell ⟨go51,((ji43):Int).toNat,none⟩ (.int .i64 (wrap64 ((rd x9_11 (ji43))+(rd t183 0)))))=w64 at n0_ n1_ n2_ n3_ n4_ n5_ n6_ ⊢
               have HO_5:=n0_
               have HO_6:=n1_
               have HO_9:=n2_
               have HO_10:=n3_
               have HL218_0:=n4_
               have HL219_0:=n5_
               have HB:=n6_
               clear n0_ n1_ n2_ n3_ n4_ n5_ n6_
               have n0_:=Sd.mk (Kd.R_drew HO_5.out)
               have n1_:=Sd.mk (Kd.N_drew HO_6.out)
               have n2_:=Sd.mk (Kd.R_drew HO_9.out)
               have n3_:=Sd.mk (Kd.N_drew HO_10.out)
               have n4_:=Sd.mk (Kd.V_drew HL218_0.out)
               have n5_:=Sd.mk (Kd.V_drew HL219_0.out)
               have n6_:=Sd.mk (below_drew1 HB.out)
               clear HO_5
               clear HO_6
               clear HO_9
               clear HO_10
               clear HL218_0
               clear HL219_0
               clear HB
               have HO_5:=n0_
               have HO_6:=n1_
               have HO_9:=n2_
               have HO_10:=n3_
               have HL218_0:=n4_
               have HL219_0:=n5_
               have HB:=n6_
               clear n0_ n1_ n2_ n3_ n4_ n5_ n6_
               have q66:(1:Int)≤((t183.length:Int):Int):=dz
               obtain⟨i066,hi066,_,hsz66,_⟩:=info_parts info3
               have hroom66:t183.length≤co14:=(Kd.R_reads' HO_5.out).2.1
               have hC66:Kd.F (Kd.int .i64) _ _ (some ad222) t183.length t183:=(Kd.V_at (base:=w.heap.size) (Kd.R_V (Kd.R_apart' (Kd.R_apart' (HO_5.out) (Kd.N_typed HO_6.out) (by decide)) (Kd.N_typed HO_10.out) (by decide)))).2.2
               have hcut66:=cut_from (P:=Try.prog) 22 3 .i64 Try.underlying22 hi066 1 hsz66 (some ad222) t183.length co14 1 (by omega) q66
               have hr66:=Kd.F_cut (m:=(1:Int).toNat) (c:=co14) hC66 (by omega) hroom66
               obtain⟨A66,hA66⟩:∃ Aq_,Aq_=(if co14=(1:Int).toNat then(some ad222) else((some ad222):Option Addr).map (·.add ((1:Int).toNat*1))):=⟨_,rfl⟩
               obtain⟨c66,hc66⟩:∃ cq_,cq_=co14-(1:Int).toNat:=⟨_,rfl⟩
               have hy66:y224.length=t183.length-(1:Int).toNat:=(by rw[Ny224.out,List.length_drop]<;>omega)
               rw[show (t183).drop (1:Int).toNat=y224 from Ny224.out.symm] at hr66
               replace hr66:Kd.F (Kd.int .i64) _ _ A66 y224.length y224:=(by rw[hA66];exact hr66)
               rw[← hy66,← hA66,← hc66] at hcut66
               have HO228:=Sd.mk (show Kd.V (Kd.int .i64) 3 _ w.heap.size _ (.slice A66 y224.length c66) y224 from Kd.V_mk (by rw[hy66,hc66];exact Nat.sub_le_sub_right hroom66 _) hr66)
               have HC228:=Sd.mk (show y224.length≤c66 from by rw[hy66,hc66];exact Nat.sub_le_sub_right hroom66 _)
               clear hr66 hC66 hroom66 hi066 hsz66 hc66
               have KY66:=Sd.mk hy66
               have KA66:=Sd.mk hA66
               clear hy66 hA66
               replace q66:=eq_true q66
               have q67:(1:Int)≤((t186.length:Int):Int):=dz
               obtain⟨i067,hi067,_,hsz67,_⟩:=info_parts info22
               have hroom67:t186.length≤co60:=(Kd.N_reads' HO_6.out).2.1
               have hC67:Kd.F (Kd.slice 3 (Kd.int .i64)) _ _ (some ad219) t186.length t186:=(Kd.V_at (base:=w.heap.size) (Kd.N_V HO_6.out)).2.2
               have hcut67:=cut_from (P:=Try.prog) 52 22 .i64 Try.underlying52 hi067 1 hsz67 (some ad219) t186.length co60 1 (by omega) q67
               have hr67:=Kd.F_cut (m:=(1:Int).toNat) (c:=co60) hC67 (by omega) hroom67
               obtain⟨A67,hA67⟩:∃ Aq_,Aq_=(if co60=(1:Int).toNat then(some ad219) else((some ad219):Option Addr).map (·.add ((1:Int).toNat*1))):=⟨_,rfl⟩
               obtain⟨c67,hc67⟩:∃ cq_,cq_=co60-(1:Int).toNat:=⟨_,rfl⟩
               have hy67:y232.length=t186.length-(1:Int).toNat:=(by rw[Ny232.out,List.length_drop]<;>omega)
               rw[show (t186).drop (1:Int).toNat=y232 from Ny232.out.symm] at hr67
               replace hr67:Kd.F (Kd.slice 3 (Kd.int .i64)) _ _ A67 y232.length y232:=(by rw[hA67];exact hr67)
               rw[← hy67,← hA67,← hc67] at hcut67
               have HO236:=Sd.mk (show Kd.V (Kd.slice 3 (Kd.int .i64)) 22 _ w.heap.size _ (.slice A67 y232.length c67) y232 from Kd.V_mk (by rw[hy67,hc67];exact Nat.sub_le_sub_right hroom67 _) hr67)
               have HC236:=Sd.mk (show y232.length≤c67 from by rw[hy67,hc67];exact Nat.sub_le_sub_right hroom67 _)
               clear hr67 hC67 hroom67 hi067 hsz67 hc67
               have KY67:=Sd.mk hy67
               have KA67:=Sd.mk hA67
               clear hy67 hA67
               replace q67:=eq_true q67
               refine start_ (n:=12) (S:=fun w'=>True) (ds:=[]) #[F,F,F,F,F,F,F,F,F,F,F,F] (by kernel_rfl) rfl rfl trivial (fun hHeld=>?_);refine with_tabW spec_l2Add.tab17 spec_l2Add.bits17 (fun HT_ HW_=>?_)
               generalize w64.drew=w65 at HO_5 HO_6 HO_9 HO_10 HL218_0 HL219_0 HB HO228 HO236 HQ63 hHeld ⊢
               refine pq 0 (some 90) HT_.out rfl rfl ?_
               refine pq 1 (some 91) HT_.out rfl rfl ?_
               refine pq 2 (some 92) HT_.out rfl rfl ?_
               refine pq 3 (some 93) HT_.out rfl rfl ?_
               refine pq 5 (some 95) HT_.out rfl rfl ?_
               refine pq 6 (some 96) HT_.out rfl rfl ?_
               refine pq 7 (some 97) HT_.out rfl rfl ?_
               refine pq 8 (some 98) HT_.out rfl rfl ?_
               refine one_ (i:=4) (N:=some 94) #[T,T,T,T,T,T,T,T,T,F,F,F] rfl rfl (one_of HT_.out (by kernel_rfl)) (by decide) (fun K hK=>?_)
               refine Kd.R_append_rows_step (Kd.int .i64) (w0:=w) w.heap.size (by rfl) (.tmp 90) (.tmp 93) 22 3 (.int .i64 0) 8 rfl Try.underlying22 info3 rfl (by decide) (by omega) (.slice (some ⟨go51,0,none⟩) x9_11.length co57) y223 y224 _ _ _ (fun k_=>some k_≠(.slice (some ad222) t183.length co14:Value).ownBlock) (fun _=>False) rfl rfl ?aO ?aR (fun _ _ h=>h) (fun _ h=>h.elim) ?aF ?aB ?aS ?aL ?_
               (case aR=>repeat (first|exact(Kd.V_reads' HO228.out).2.2|(with_reducible refine Kd.C_alloc ?_ _)|(with_reducible refine Kd.C_drewN ?_ _)|(with_reducible refine Kd.C_drew ?_)))
               (case aB=>exact bz)
               (case aF=>exact(fun k_ hk=>Kd.fresh' (Kd.R_lt (Kd.Rz HO_5.out)) k_ hk))
               (case aO=>exact(Kd.Rz HO_9.out))
               (case aS=>exact(below_size bz))
               (case aL=>have:=LMc53.out;omega)
               intro v230 w68 ho hb hg hat
               rw[← Ny229.out] at ho
               have n0_:=Sd.mk (Kd.R_after (ok:=(fun _=>True)) (Kd.Rz <| Kd.R_mono HO_5.out (fun _ hk=>⟨trivial,hk⟩)) hg hat)
               have n1_:=Sd.mk (Kd.N_afterv (ok:=(fun k_=>some k_≠(.slice (some ad222) t183.length co14:Value).ownBlock∧some k_≠(.slice (some ad218) x10_11.length co59:Value).ownBlock)) (Kd.Nz <| Kd.N_mono HO_6.out (fun _ hk=>⟨⟨hk.1,hk.2.2⟩,hk.2.1⟩)) hg hat)
               have n2_:=Sd.mk (Kd.N_afterv (ok:=(fun k_=>some k_≠(.slice (some ad222) t183.length co14:Value).ownBlock∧some k_≠(.slice (some ad219) t186.length co60:Value).ownBlock)) (Kd.Nz <| Kd.N_mono HO_10.out (fun _ hk=>⟨⟨hk.1,hk.2.1⟩,hk.2.2⟩)) hg hat)
               have n3_:=Sd.mk (Kd.V_afterv (ok:=(fun k_=>some k_≠(.slice (some ad222) t183.length co14:Value).ownBlock∧some k_≠(.slice (some ad219) t186.length co60:Value).ownBlock∧some k_≠(.slice (some ad218) x10_11.length co59:Value).ownBlock)) (Kd.Vz <| Kd.V_mono HL218_0.out (fun _ hk=>⟨⟨hk.1,⟨hk.2.1,hk.2.2.2⟩⟩,hk.2.2.1⟩)) hg hat)
               have n4_:=Sd.mk (Kd.V_afterv (ok:=(fun k_=>some k_≠(.slice (some ad222) t183.length co14:Value).ownBlock∧some k_≠(.slice (some ad219) t186.length co60:Value).ownBlock∧some k_≠(.slice (some ad218) x10_11.length co59:Value).ownBlock)) (Kd.Vz <| Kd.V_mono HL219_0.out (fun _ hk=>⟨⟨hk.1,⟨hk.2.1,hk.2.2.2⟩⟩,hk.2.2.1⟩)) hg hat)
               have n5_:=Sd.mk (Kd.V_afterv (ok:=(fun k_=>some k_≠(.slice (some ad219) t186.length co60:Value).ownBlock∧some k_≠(.slice (some ad218) x10_11.length co59:Value).ownBlock)) (Kd.Vz <| Kd.V_mono HO228.out (fun _ hk=>⟨⟨hk.1.2,hk.2⟩,hk.1.1⟩)) hg hat)
               have n6_:=Sd.mk (Kd.V_afterv (ok:=(fun k_=>some k_≠(.slice (some ad222) t183.length co14:Value).ownBlock∧some k_≠(.slice (some ad218) x10_11.length co59:Value).ownBlock)) (Kd.Vz <| Kd.V_mono HO236.out (fun _ hk=>⟨⟨hk.1,hk.2.2⟩,hk.2.1⟩)) hg hat)
               have n7_:=Sd.mk (hb)
               have n8_:=Sd.mk (ho)
               clear HO_5
               clear HO_6
               clear HO_10
               clear HL218_0
               clear HL219_0
               clear HO228
               clear HO236
               clear HB
               clear HO_9
               have HO_5:=n0_
               have HO_6:=n1_
               have HO_10:=n2_
               have HL218_0:=n3_
               have HL219_0:=n4_
               have HO228:=n5_
               have HO236:=n6_
               have HB:=n7_
               have HO231:=n8_
               clear n0_ n1_ n2_ n3_ n4_ n5_ n6_ n7_ n8_
               clear ho hb hg hat
               refine hK.out _ _ trivial (fun hHeld=>?_)
               clear hK K
               refine norm_ (a':=?_) ?_ ?_
               rotate_left
               ·show Act.put _ (some 94) _=_
                simp only[Act.put,s1,s2,s3,i64_w,i32_w]
                rfl
               refine one_ (i:=9) (N:=some 99) #[T,T,T,T,T,T,T,T,T,T,F,F] rfl rfl (one_of HT_.out (by kernel_rfl)) (by decide) (fun K hK=>?_)
               refine Kd.N_append_rows_step (Kd.slice 3 (Kd.int .i64)) (w0:=w) w.heap.size (by rfl) (.tmp 95) (.tmp 98) 52 22 (.slice none 0 0) 24 rfl Try.underlying52 info22 rfl (by decide) (by omega) (.slice (some ad218) x10_11.length co59) x10_11 y232 _ _ _ (fun k_=>some k_≠(.slice (some ad222) t183.length co14:Value).ownBlock∧some k_≠(v230:Value).ownBlock) (fun k_=>((fun k_=>some k_≠(.slice (some ad222) t183.length co14:Value).ownBlock∧some k_≠(v230:Value).ownBlock)) k_∧some k_≠(.slice (some ad218) x10_11.length co59:Value).ownBlock) rfl rfl ?aO ?aR (fun _ hk=>hk) ?aF ?aB ?aS ?aL ?_
               (case aR=>exact(by skip;exact Kd.V_F (Kd.V_mono (ok':=(fun k_=>((fun k_=>some k_≠(.slice (some ad222) t183.length co14:Value).ownBlock∧some k_≠(v230:Value).ownBlock)) k_∧some k_≠(.slice (some ad218) x10_11.length co59:Value).ownBlock)) (HO236.out) (fun k_ hk=>⟨⟨hk.1.1,hk.2⟩,hk.1.2⟩))))
               (case aB=>exact bz)
               (case aF=>exact(fun k_ hk=>⟨Kd.fresh' (Kd.R_lt (Kd.Rz HO_5.out)) k_ hk,Kd.fresh' (Kd.R_lt (Kd.Rz HO231.out)) k_ hk⟩))
               (case aO=>exact(Kd.Nz <| Kd.N_mono HO_10.out (fun _ hk=>⟨hk.1.1,hk.2⟩)))
               (case aS=>exact(below_size bz))
               (case aL=>have:=LMc55.out;omega)
               intro v238 w69 ho hb hg hat
               rw[← Ny237.out] at ho
               have n0_:=Sd.mk (Kd.R_over' (Kd.Rz HO_5.out) (Kd.N_typed (Kd.Nz HO_10.out)) (by decide) hg)
               have n1_:=Sd.mk (Kd.N_afterv (ok:=(fun k_=>some k_≠(.slice (some ad222) t183.length co14:Value).ownBlock∧some k_≠(v230:Value).ownBlock)) (Kd.Nz <| Kd.N_mono HO_6.out (fun _ hk=>⟨⟨hk.1.1,hk.2⟩,hk.1.2⟩)) hg hat)
               have n2_:=Sd.mk (Kd.V_afterv (ok:=(fun k_=>some k_≠(.slice (some ad222) t183.length co14:Value).ownBlock∧some k_≠(.slice (some ad219) t186.length co60:Value).ownBlock∧some k_≠(v230:Value).ownBlock)) (Kd.Vz <| Kd.V_mono HL218_0.out (fun _ hk=>⟨⟨hk.1.1,⟨hk.1.2.1,hk.2⟩⟩,hk.1.2.2⟩)) hg hat)
               have n3_:=Sd.mk (Kd.V_afterv (ok:=(fun k_=>some k_≠(.slice (some ad222) t183.length co14:Value).ownBlock∧some k_≠(.slice (some ad219) t186.length co60:Value).ownBlock∧some k_≠(v230:Value).ownBlock)) (Kd.Vz <| Kd.V_mono HL219_0.out (fun _ hk=>⟨⟨hk.1.1,⟨hk.1.2.1,hk.2⟩⟩,hk.1.2.2⟩)) hg hat)
               have n4_:=Sd.mk (Kd.V_afterv (ok:=(fun k_=>some k_≠(.slice (some ad219) t186.length co60:Value).ownBlock∧some k_≠(v230:Value).ownBlock)) (Kd.Vz <| Kd.V_mono HO228.out (fun _ hk=>⟨⟨hk.1.1,hk.2⟩,hk.1.2⟩)) hg hat)
               have n5_:=Sd.mk (Kd.V_afterv (ok:=(fun k_=>some k_≠(.slice (some ad222) t183.length co14:Value).ownBlock∧some k_≠(v230:Value).ownBlock)) (Kd.Vz <| Kd.V_mono HO236.out (fun _ hk=>⟨⟨hk.1.1,hk.2⟩,hk.1.2⟩)) hg hat)
               have n6_:=Sd.mk (Kd.R_over' (Kd.Rz HO231.out) (Kd.N_typed (Kd.Nz HO_10.out)) (by decide) hg)
               have n7_:=Sd.mk (hb)
               have n8_:=Sd.mk (ho)
               clear HO_5
               clear HO_6
               clear HL218_0
               clear HL219_0
               clear HO228
               clear HO236
               clear HO231
               clear HB
               clear HO_10
               have HO_5:=n0_
               have HO_6:=n1_
               have HL218_0:=n2_
               have HL219_0:=n3_
               have HO228:=n4_
               have HO236:=n5_
               have HO231:=n6_
               have HB:=n7_
               have HO239:=n8_
               clear n0_ n1_ n2_ n3_ n4_ n5_ n6_ n7_ n8_
               clear ho hb hg hat
               obtain⟨Ao70,co70,eo70⟩:=Kd.R_slice HO231.out
               (first|subst eo70|(injection eo70 with f1_ f2_ f3_;have f4_:=f1_.symm;have f5_:=f3_.symm;clear f1_ f2_ f3_;subst f4_;subst f5_))
               obtain⟨Ao71,co71,eo71⟩:=Kd.N_slice HO239.out
               (first|subst eo71|(injection eo71 with f1_ f2_ f3_;have f4_:=f1_.symm;have f5_:=f3_.symm;clear f1_ f2_ f3_;subst f4_;subst f5_))
               refine hK.out _ _ trivial (fun hHeld=>?_)
               clear hK K
               refine norm_ (a':=?_) ?_ ?_
               rotate_left
               ·show Act.put _ (some 99) _=_
                simp only[Act.put,s1,s2,s3,i64_w,i32_w]
                rfl
               refine one_ (i:=10) (N:=some 100) #[T,T,T,T,T,T,T,T,T,T,T,F] rfl rfl (one_of HT_.out (by kernel_rfl)) (by decide) (fun K hK=>?_)
               refine goes_ Try.func54 (by kernel_rfl) rfl #[.slice Ao70 y229.length co70,.slice Ao71 y237.length co71] (by rfl) rfl rfl az ?_
               with_reducible refine(spec_l1Make.calls kj11 _ _ y229 _ _ y237 t240 _ ?side1 ?side2 ?side3 ?side4 A56.out).mono ?_
               (case side1=>exact Kd.Cz (Kd.R_reads' HO231.out).2.2)
               (case side2=>exact(Kd.R_reads' HO231.out).2.1)
               (case side3=>exact Kd.Cz (Kd.N_reads' HO239.out).2.2)
               (case side4=>exact(Kd.N_reads' HO239.out).2.1)
               rintro e w72 ⟨v241,rfl,ho0,hb⟩
               refine⟨_,rfl,?_⟩
               have n0_:=Sd.mk (Kd.R_elder' (Kd.Rz HO_5.out) (Kd.R_base ho0) hb)
               have n1_:=Sd.mk (Kd.N_elder' (Kd.Nz HO_6.out) (Kd.R_base ho0) hb)
               have n2_:=Sd.mk (Kd.V_elder' (Kd.Vz HL218_0.out) (Kd.R_base ho0) hb)
               have n3_:=Sd.mk (Kd.V_elder' (Kd.Vz HL219_0.out) (Kd.R_base ho0) hb)
               have n4_:=Sd.mk (Kd.V_elder' (Kd.Vz HO228.out) (Kd.R_base ho0) hb)
               have n5_:=Sd.mk (Kd.V_elder' (Kd.Vz HO236.out) (Kd.R_base ho0) hb)
               have n6_:=Sd.mk (Kd.R_elder' (Kd.Rz HO231.out) (Kd.R_base ho0) hb)
               have n7_:=Sd.mk (Kd.N_elder' (Kd.Nz HO239.out) (Kd.R_base ho0) hb)
               have n8_:=Sd.mk (Kd.R_lower (Kd.R_new' (Kd.R_new' ho0 (Kd.R_lt (Kd.Rz HO_5.out))) (Kd.R_lt (Kd.Rz HO231.out))) (below_size bz))
               have n9_:=Sd.mk (below_step bz hb)
               clear HO_5
               clear HO_6
               clear HL218_0
               clear HL219_0
               clear HO228
               clear HO236
               clear HO231
               clear HO239
               clear HB
               have HO_5:=n0_
               have HO_6:=n1_
               have HL218_0:=n2_
               have HL219_0:=n3_
               have HO228:=n4_
               have HO236:=n5_
               have HO231:=n6_
               have HO239:=n7_
               have HO242:=n8_
               have HB:=n9_
               clear n0_ n1_ n2_ n3_ n4_ n5_ n6_ n7_ n8_ n9_
               (try clear hb)
               (try clear hb2)
               (try clear hk)
               (try clear hi)
               (try clear ho0)
               refine hK.out _ _ trivial (fun hHeld=>?_)
               clear hK K
               refine norm_ (a':=?_) ?_ ?_
               rotate_left
               ·show Act.put _ (some 100) _=_
                simp only[Act.put,s1,s2,s3,i64_w,i32_w]
                rfl
               refine pq 11 (some 4) HT_.out rfl rfl ?_
               refine done_ (done_of HT_.out (by kernel_rfl)) ?_
               try go_wp2
               go_ret
               exact⟨_,by first|rfl|(simp[errW_none,errW_some]<;>rfl)|(simp only[← hji43];first|rfl|(simp[errW_none,errW_some]<;>rfl))|(simp[*,errW_none,errW_some]<;>rfl),Kd.Rz <| Kd.R_mono HO242.out (fun _ hk=>trivial),bz⟩
              ·rw[if_neg c55] at H
               exact absurd H (by simp)
             ·rw[if_neg c54] at H
              exact absurd H (by simp)
            ·rw[if_neg c53] at H
             exact absurd H (by simp)
           ·rw[if_neg c52] at H
            exact absurd H (by simp)
          ·rw[if_neg c50] at H
           exact absurd H (by simp)
         ·rw[if_neg c49] at H
          exact absurd H (by simp)
        ·rw[if_neg c48] at H
         have c48b0:(t220 == 0)=false:=beq_eq_false_iff_ne.mpr c48
         have c48b1:(t220 != 0)=true:=bne_iff_ne.mpr c48
         by_cases c73:0≤(t183.length:Int)
         ·rw[if_pos c73] at H
          have c73b0:=eq_true c73
          have c73b1:decide (0≤(t183.length:Int))=true:=decide_eq_true c73
          clear c73
          obtain⟨y243,hy243⟩:∃ y_:List Int,y_=(t183.drop 0):=⟨_,rfl⟩
          replace H:(if x9_11.length+y243.length<17592186044416 then(if 0≤(t186.length:Int) then((some (t186.drop 0:List (List Int))).bind fun y251=>(if x10_11.length+y251.length<5864062014805 then((spec_l1Make.f kj11 (x9_11++y243) (x10_11++y251)).bind fun t259=>(some t259)) else(none))) else(none)) else(none))=some r:=hz hy243 H
          have Ny243:=Sd.mk hy243
          clear hy243
          by_cases c74:x9_11.length+y243.length<17592186044416
          ·rw[if_pos c74] at H
           have LMc74:=Sd.mk c74
           clear c74
           obtain⟨y248,hy248⟩:∃ y_:List Int,y_=(x9_11++y243):=⟨_,rfl⟩
           replace H:(if 0≤(t186.length:Int) then((some (t186.drop 0:List (List Int))).bind fun y251=>(if x10_11.length+y251.length<5864062014805 then((spec_l1Make.f kj11 y248 (x10_11++y251)).bind fun t259=>(some t259)) else(none))) else(none))=some r:=hz hy248 H
           have Ny248:=Sd.mk hy248
           clear hy248
           by_cases c75:0≤(t186.length:Int)
           ·rw[if_pos c75] at H
            have c75b0:=eq_true c75
            have c75b1:decide (0≤(t186.length:Int))=true:=decide_eq_true c75
            clear c75
            obtain⟨y251,hy251⟩:∃ y_:List (List Int),y_=(t186.drop 0):=⟨_,rfl⟩
            replace H:(if x10_11.length+y251.length<5864062014805 then((spec_l1Make.f kj11 y248 (x10_11++y251)).bind fun t259=>(some t259)) else(none))=some r:=hz hy251 H
            have Ny251:=Sd.mk hy251
            clear hy251
            by_cases c76:x10_11.length+y251.length<5864062014805
            ·rw[if_pos c76] at H
             have LMc76:=Sd.mk c76
             clear c76
             obtain⟨y256,hy256⟩:∃ y_:List (List Int),y_=(x10_11++y251):=⟨_,rfl⟩
             replace H:((spec_l1Make.f kj11 y248 y256).bind fun t259=>(some t259))=some r:=hz hy256 H
             have Ny256:=Sd.mk hy256
             clear hy256
             replace H:=Option.bind_eq_some_iff.mp H
             obtain⟨t259,A770,H⟩:=H
             replace H:(some t259)=some r:=H
             have A77:=Sd.mk A770
             clear A770
             obtain rfl:=Option.some.inj H
             obtain⟨Ao78,co78,eo78⟩:=Kd.R_slice HO_9.out
             subst eo78
             try go_wp2
             have n0_:=Sd.mk (Kd.R_drew HO_5.out)
             have n1_:=Sd.mk (Kd.N_drew HO_6.out)
             have n2_:=Sd.mk (Kd.R_drew HO_9.out)
             have n3_:=Sd.mk (Kd.N_drew HO_10.out)
             have n4_:=Sd.mk (below_drew1 HB.out)
             clear HO_5
             clear HO_6
             clear HO_9
             clear HO_10
             clear HB
             have HO_5:=n0_
             have HO_6:=n1_
             have HO_9:=n2_
             have HO_10:=n3_
             have HB:=n4_
             clear n0_ n1_ n2_ n3_ n4_
             obtain⟨Ao80,co80,eo80⟩:=Kd.N_slice HO_10.out
             (first|subst eo80|(injection eo80 with f1_ f2_ f3_;have f4_:=f1_.symm;have f5_:=f3_.symm;clear f1_ f2_ f3_;subst f4_;subst f5_))
             have p218:0≤((ji43):Int):=dz
             have q218:(ji43)<(x10_11.length:Int):=dz
             obtain⟨ad218,A218_0,c218_0,e218,hx218_0,hl218_0,hi218_0⟩:=at_L1 (Kd.N_reads' HO_10.out).2.2 (ji43) p218 q218
             cases e218
             obtain⟨ce218,hce218,hMe218,hcc218⟩:=Kd.N_get HO_10.out [] (ji43) p218 (by first|exact q218|exact dz|(have e_:=(Kd.N_reads' HO_10.out).1;omega))
             obtain⟨ua218_0,uc218_0,rfl,ul218_0,ge218_0⟩:=Kd.FK_slice_open hMe218
             have hv218_0:=hcc218 0 _ rfl
             rw[Nat.add_zero,show ((Kd.slice 3 (Kd.int .i64))).sz=1 from rfl,Nat.mul_one] at hv218_0
             replace hv218_0:=Option.some.inj (hv218_0.symm.trans hx218_0)
             injection hv218_0 with hva_ hvn_ hvc_
             rw[hva_] at ge218_0
             rw[hvc_] at ul218_0
             have HL218_0:=Sd.mk (show Kd.V (Kd.int .i64) 3 _ w.heap.size _ _ (rd_L1 x10_11 (ji43)) from Kd.V_mk ul218_0 ge218_0)
             clear hva_ hvn_ hvc_ ge218_0 ul218_0
             clear hcc218 hce218
             have HR218_0:=Sd.mk hi218_0
             have HC218_0:=Sd.mk hl218_0
             clear hi218_0 hl218_0
             replace p218:=eq_true p218
             replace q218:=eq_true q218
             obtain⟨Ao81,co81,eo81⟩:=Kd.N_slice HO_6.out
             (first|subst eo81|(injection eo81 with f1_ f2_ f3_;have f4_:=f1_.symm;have f5_:=f3_.symm;clear f1_ f2_ f3_;subst f4_;subst f5_))
             have p219:0≤(0:Int):=(by omega)
             have q219:0<(t186.length:Int):=dz
             obtain⟨ad219,A219_0,c219_0,e219,hx219_0,hl219_0,hi219_0⟩:=at_L1 (Kd.N_reads' HO_6.out).2.2 0 p219 q219
             cases e219
             obtain⟨ce219,hce219,hMe219,hcc219⟩:=Kd.N_get HO_6.out [] 0 p219 (by first|exact q219|exact dz|(have e_:=(Kd.N_reads' HO_6.out).1;omega))
             obtain⟨ua219_0,uc219_0,rfl,ul219_0,ge219_0⟩:=Kd.FK_slice_open hMe219
             have hv219_0:=hcc219 0 _ rfl
             rw[Nat.add_zero,show ((Kd.slice 3 (Kd.int .i64))).sz=1 from rfl,Nat.mul_one] at hv219_0
             replace hv219_0:=Option.some.inj (hv219_0.symm.trans hx219_0)
             injection hv219_0 with hva_ hvn_ hvc_
             rw[hva_] at ge219_0
             rw[hvc_] at ul219_0
             have HL219_0:=Sd.mk (show Kd.V (Kd.int .i64) 3 _ w.heap.size _ _ (rd_L1 t186 0) from Kd.V_mk ul219_0 ge219_0)
             clear hva_ hvn_ hvc_ ge219_0 ul219_0
             clear hcc219 hce219
             have qi219:(0<t186.length)=True:=eq_true (by omega)
             (try rw[show ((0:Int)).toNat=0 from rfl] at hx219_0)
             (try rw[Addr.add_zero'] at hx219_0)
             have HR219_0:=Sd.mk hi219_0
             have HC219_0:=Sd.mk hl219_0
             clear hi219_0 hl219_0
             replace p219:=eq_true p219
             replace q219:=eq_true q219
             refine start_ (n:=13) (S:=fun w'=>w'.cell? (ad218.add ((ji43)).toNat)=some (.slice A218_0 (rd_L1 x10_11 (ji43)).length c218_0)∧w'.cell? ad219=some (.slice A219_0 (rd_L1 t186 0).length c219_0)) (ds:=[]) #[F,F,F,F,F,F,F,F,F,F,F,F,F] (by kernel_rfl) rfl rfl ⟨hx218_0,hx219_0⟩ (fun hHeld=>?_);refine with_tabW spec_l2Add.tab14 spec_l2Add.bits14 (fun HT_ HW_=>?_)
             generalize wc.drew=w79 at HO_5 HO_6 HO_9 HO_10 HB HL218_0 HL219_0 HR218_0 HR219_0 hx218_0 hx219_0 hHeld ⊢
             refine pq 0 (some 66) HT_.out rfl rfl ?_
             refine pq 1 (some 67) HT_.out rfl rfl ?_
             refine pq 2 (some 68) HT_.out rfl rfl ?_
             refine pq 3 (some 69) HT_.out rfl rfl ?_
             refine pq 4 (some 70) HT_.out rfl rfl ?_
             refine pq 5 (some 71) HT_.out rfl rfl ?_
             refine pq 7 (some 73) HT_.out rfl rfl ?_
             refine pq 8 (some 74) HT_.out rfl rfl ?_
             refine take_ (i:=6) (N:=some 72) (v:=?_) (a':=?_) #[T,T,T,T,T,T,T,T,T,F,F,F,F] rfl rfl (take_ofW HT_.out HW_.out (by kernel_rfl)) (fun _ _ _ h=>h) (Or.inl ⟨by rfl,?_⟩) hHeld ?_ ?_
             rotate_left;(· rintro w' ⟨s0,s1⟩;go_simp;with_reducible rfl);rotate_left;(· simp only[Act.put,s1,s2,s3,i64_w,i32_w];rfl)
             refine take_ (i:=9) (N:=some 75) (v:=?_) (a':=?_) #[T,T,T,T,T,T,T,T,T,T,F,F,F] rfl rfl (take_ofW HT_.out HW_.out (by kernel_rfl)) (fun _ _ _ h=>h) (Or.inl ⟨by rfl,?_⟩) hHeld ?_ ?_
             rotate_left;(· rintro w' ⟨s0,s1⟩;go_simp;with_reducible rfl);rotate_left;(· simp only[Act.put,s1,s2,s3,i64_w,i32_w];rfl)
             refine one_ (i:=10) (N:=some 76) #[T,T,T,T,T,T,T,T,T,T,T,F,F] rfl rfl (one_of HT_.out (by kernel_rfl)) (by decide) (fun K hK=>?_)
             refine goes_ Try.func53 (by kernel_rfl) rfl #[.slice A218_0 (rd_L1 x10_11 (ji43)).length c218_0,.slice A219_0 (rd_L1 t186 0).length c219_0] (by rfl) rfl rfl (by(try simp only[List.map_toArray,List.map_cons,List.map_nil]);first|done|(simp only[hji43];rfl)|rfl|(simp only[List.length_drop,List.length_take];rfl)) ?_
             with_reducible refine(spec_l1Compare.calls kj11 _ _ (rd_L1 x10_11 (ji43)) _ _ (rd_L1 t186 0) t220 _ ?side1 ?side2 ?side3 ?side4 A47.out).mono ?_
             (case side1=>exact(Kd.Cz HR218_0.out))
             (case side2=>exact HC218_0.out)
             (case side3=>exact(Kd.Cz HR219_0.out))
             (case side4=>exact HC219_0.out)
             rintro e w82 ⟨rfl,hb⟩
             have HS0_:=(hb.cell (World.block_lt_of_cell? _ _ (hHeld.1))).trans (hHeld.1)
             have HS1_:=(hb.cell (World.block_lt_of_cell? _ _ (hHeld.2))).trans (hHeld.2)
             refine⟨_,rfl,?_⟩
             have n0_:=Sd.mk (Kd.R_below (Kd.Rz HO_5.out) hb)
             have n1_:=Sd.mk (Kd.N_below (Kd.Nz HO_6.out) hb)
             have n2_:=Sd.mk (Kd.R_below (Kd.Rz HO_9.out) hb)
             have n3_:=Sd.mk (Kd.N_below (Kd.Nz HO_10.out) hb)
             have n4_:=Sd.mk (Kd.V_below (Kd.Vz HL218_0.out) hb)
             have n5_:=Sd.mk (Kd.V_below (Kd.Vz HL219_0.out) hb)
             have n6_:=Sd.mk (Kd.C_below (Kd.Cz HR218_0.out) hb)
             have n7_:=Sd.mk (Kd.C_below (Kd.Cz HR219_0.out) hb)
             have n8_:=Sd.mk (below_step bz hb)
             clear HO_5
             clear HO_6
             clear HO_9
             clear HO_10
             clear HL218_0
             clear HL219_0
             clear HR218_0
             clear HR219_0
             clear HB
             have HO_5:=n0_
             have HO_6:=n1_
             have HO_9:=n2_
             have HO_10:=n3_
             have HL218_0:=n4_
             have HL219_0:=n5_
             have HR218_0:=n6_
             have HR219_0:=n7_
             have HB:=n8_
             clear n0_ n1_ n2_ n3_ n4_ n5_ n6_ n7_ n8_
             (try clear hb)
             (try clear hb2)
             (try clear hk)
             (try clear hi)
             refine hK.out _ _ ⟨HS0_,HS1_⟩ (fun hHeld=>?_)
             clear hK K
             refine norm_ (a':=?_) ?_ ?_
             rotate_left
             ·show Act.put _ (some 76) _=_
              simp only[Act.put,s1,s2,s3,i64_w,i32_w]
              rfl
             refine pq 11 (some 77) HT_.out rfl rfl ?_
             refine pq 12 (some 78) HT_.out rfl rfl ?_
             refine done_ (done_of HT_.out (by kernel_rfl)) ?_
             try go_wp2
             have n0_:=Sd.mk (Kd.R_drew HO_5.out)
             have n1_:=Sd.mk (Kd.N_drew HO_6.out)
             have n2_:=Sd.mk (Kd.R_drew HO_9.out)
             have n3_:=Sd.mk (Kd.N_drew HO_10.out)
             have n4_:=Sd.mk (Kd.V_drew HL218_0.out)
             have n5_:=Sd.mk (Kd.V_drew HL219_0.out)
             have n6_:=Sd.mk (Kd.C_drew HR218_0.out)
             have n7_:=Sd.mk (Kd.C_drew HR219_0.out)
             have n8_:=Sd.mk (below_drew1 HB.out)
             clear HO_5
             clear HO_6
             clear HO_9
             clear HO_10
             clear HL218_0
             clear HL219_0
             clear HR218_0
             clear HR219_0
             clear HB
             have HO_5:=n0_
             have HO_6:=n1_
             have HO_9:=n2_
             have HO_10:=n3_
             have HL218_0:=n4_
             have HL219_0:=n5_
             have HR218_0:=n6_
             have HR219_0:=n7_
             have HB:=n8_
             clear n0_ n1_ n2_ n3_ n4_ n5_ n6_ n7_ n8_
             have q84:(0:Int)≤((t183.length:Int):Int):=dz
             obtain⟨i084,hi084,_,hsz84,_⟩:=info_parts info3
             have hroom84:t183.length≤co14:=(Kd.R_reads' HO_5.out).2.1
             have hC84:Kd.F (Kd.int .i64) _ _ Ao14 t183.length t183:=(Kd.V_at (base:=w.heap.size) (Kd.R_V (Kd.R_apart' (Kd.R_apart' (HO_5.out) (Kd.N_typed HO_6.out) (by decide)) (Kd.N_typed HO_10.out) (by decide)))).2.2
             have hcut84:=cut_from (P:=Try.prog) 22 3 .i64 Try.underlying22 hi084 1 hsz84 Ao14 t183.length co14 0 (by omega) q84
             have hr84:=Kd.F_cut (m:=(0:Int).toNat) (c:=co14) hC84 (by omega) hroom84
             obtain⟨A84,hA84⟩:∃ Aq_,Aq_=(if co14=(0:Int).toNat then Ao14 else(Ao14:Option Addr).map (·.add ((0:Int).toNat*1))):=⟨_,rfl⟩
             obtain⟨c84,hc84⟩:∃ cq_,cq_=co14-(0:Int).toNat:=⟨_,rfl⟩
             have hy84:y243.length=t183.length-(0:Int).toNat:=(by rw[Ny243.out,List.length_drop]<;>omega)
             rw[show (t183).drop (0:Int).toNat=y243 from Ny243.out.symm] at hr84
             replace hr84:Kd.F (Kd.int .i64) _ _ A84 y243.length y243:=(by rw[hA84];exact hr84)
             rw[← hy84,← hA84,← hc84] at hcut84
             have HO247:=Sd.mk (show Kd.V (Kd.int .i64) 3 _ w.heap.size _ (.slice A84 y243.length c84) y243 from Kd.V_mk (by rw[hy84,hc84];exact Nat.sub_le_sub_right hroom84 _) hr84)
             have HC247:=Sd.mk (show y243.length≤c84 from by rw[hy84,hc84];exact Nat.sub_le_sub_right hroom84 _)
             clear hr84 hC84 hroom84 hi084 hsz84 hc84
             have KY84:=Sd.mk hy84
             have KA84:=Sd.mk hA84
             clear hy84 hA84
             replace q84:=eq_true q84
             have q85:(0:Int)≤((t186.length:Int):Int):=dz
             obtain⟨i085,hi085,_,hsz85,_⟩:=info_parts info22
             have hroom85:t186.length≤co81:=(Kd.N_reads' HO_6.out).2.1
             have hC85:Kd.F (Kd.slice 3 (Kd.int .i64)) _ _ (some ad219) t186.length t186:=(Kd.V_at (base:=w.heap.size) (Kd.N_V HO_6.out)).2.2
             have hcut85:=cut_from (P:=Try.prog) 52 22 .i64 Try.underlying52 hi085 1 hsz85 (some ad219) t186.length co81 0 (by omega) q85
             have hr85:=Kd.F_cut (m:=(0:Int).toNat) (c:=co81) hC85 (by omega) hroom85
             obtain⟨A85,hA85⟩:∃ Aq_,Aq_=(if co81=(0:Int).toNat then(some ad219) else((some ad219):Option Addr).map (·.add ((0:Int).toNat*1))):=⟨_,rfl⟩
             obtain⟨c85,hc85⟩:∃ cq_,cq_=co81-(0:Int).toNat:=⟨_,rfl⟩
             have hy85:y251.length=t186.length-(0:Int).toNat:=(by rw[Ny251.out,List.length_drop]<;>omega)
             rw[show (t186).drop (0:Int).toNat=y251 from Ny251.out.symm] at hr85
             replace hr85:Kd.F (Kd.slice 3 (Kd.int .i64)) _ _ A85 y251.length y251:=(by rw[hA85];exact hr85)
             rw[← hy85,← hA85,← hc85] at hcut85
             have HO255:=Sd.mk (show Kd.V (Kd.slice 3 (Kd.int .i64)) 22 _ w.heap.size _ (.slice A85 y251.length c85) y251 from Kd.V_mk (by rw[hy85,hc85];exact Nat.sub_le_sub_right hroom85 _) hr85)
             have HC255:=Sd.mk (show y251.length≤c85 from by rw[hy85,hc85];exact Nat.sub_le_sub_right hroom85 _)
             clear hr85 hC85 hroom85 hi085 hsz85 hc85
             have KY85:=Sd.mk hy85
             have KA85:=Sd.mk hA85
             clear hy85 hA85
             replace q85:=eq_true q85
             refine start_ (n:=12) (S:=fun w'=>True) (ds:=[]) #[F,F,F,F,F,F,F,F,F,F,F,F] (by kernel_rfl) rfl rfl trivial (fun hHeld=>?_);refine with_tabW spec_l2Add.tab17 spec_l2Add.bits17 (fun HT_ HW_=>?_)
             generalize w82.drew=w83 at HO_5 HO_6 HO_9 HO_10 HL218_0 HL219_0 HR218_0 HR219_0 HB HO247 HO255 hHeld ⊢
             refine pq 0 (some 90) HT_.out rfl rfl ?_
             refine pq 1 (some 91) HT_.out rfl rfl ?_
             refine pq 2 (some 92) HT_.out rfl rfl ?_
             refine pq 3 (some 93) HT_.out rfl rfl ?_
             refine pq 5 (some 95) HT_.out rfl rfl ?_
             refine pq 6 (some 96) HT_.out rfl rfl ?_
             refine pq 7 (some 97) HT_.out rfl rfl ?_
             refine pq 8 (some 98) HT_.out rfl rfl ?_
             refine one_ (i:=4) (N:=some 94) #[T,T,T,T,T,T,T,T,T,F,F,F] rfl rfl (one_of HT_.out (by kernel_rfl)) (by decide) (fun K hK=>?_)
             refine Kd.R_append_rows_step (Kd.int .i64) (w0:=w) w.heap.size (by rfl) (.tmp 90) (.tmp 93) 22 3 (.int .i64 0) 8 rfl Try.underlying22 info3 rfl (by decide) (by omega) (.slice Ao78 x9_11.length co78) x9_11 y243 _ _ _ (fun k_=>some k_≠(.slice Ao14 t183.length co14:Value).ownBlock) (fun _=>False) rfl rfl ?aO ?aR (fun _ _ h=>h) (fun _ h=>h.elim) ?aF ?aB ?aS ?aL ?_
             (case aR=>repeat (first|exact(Kd.V_reads' HO247.out).2.2|(with_reducible refine Kd.C_alloc ?_ _)|(with_reducible refine Kd.C_drewN ?_ _)|(with_reducible refine Kd.C_drew ?_)))
             (case aB=>exact bz)
             (case aF=>exact(fun k_ hk=>Kd.fresh' (Kd.R_lt (Kd.Rz HO_5.out)) k_ hk))
             (case aO=>exact(Kd.Rz HO_9.out))
             (case aS=>exact(below_size bz))
             (case aL=>have:=LMc74.out;omega)
             intro v249 w86 ho hb hg hat
             rw[← Ny248.out] at ho
             have n0_:=Sd.mk (Kd.R_after (ok:=(fun _=>True)) (Kd.Rz <| Kd.R_mono HO_5.out (fun _ hk=>⟨trivial,hk⟩)) hg hat)
             have n1_:=Sd.mk (Kd.N_afterv (ok:=(fun k_=>some k_≠(.slice Ao14 t183.length co14:Value).ownBlock∧some k_≠(.slice (some ad218) x10_11.length co80:Value).ownBlock)) (Kd.Nz <| Kd.N_mono HO_6.out (fun _ hk=>⟨⟨hk.1,hk.2.2⟩,hk.2.1⟩)) hg hat)
             have n2_:=Sd.mk (Kd.N_afterv (ok:=(fun k_=>some k_≠(.slice Ao14 t183.length co14:Value).ownBlock∧some k_≠(.slice (some ad219) t186.length co81:Value).ownBlock)) (Kd.Nz <| Kd.N_mono HO_10.out (fun _ hk=>⟨⟨hk.1,hk.2.1⟩,hk.2.2⟩)) hg hat)
             have n3_:=Sd.mk (Kd.V_afterv (ok:=(fun k_=>some k_≠(.slice Ao14 t183.length co14:Value).ownBlock∧some k_≠(.slice (some ad219) t186.length co81:Value).ownBlock∧some k_≠(.slice (some ad218) x10_11.length co80:Value).ownBlock)) (Kd.Vz <| Kd.V_mono HL218_0.out (fun _ hk=>⟨⟨hk.1.1,⟨hk.1.2.1,hk.2⟩⟩,hk.1.2.2⟩)) hg hat)
             have n4_:=Sd.mk (Kd.V_afterv (ok:=(fun k_=>some k_≠(.slice Ao14 t183.length co14:Value).ownBlock∧some k_≠(.slice (some ad219) t186.length co81:Value).ownBlock∧some k_≠(.slice (some ad218) x10_11.length co80:Value).ownBlock)) (Kd.Vz <| Kd.V_mono HL219_0.out (fun _ hk=>⟨⟨hk.1.1,⟨hk.2,hk.1.2.2⟩⟩,hk.1.2.1⟩)) hg hat)
             have n5_:=Sd.mk (Kd.V_afterv (ok:=(fun k_=>some k_≠(.slice (some ad219) t186.length co81:Value).ownBlock∧some k_≠(.slice (some ad218) x10_11.length co80:Value).ownBlock)) (Kd.Vz <| Kd.V_mono HO247.out (fun _ hk=>⟨⟨hk.1.2,hk.2⟩,hk.1.1⟩)) hg hat)
             have n6_:=Sd.mk (Kd.V_afterv (ok:=(fun k_=>some k_≠(.slice Ao14 t183.length co14:Value).ownBlock∧some k_≠(.slice (some ad218) x10_11.length co80:Value).ownBlock)) (Kd.Vz <| Kd.V_mono HO255.out (fun _ hk=>⟨⟨hk.1,hk.2.2⟩,hk.2.1⟩)) hg hat)
             have n7_:=Sd.mk (hb)
             have n8_:=Sd.mk (ho)
             clear HO_5
             clear HO_6
             clear HO_10
             clear HL218_0
             clear HL219_0
             clear HO247
             clear HO255
             clear HB
             clear HO_9
             have HO_5:=n0_
             have HO_6:=n1_
             have HO_10:=n2_
             have HL218_0:=n3_
             have HL219_0:=n4_
             have HO247:=n5_
             have HO255:=n6_
             have HB:=n7_
             have HO250:=n8_
             clear n0_ n1_ n2_ n3_ n4_ n5_ n6_ n7_ n8_
             clear ho hb hg hat
             refine hK.out _ _ trivial (fun hHeld=>?_)
             clear hK K
             refine norm_ (a':=?_) ?_ ?_
             rotate_left
             ·show Act.put _ (some 94) _=_
              simp only[Act.put,s1,s2,s3,i64_w,i32_w]
              rfl
             refine one_ (i:=9) (N:=some 99) #[T,T,T,T,T,T,T,T,T,T,F,F] rfl rfl (one_of HT_.out (by kernel_rfl)) (by decide) (fun K hK=>?_)
             refine Kd.N_append_rows_step (Kd.slice 3 (Kd.int .i64)) (w0:=w) w.heap.size (by rfl) (.tmp 95) (.tmp 98) 52 22 (.slice none 0 0) 24 rfl Try.underlying52 info22 rfl (by decide) (by omega) (.slice (some ad218) x10_11.length co80) x10_11 y251 _ _ _ (fun k_=>some k_≠(.slice Ao14 t183.length co14:Value).ownBlock∧some k_≠(v249:Value).ownBlock) (fun k_=>((fun k_=>some k_≠(.slice Ao14 t183.length co14:Value).ownBlock∧some k_≠(v249:Value).ownBlock)) k_∧some k_≠(.slice (some ad218) x10_11.length co80:Value).ownBlock) rfl rfl ?aO ?aR (fun _ hk=>hk) ?aF ?aB ?aS ?aL ?_
             (case aR=>exact(by skip;exact Kd.V_F (Kd.V_mono (ok':=(fun k_=>((fun k_=>some k_≠(.slice Ao14 t183.length co14:Value).ownBlock∧some k_≠(v249:Value).ownBlock)) k_∧some k_≠(.slice (some ad218) x10_11.length co80:Value).ownBlock)) (HO255.out) (fun k_ hk=>⟨⟨hk.1.1,hk.2⟩,hk.1.2⟩))))
             (case aB=>exact bz)
             (case aF=>exact(fun k_ hk=>⟨Kd.fresh' (Kd.R_lt (Kd.Rz HO_5.out)) k_ hk,Kd.fresh' (Kd.R_lt (Kd.Rz HO250.out)) k_ hk⟩))
             (case aO=>exact(Kd.Nz <| Kd.N_mono HO_10.out (fun _ hk=>⟨hk.1.1,hk.2⟩)))
             (case aS=>exact(below_size bz))
             (case aL=>have:=LMc76.out;omega)
             intro v257 w87 ho hb hg hat
             rw[← Ny256.out] at ho
             have n0_:=Sd.mk (Kd.R_over' (Kd.Rz HO_5.out) (Kd.N_typed (Kd.Nz HO_10.out)) (by decide) hg)
             have n1_:=Sd.mk (Kd.N_afterv (ok:=(fun k_=>some k_≠(.slice Ao14 t183.length co14:Value).ownBlock∧some k_≠(v249:Value).ownBlock)) (Kd.Nz <| Kd.N_mono HO_6.out (fun _ hk=>⟨⟨hk.1.1,hk.2⟩,hk.1.2⟩)) hg hat)
             have n2_:=Sd.mk (Kd.V_afterv (ok:=(fun k_=>some k_≠(.slice Ao14 t183.length co14:Value).ownBlock∧some k_≠(.slice (some ad219) t186.length co81:Value).ownBlock∧some k_≠(v249:Value).ownBlock)) (Kd.Vz <| Kd.V_mono HL218_0.out (fun _ hk=>⟨⟨hk.1.1,⟨hk.1.2.1,hk.2⟩⟩,hk.1.2.2⟩)) hg hat)
             have n3_:=Sd.mk (Kd.V_afterv (ok:=(fun k_=>some k_≠(.slice Ao14 t183.length co14:Value).ownBlock∧some k_≠(.slice (some ad219) t186.length co81:Value).ownBlock∧some k_≠(v249:Value).ownBlock)) (Kd.Vz <| Kd.V_mono HL219_0.out (fun _ hk=>⟨⟨hk.1.1,⟨hk.1.2.1,hk.2⟩⟩,hk.1.2.2⟩)) hg hat)
             have n4_:=Sd.mk (Kd.V_afterv (ok:=(fun k_=>some k_≠(.slice (some ad219) t186.length co81:Value).ownBlock∧some k_≠(v249:Value).ownBlock)) (Kd.Vz <| Kd.V_mono HO247.out (fun _ hk=>⟨⟨hk.1.1,hk.2⟩,hk.1.2⟩)) hg hat)
             have n5_:=Sd.mk (Kd.V_afterv (ok:=(fun k_=>some k_≠(.slice Ao14 t183.length co14:Value).ownBlock∧some k_≠(v249:Value).ownBlock)) (Kd.Vz <| Kd.V_mono HO255.out (fun _ hk=>⟨⟨hk.1.1,hk.2⟩,hk.1.2⟩)) hg hat)
             have n6_:=Sd.mk (Kd.R_over' (Kd.Rz HO250.out) (Kd.N_typed (Kd.Nz HO_10.out)) (by decide) hg)
             have n7_:=Sd.mk (hb)
             have n8_:=Sd.mk (ho)
             clear HO_5
             clear HO_6
             clear HL218_0
             clear HL219_0
             clear HO247
             clear HO255
             clear HO250
             clear HB
             clear HO_10
             have HO_5:=n0_
             have HO_6:=n1_
             have HL218_0:=n2_
             have HL219_0:=n3_
             have HO247:=n4_
             have HO255:=n5_
             have HO250:=n6_
             have HB:=n7_
             have HO258:=n8_
             clear n0_ n1_ n2_ n3_ n4_ n5_ n6_ n7_ n8_
             clear ho hb hg hat
             obtain⟨Ao88,co88,eo88⟩:=Kd.R_slice HO250.out
             (first|subst eo88|(injection eo88 with f1_ f2_ f3_;have f4_:=f1_.symm;have f5_:=f3_.symm;clear f1_ f2_ f3_;subst f4_;subst f5_))
             obtain⟨Ao89,co89,eo89⟩:=Kd.N_slice HO258.out
             (first|subst eo89|(injection eo89 with f1_ f2_ f3_;have f4_:=f1_.symm;have f5_:=f3_.symm;clear f1_ f2_ f3_;subst f4_;subst f5_))
             refine hK.out _ _ trivial (fun hHeld=>?_)
             clear hK K
             refine norm_ (a':=?_) ?_ ?_
             rotate_left
             ·show Act.put _ (some 99) _=_
              simp only[Act.put,s1,s2,s3,i64_w,i32_w]
              rfl
             refine one_ (i:=10) (N:=some 100) #[T,T,T,T,T,T,T,T,T,T,T,F] rfl rfl (one_of HT_.out (by kernel_rfl)) (by decide) (fun K hK=>?_)
             refine goes_ Try.func54 (by kernel_rfl) rfl #[.slice Ao88 y248.length co88,.slice Ao89 y256.length co89] (by rfl) rfl rfl az ?_
             with_reducible refine(spec_l1Make.calls kj11 _ _ y248 _ _ y256 t259 _ ?side1 ?side2 ?side3 ?side4 A77.out).mono ?_
             (case side1=>exact Kd.Cz (Kd.R_reads' HO250.out).2.2)
             (case side2=>exact(Kd.R_reads' HO250.out).2.1)
             (case side3=>exact Kd.Cz (Kd.N_reads' HO258.out).2.2)
             (case side4=>exact(Kd.N_reads' HO258.out).2.1)
             rintro e w90 ⟨v260,rfl,ho0,hb⟩
             refine⟨_,rfl,?_⟩
             have n0_:=Sd.mk (Kd.R_elder' (Kd.Rz HO_5.out) (Kd.R_base ho0) hb)
             have n1_:=Sd.mk (Kd.N_elder' (Kd.Nz HO_6.out) (Kd.R_base ho0) hb)
             have n2_:=Sd.mk (Kd.V_elder' (Kd.Vz HL218_0.out) (Kd.R_base ho0) hb)
             have n3_:=Sd.mk (Kd.V_elder' (Kd.Vz HL219_0.out) (Kd.R_base ho0) hb)
             have n4_:=Sd.mk (Kd.V_elder' (Kd.Vz HO247.out) (Kd.R_base ho0) hb)
             have n5_:=Sd.mk (Kd.V_elder' (Kd.Vz HO255.out) (Kd.R_base ho0) hb)
             have n6_:=Sd.mk (Kd.R_elder' (Kd.Rz HO250.out) (Kd.R_base ho0) hb)
             have n7_:=Sd.mk (Kd.N_elder' (Kd.Nz HO258.out) (Kd.R_base ho0) hb)
             have n8_:=Sd.mk (Kd.R_lower (Kd.R_new' (Kd.R_new' ho0 (Kd.R_lt (Kd.Rz HO_5.out))) (Kd.R_lt (Kd.Rz HO250.out))) (below_size bz))
             have n9_:=Sd.mk (below_step bz hb)
             clear HO_5
             clear HO_6
             clear HL218_0
             clear HL219_0
             clear HO247
             clear HO255
             clear HO250
             clear HO258
             clear HB
             have HO_5:=n0_
             have HO_6:=n1_
             have HL218_0:=n2_
             have HL219_0:=n3_
             have HO247:=n4_
             have HO255:=n5_
             have HO250:=n6_
             have HO258:=n7_
             have HO261:=n8_
             have HB:=n9_
             clear n0_ n1_ n2_ n3_ n4_ n5_ n6_ n7_ n8_ n9_
             (try clear hb)
             (try clear hb2)
             (try clear hk)
             (try clear hi)
             (try clear ho0)
             refine hK.out _ _ trivial (fun hHeld=>?_)
             clear hK K
             refine norm_ (a':=?_) ?_ ?_
             rotate_left
             ·show Act.put _ (some 100) _=_
              simp only[Act.put,s1,s2,s3,i64_w,i32_w]
              rfl
             refine pq 11 (some 4) HT_.out rfl rfl ?_
             refine done_ (done_of HT_.out (by kernel_rfl)) ?_
             try go_wp2
             go_ret
             exact⟨_,by first|rfl|(simp[errW_none,errW_some]<;>rfl)|(simp only[← hji43];first|rfl|(simp[errW_none,errW_some]<;>rfl))|(simp[*,errW_none,errW_some]<;>rfl),Kd.Rz <| Kd.R_mono HO261.out (fun _ hk=>trivial),bz⟩
            ·rw[if_neg c76] at H
             exact absurd H (by simp)
           ·rw[if_neg c75] at H
            exact absurd H (by simp)
          ·rw[if_neg c74] at H
           exact absurd H (by simp)
         ·rw[if_neg c73] at H
          exact absurd H (by simp)
       ·rw[if_neg c46] at H
        exact absurd H (by simp)
      ·rw[if_neg c45] at H
       exact absurd H (by simp)
     ·rw[if_neg c44] at H
      exact absurd H (by simp)
    ·rw[if_neg c42] at H
     have c42b0:decide (0≤(wrap64 ((x9_11.length:Int)-1)))=false:=decide_eq_false c42
     clear c42
     by_cases c91:0≤(t183.length:Int)
     ·rw[if_pos c91] at H
      have c91b0:=eq_true c91
      have c91b1:decide (0≤(t183.length:Int))=true:=decide_eq_true c91
      clear c91
      obtain⟨y262,hy262⟩:∃ y_:List Int,y_=(t183.drop 0):=⟨_,rfl⟩
      replace H:(if x9_11.length+y262.length<17592186044416 then(if 0≤(t186.length:Int) then((some (t186.drop 0:List (List Int))).bind fun y270=>(if x10_11.length+y270.length<5864062014805 then((spec_l1Make.f kj11 (x9_11++y262) (x10_11++y270)).bind fun t278=>(some t278)) else(none))) else(none)) else(none))=some r:=hz hy262 H
      have Ny262:=Sd.mk hy262
      clear hy262
      by_cases c92:x9_11.length+y262.length<17592186044416
      ·rw[if_pos c92] at H
       have LMc92:=Sd.mk c92
       clear c92
       obtain⟨y267,hy267⟩:∃ y_:List Int,y_=(x9_11++y262):=⟨_,rfl⟩
       replace H:(if 0≤(t186.length:Int) then((some (t186.drop 0:List (List Int))).bind fun y270=>(if x10_11.length+y270.length<5864062014805 then((spec_l1Make.f kj11 y267 (x10_11++y270)).bind fun t278=>(some t278)) else(none))) else(none))=some r:=hz hy267 H
       have Ny267:=Sd.mk hy267
       clear hy267
       by_cases c93:0≤(t186.length:Int)
       ·rw[if_pos c93] at H
        have c93b0:=eq_true c93
        have c93b1:decide (0≤(t186.length:Int))=true:=decide_eq_true c93
        clear c93
        obtain⟨y270,hy270⟩:∃ y_:List (List Int),y_=(t186.drop 0):=⟨_,rfl⟩
        replace H:(if x10_11.length+y270.length<5864062014805 then((spec_l1Make.f kj11 y267 (x10_11++y270)).bind fun t278=>(some t278)) else(none))=some r:=hz hy270 H
        have Ny270:=Sd.mk hy270
        clear hy270
        by_cases c94:x10_11.length+y270.length<5864062014805
        ·rw[if_pos c94] at H
         have LMc94:=Sd.mk c94
         clear c94
         obtain⟨y275,hy275⟩:∃ y_:List (List Int),y_=(x10_11++y270):=⟨_,rfl⟩
         replace H:((spec_l1Make.f kj11 y267 y275).bind fun t278=>(some t278))=some r:=hz hy275 H
         have Ny275:=Sd.mk hy275
         clear hy275
         replace H:=Option.bind_eq_some_iff.mp H
         obtain⟨t278,A950,H⟩:=H
         replace H:(some t278)=some r:=H
         have A95:=Sd.mk A950
         clear A950
         obtain rfl:=Option.some.inj H
         obtain⟨Ao96,co96,eo96⟩:=Kd.R_slice HO_9.out
         subst eo96
         try go_wp2
         have n0_:=Sd.mk (Kd.R_drew HO_5.out)
         have n1_:=Sd.mk (Kd.N_drew HO_6.out)
         have n2_:=Sd.mk (Kd.R_drew HO_9.out)
         have n3_:=Sd.mk (Kd.N_drew HO_10.out)
         have n4_:=Sd.mk (below_drew1 HB.out)
         clear HO_5
         clear HO_6
         clear HO_9
         clear HO_10
         clear HB
         have HO_5:=n0_
         have HO_6:=n1_
         have HO_9:=n2_
         have HO_10:=n3_
         have HB:=n4_
         clear n0_ n1_ n2_ n3_ n4_
         refine start_ (n:=13) (S:=fun w'=>True) (ds:=[]) #[F,F,F,F,F,F,F,F,F,F,F,F,F] (by kernel_rfl) rfl rfl trivial (fun hHeld=>?_);refine with_tabW spec_l2Add.tab14 spec_l2Add.bits14 (fun HT_ HW_=>?_)
         generalize wc.drew=w97 at HO_5 HO_6 HO_9 HO_10 HB hHeld ⊢
         refine pq 0 (some 66) HT_.out rfl rfl ?_
         refine pq 1 (some 67) HT_.out rfl rfl ?_
         refine pq 2 (some 68) HT_.out rfl rfl ?_
         refine pu 3 (some 69) HT_.out rfl rfl ?_
         refine pu 4 (some 70) HT_.out rfl rfl ?_
         refine pu 5 (some 71) HT_.out rfl rfl ?_
         refine pu 6 (some 72) HT_.out rfl rfl ?_
         refine pu 7 (some 73) HT_.out rfl rfl ?_
         refine pu 8 (some 74) HT_.out rfl rfl ?_
         refine pu 9 (some 75) HT_.out rfl rfl ?_
         refine pu 10 (some 76) HT_.out rfl rfl ?_
         refine pu 11 (some 77) HT_.out rfl rfl ?_
         refine pq 12 (some 78) HT_.out rfl rfl ?_
         refine done_ (done_of HT_.out (by kernel_rfl)) ?_
         try go_wp2
         have n0_:=Sd.mk (Kd.R_drew HO_5.out)
         have n1_:=Sd.mk (Kd.N_drew HO_6.out)
         have n2_:=Sd.mk (Kd.R_drew HO_9.out)
         have n3_:=Sd.mk (Kd.N_drew HO_10.out)
         have n4_:=Sd.mk (below_drew1 HB.out)
         clear HO_5
         clear HO_6
         clear HO_9
         clear HO_10
         clear HB
         have HO_5:=n0_
         have HO_6:=n1_
         have HO_9:=n2_
         have HO_10:=n3_
         have HB:=n4_
         clear n0_ n1_ n2_ n3_ n4_
         have q99:(0:Int)≤((t183.length:Int):Int):=dz
         obtain⟨i099,hi099,_,hsz99,_⟩:=info_parts info3
         have hroom99:t183.length≤co14:=(Kd.R_reads' HO_5.out).2.1
         have hC99:Kd.F (Kd.int .i64) _ _ Ao14 t183.length t183:=(Kd.V_at (base:=w.heap.size) (Kd.R_V (Kd.R_apart' (Kd.R_apart' (HO_5.out) (Kd.N_typed HO_6.out) (by decide)) (Kd.N_typed HO_10.out) (by decide)))).2.2
         have hcut99:=cut_from (P:=Try.prog) 22 3 .i64 Try.underlying22 hi099 1 hsz99 Ao14 t183.length co14 0 (by omega) q99
         have hr99:=Kd.F_cut (m:=(0:Int).toNat) (c:=co14) hC99 (by omega) hroom99
         obtain⟨A99,hA99⟩:∃ Aq_,Aq_=(if co14=(0:Int).toNat then Ao14 else(Ao14:Option Addr).map (·.add ((0:Int).toNat*1))):=⟨_,rfl⟩
         obtain⟨c99,hc99⟩:∃ cq_,cq_=co14-(0:Int).toNat:=⟨_,rfl⟩
         have hy99:y262.length=t183.length-(0:Int).toNat:=(by rw[Ny262.out,List.length_drop]<;>omega)
         rw[show (t183).drop (0:Int).toNat=y262 from Ny262.out.symm] at hr99
         replace hr99:Kd.F (Kd.int .i64) _ _ A99 y262.length y262:=(by rw[hA99];exact hr99)
         rw[← hy99,← hA99,← hc99] at hcut99
         have HO266:=Sd.mk (show Kd.V (Kd.int .i64) 3 _ w.heap.size _ (.slice A99 y262.length c99) y262 from Kd.V_mk (by rw[hy99,hc99];exact Nat.sub_le_sub_right hroom99 _) hr99)
         have HC266:=Sd.mk (show y262.length≤c99 from by rw[hy99,hc99];exact Nat.sub_le_sub_right hroom99 _)
         clear hr99 hC99 hroom99 hi099 hsz99 hc99
         have KY99:=Sd.mk hy99
         have KA99:=Sd.mk hA99
         clear hy99 hA99
         replace q99:=eq_true q99
         obtain⟨Ao101,co101,eo101⟩:=Kd.N_slice HO_6.out
         (first|subst eo101|(injection eo101 with f1_ f2_ f3_;have f4_:=f1_.symm;have f5_:=f3_.symm;clear f1_ f2_ f3_;subst f4_;subst f5_))
         have q100:(0:Int)≤((t186.length:Int):Int):=dz
         obtain⟨i0100,hi0100,_,hsz100,_⟩:=info_parts info22
         have hroom100:t186.length≤co101:=(Kd.N_reads' HO_6.out).2.1
         have hC100:Kd.F (Kd.slice 3 (Kd.int .i64)) _ _ Ao101 t186.length t186:=(Kd.V_at (base:=w.heap.size) (Kd.N_V HO_6.out)).2.2
         have hcut100:=cut_from (P:=Try.prog) 52 22 .i64 Try.underlying52 hi0100 1 hsz100 Ao101 t186.length co101 0 (by omega) q100
         have hr100:=Kd.F_cut (m:=(0:Int).toNat) (c:=co101) hC100 (by omega) hroom100
         obtain⟨A100,hA100⟩:∃ Aq_,Aq_=(if co101=(0:Int).toNat then Ao101 else(Ao101:Option Addr).map (·.add ((0:Int).toNat*1))):=⟨_,rfl⟩
         obtain⟨c100,hc100⟩:∃ cq_,cq_=co101-(0:Int).toNat:=⟨_,rfl⟩
         have hy100:y270.length=t186.length-(0:Int).toNat:=(by rw[Ny270.out,List.length_drop]<;>omega)
         rw[show (t186).drop (0:Int).toNat=y270 from Ny270.out.symm] at hr100
         replace hr100:Kd.F (Kd.slice 3 (Kd.int .i64)) _ _ A100 y270.length y270:=(by rw[hA100];exact hr100)
         rw[← hy100,← hA100,← hc100] at hcut100
         have HO274:=Sd.mk (show Kd.V (Kd.slice 3 (Kd.int .i64)) 22 _ w.heap.size _ (.slice A100 y270.length c100) y270 from Kd.V_mk (by rw[hy100,hc100];exact Nat.sub_le_sub_right hroom100 _) hr100)
         have HC274:=Sd.mk (show y270.length≤c100 from by rw[hy100,hc100];exact Nat.sub_le_sub_right hroom100 _)
         clear hr100 hC100 hroom100 hi0100 hsz100 hc100
         have KY100:=Sd.mk hy100
         have KA100:=Sd.mk hA100
         clear hy100 hA100
         replace q100:=eq_true q100
         refine start_ (n:=12) (S:=fun w'=>True) (ds:=[]) #[F,F,F,F,F,F,F,F,F,F,F,F] (by kernel_rfl) rfl rfl trivial (fun hHeld=>?_);refine with_tabW spec_l2Add.tab17 spec_l2Add.bits17 (fun HT_ HW_=>?_)
         generalize w97.drew=w98 at HO_5 HO_6 HO_9 HO_10 HB HO266 HO274 hHeld ⊢
         refine pq 0 (some 90) HT_.out rfl rfl ?_
         refine pq 1 (some 91) HT_.out rfl rfl ?_
         refine pq 2 (some 92) HT_.out rfl rfl ?_
         refine pq 3 (some 93) HT_.out rfl rfl ?_
         refine pq 5 (some 95) HT_.out rfl rfl ?_
         refine pq 6 (some 96) HT_.out rfl rfl ?_
         refine pq 7 (some 97) HT_.out rfl rfl ?_
         refine pq 8 (some 98) HT_.out rfl rfl ?_
         refine one_ (i:=4) (N:=some 94) #[T,T,T,T,T,T,T,T,T,F,F,F] rfl rfl (one_of HT_.out (by kernel_rfl)) (by decide) (fun K hK=>?_)
         refine Kd.R_append_rows_step (Kd.int .i64) (w0:=w) w.heap.size (by rfl) (.tmp 90) (.tmp 93) 22 3 (.int .i64 0) 8 rfl Try.underlying22 info3 rfl (by decide) (by omega) (.slice Ao96 x9_11.length co96) x9_11 y262 _ _ _ (fun k_=>some k_≠(.slice Ao14 t183.length co14:Value).ownBlock) (fun _=>False) rfl rfl ?aO ?aR (fun _ _ h=>h) (fun _ h=>h.elim) ?aF ?aB ?aS ?aL ?_
         (case aR=>repeat (first|exact(Kd.V_reads' HO266.out).2.2|(with_reducible refine Kd.C_alloc ?_ _)|(with_reducible refine Kd.C_drewN ?_ _)|(with_reducible refine Kd.C_drew ?_)))
         (case aB=>exact bz)
         (case aF=>exact(fun k_ hk=>Kd.fresh' (Kd.R_lt (Kd.Rz HO_5.out)) k_ hk))
         (case aO=>exact(Kd.Rz HO_9.out))
         (case aS=>exact(below_size bz))
         (case aL=>have:=LMc92.out;omega)
         intro v268 w102 ho hb hg hat
         rw[← Ny267.out] at ho
         have n0_:=Sd.mk (Kd.R_after (ok:=(fun _=>True)) (Kd.Rz <| Kd.R_mono HO_5.out (fun _ hk=>⟨trivial,hk⟩)) hg hat)
         have n1_:=Sd.mk (Kd.N_afterv (ok:=(fun k_=>some k_≠(.slice Ao14 t183.length co14:Value).ownBlock∧some k_≠(u10:Value).ownBlock)) (Kd.Nz <| Kd.N_mono HO_6.out (fun _ hk=>⟨⟨hk.1,hk.2.2⟩,hk.2.1⟩)) hg hat)
         have n2_:=Sd.mk (Kd.N_afterv (ok:=(fun k_=>some k_≠(.slice Ao14 t183.length co14:Value).ownBlock∧some k_≠(.slice Ao101 t186.length co101:Value).ownBlock)) (Kd.Nz <| Kd.N_mono HO_10.out (fun _ hk=>⟨⟨hk.1,hk.2.1⟩,hk.2.2⟩)) hg hat)
         have n3_:=Sd.mk (Kd.V_afterv (ok:=(fun k_=>some k_≠(.slice Ao101 t186.length co101:Value).ownBlock∧some k_≠(u10:Value).ownBlock)) (Kd.Vz <| Kd.V_mono HO266.out (fun _ hk=>⟨⟨hk.1.2,hk.2⟩,hk.1.1⟩)) hg hat)
         have n4_:=Sd.mk (Kd.V_afterv (ok:=(fun k_=>some k_≠(.slice Ao14 t183.length co14:Value).ownBlock∧some k_≠(u10:Value).ownBlock)) (Kd.Vz <| Kd.V_mono HO274.out (fun _ hk=>⟨⟨hk.1,hk.2.2⟩,hk.2.1⟩)) hg hat)
         have n5_:=Sd.mk (hb)
         have n6_:=Sd.mk (ho)
         clear HO_5
         clear HO_6
         clear HO_10
         clear HO266
         clear HO274
         clear HB
         clear HO_9
         have HO_5:=n0_
         have HO_6:=n1_
         have HO_10:=n2_
         have HO266:=n3_
         have HO274:=n4_
         have HB:=n5_
         have HO269:=n6_
         clear n0_ n1_ n2_ n3_ n4_ n5_ n6_
         clear ho hb hg hat
         refine hK.out _ _ trivial (fun hHeld=>?_)
         clear hK K
         refine norm_ (a':=?_) ?_ ?_
         rotate_left
         ·show Act.put _ (some 94) _=_
          simp only[Act.put,s1,s2,s3,i64_w,i32_w]
          rfl
         refine one_ (i:=9) (N:=some 99) #[T,T,T,T,T,T,T,T,T,T,F,F] rfl rfl (one_of HT_.out (by kernel_rfl)) (by decide) (fun K hK=>?_)
         refine Kd.N_append_rows_step (Kd.slice 3 (Kd.int .i64)) (w0:=w) w.heap.size (by rfl) (.tmp 95) (.tmp 98) 52 22 (.slice none 0 0) 24 rfl Try.underlying52 info22 rfl (by decide) (by omega) u10 x10_11 y270 _ _ _ (fun k_=>some k_≠(.slice Ao14 t183.length co14:Value).ownBlock∧some k_≠(v268:Value).ownBlock) (fun k_=>((fun k_=>some k_≠(.slice Ao14 t183.length co14:Value).ownBlock∧some k_≠(v268:Value).ownBlock)) k_∧some k_≠(u10:Value).ownBlock) rfl rfl ?aO ?aR (fun _ hk=>hk) ?aF ?aB ?aS ?aL ?_
         (case aR=>exact(by skip;exact Kd.V_F (Kd.V_mono (ok':=(fun k_=>((fun k_=>some k_≠(.slice Ao14 t183.length co14:Value).ownBlock∧some k_≠(v268:Value).ownBlock)) k_∧some k_≠(u10:Value).ownBlock)) (HO274.out) (fun k_ hk=>⟨⟨hk.1.1,hk.2⟩,hk.1.2⟩))))
         (case aB=>exact bz)
         (case aF=>exact(fun k_ hk=>⟨Kd.fresh' (Kd.R_lt (Kd.Rz HO_5.out)) k_ hk,Kd.fresh' (Kd.R_lt (Kd.Rz HO269.out)) k_ hk⟩))
         (case aO=>exact(Kd.Nz <| Kd.N_mono HO_10.out (fun _ hk=>⟨hk.1.1,hk.2⟩)))
         (case aS=>exact(below_size bz))
         (case aL=>have:=LMc94.out;omega)
         intro v276 w103 ho hb hg hat
         rw[← Ny275.out] at ho
         have n0_:=Sd.mk (Kd.R_over' (Kd.Rz HO_5.out) (Kd.N_typed (Kd.Nz HO_10.out)) (by decide) hg)
         have n1_:=Sd.mk (Kd.N_afterv (ok:=(fun k_=>some k_≠(.slice Ao14 t183.length co14:Value).ownBlock∧some k_≠(v268:Value).ownBlock)) (Kd.Nz <| Kd.N_mono HO_6.out (fun _ hk=>⟨⟨hk.1.1,hk.2⟩,hk.1.2⟩)) hg hat)
         have n2_:=Sd.mk (Kd.V_afterv (ok:=(fun k_=>some k_≠(.slice Ao101 t186.length co101:Value).ownBlock∧some k_≠(v268:Value).ownBlock)) (Kd.Vz <| Kd.V_mono HO266.out (fun _ hk=>⟨⟨hk.1.1,hk.2⟩,hk.1.2⟩)) hg hat)
         have n3_:=Sd.mk (Kd.V_afterv (ok:=(fun k_=>some k_≠(.slice Ao14 t183.length co14:Value).ownBlock∧some k_≠(v268:Value).ownBlock)) (Kd.Vz <| Kd.V_mono HO274.out (fun _ hk=>⟨⟨hk.1.1,hk.2⟩,hk.1.2⟩)) hg hat)
         have n4_:=Sd.mk (Kd.R_over' (Kd.Rz HO269.out) (Kd.N_typed (Kd.Nz HO_10.out)) (by decide) hg)
         have n5_:=Sd.mk (hb)
         have n6_:=Sd.mk (ho)
         clear HO_5
         clear HO_6
         clear HO266
         clear HO274
         clear HO269
         clear HB
         clear HO_10
         have HO_5:=n0_
         have HO_6:=n1_
         have HO266:=n2_
         have HO274:=n3_
         have HO269:=n4_
         have HB:=n5_
         have HO277:=n6_
         clear n0_ n1_ n2_ n3_ n4_ n5_ n6_
         clear ho hb hg hat
         obtain⟨Ao104,co104,eo104⟩:=Kd.R_slice HO269.out
         (first|subst eo104|(injection eo104 with f1_ f2_ f3_;have f4_:=f1_.symm;have f5_:=f3_.symm;clear f1_ f2_ f3_;subst f4_;subst f5_))
         obtain⟨Ao105,co105,eo105⟩:=Kd.N_slice HO277.out
         (first|subst eo105|(injection eo105 with f1_ f2_ f3_;have f4_:=f1_.symm;have f5_:=f3_.symm;clear f1_ f2_ f3_;subst f4_;subst f5_))
         refine hK.out _ _ trivial (fun hHeld=>?_)
         clear hK K
         refine norm_ (a':=?_) ?_ ?_
         rotate_left
         ·show Act.put _ (some 99) _=_
          simp only[Act.put,s1,s2,s3,i64_w,i32_w]
          rfl
         refine one_ (i:=10) (N:=some 100) #[T,T,T,T,T,T,T,T,T,T,T,F] rfl rfl (one_of HT_.out (by kernel_rfl)) (by decide) (fun K hK=>?_)
         refine goes_ Try.func54 (by kernel_rfl) rfl #[.slice Ao104 y267.length co104,.slice Ao105 y275.length co105] (by rfl) rfl rfl az ?_
         with_reducible refine(spec_l1Make.calls kj11 _ _ y267 _ _ y275 t278 _ ?side1 ?side2 ?side3 ?side4 A95.out).mono ?_
         (case side1=>exact Kd.Cz (Kd.R_reads' HO269.out).2.2)
         (case side2=>exact(Kd.R_reads' HO269.out).2.1)
         (case side3=>exact Kd.Cz (Kd.N_reads' HO277.out).2.2)
         (case side4=>exact(Kd.N_reads' HO277.out).2.1)
         rintro e w106 ⟨v279,rfl,ho0,hb⟩
         refine⟨_,rfl,?_⟩
         have n0_:=Sd.mk (Kd.R_elder' (Kd.Rz HO_5.out) (Kd.R_base ho0) hb)
         have n1_:=Sd.mk (Kd.N_elder' (Kd.Nz HO_6.out) (Kd.R_base ho0) hb)
         have n2_:=Sd.mk (Kd.V_elder' (Kd.Vz HO266.out) (Kd.R_base ho0) hb)
         have n3_:=Sd.mk (Kd.V_elder' (Kd.Vz HO274.out) (Kd.R_base ho0) hb)
         have n4_:=Sd.mk (Kd.R_elder' (Kd.Rz HO269.out) (Kd.R_base ho0) hb)
         have n5_:=Sd.mk (Kd.N_elder' (Kd.Nz HO277.out) (Kd.R_base ho0) hb)
         have n6_:=Sd.mk (Kd.R_lower (Kd.R_new' (Kd.R_new' ho0 (Kd.R_lt (Kd.Rz HO_5.out))) (Kd.R_lt (Kd.Rz HO269.out))) (below_size bz))
         have n7_:=Sd.mk (below_step bz hb)
         clear HO_5
         clear HO_6
         clear HO266
         clear HO274
         clear HO269
         clear HO277
         clear HB
         have HO_5:=n0_
         have HO_6:=n1_
         have HO266:=n2_
         have HO274:=n3_
         have HO269:=n4_
         have HO277:=n5_
         have HO280:=n6_
         have HB:=n7_
         clear n0_ n1_ n2_ n3_ n4_ n5_ n6_ n7_
         (try clear hb)
         (try clear hb2)
         (try clear hk)
         (try clear hi)
         (try clear ho0)
         refine hK.out _ _ trivial (fun hHeld=>?_)
         clear hK K
         refine norm_ (a':=?_) ?_ ?_
         rotate_left
         ·show Act.put _ (some 100) _=_
          simp only[Act.put,s1,s2,s3,i64_w,i32_w]
          rfl
         refine pq 11 (some 4) HT_.out rfl rfl ?_
         refine done_ (done_of HT_.out (by kernel_rfl)) ?_
         try go_wp2
         go_ret
         exact⟨_,by first|rfl|(simp[errW_none,errW_some]<;>rfl)|(simp[*,errW_none,errW_some]<;>rfl),Kd.Rz <| Kd.R_mono HO280.out (fun _ hk=>trivial),bz⟩
        ·rw[if_neg c94] at H
         exact absurd H (by simp)
       ·rw[if_neg c93] at H
        exact absurd H (by simp)
      ·rw[if_neg c92] at H
       exact absurd H (by simp)
     ·rw[if_neg c91] at H
      exact absurd H (by simp)
end Go.Proofs.Ytfblcanijhnhmaa.P