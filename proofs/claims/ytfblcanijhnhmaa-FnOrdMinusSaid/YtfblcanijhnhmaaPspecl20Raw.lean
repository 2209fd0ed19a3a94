/- One Go function comes to what its Lean function tells. -/
import Derived.Test.YtfblcanijhnhmaaP0
import Derived.Test.YtfblcanijhnhmaaPspecOrdOf
import Derived.Test.YtfblcanijhnhmaaPspecl1Compare
import Derived.Test.YtfblcanijhnhmaaPspecl1Make
import Derived.Test.YtfblcanijhnhmaaPspecl20Rdpick
namespace Go.Proofs.Ytfblcanijhnhmaa.P
open Go.RowKit YtfblcanijhnhmaaW.PrintWords YtfblcanijhnhmaaW.PrintLast YtfblcanijhnhmaaW.PrintMore
set_option linter.unusedVariables false
set_option linter.unusedSimpArgs false
/-! ### spec_l20Raw: function 75 -/
mutual
def spec_l20Raw.l0:Nat→Int→List Int→List (List Int)→Int→List Int→Int→Option (List Int × Int)
 | 0,_,_,_,_,_,_=>none
 | k+1,x1,x5,x6,x7,x1000,x1001=>if x7>0 then((spec_l20Rd_pick.f k x1000 x1001 4).bind fun bt1258=>(if bt1258.1>0 then((spec_l20Rd_pick.f k x1000 bt1258.2 x1).bind fun bt1260=>((spec_l20Raw.f k x1000 bt1260.2 bt1260.1).bind fun bt1262=>(spec_l20Raw.j1 k x1 x5 x6 x7 bt1262.1 x1000 bt1262.2))) else(spec_l20Raw.j1 k x1 x5 x6 x7 (([0]:List Int)) x1000 bt1258.2))) else((spec_l1Make.f k x5 x6).bind fun t1252=>(some (t1252,x1001)))
def spec_l20Raw.j1:Nat→Int→List Int→List (List Int)→Int→List Int→List Int→Int→Option (List Int × Int)
 | 0,_,_,_,_,_,_,_=>none
 | k+1,x1,x5,x6,x7,x8,x1000,x1001=>spec_l20Raw.l1 k x1 x5 x6 x7 x8 0 x1000 x1001
def spec_l20Raw.j3:Nat→Int→List Int→List (List Int)→Int→List Int→Int→List Int→Int→Option (List Int × Int)
 | 0,_,_,_,_,_,_,_,_=>none
 | k+1,x1,x5,x6,x7,x8,x9,x1000,x1001=>if x9<(x6.length:Int) then(if 0≤x9 then((spec_l1Compare.f k (rd_L1 x6 x9) x8).bind fun t1269=>(spec_l20Raw.j4 k x1 x5 x6 x7 x8 x9 (t1269 == 0) x1000 x1001)) else(none)) else(spec_l20Raw.j4 k x1 x5 x6 x7 x8 x9 false x1000 x1001)
def spec_l20Raw.j4:Nat→Int→List Int→List (List Int)→Int→List Int→Int→Bool→List Int→Int→Option (List Int × Int)
 | 0,_,_,_,_,_,_,_,_,_=>none
 | k+1,x1,x5,x6,x7,x8,x9,x59,x1000,x1001=>if x59=true then(if 0≤x9 then(if x9<(x5.length:Int) then(spec_l20Raw.l0 k x1 (x5.set (x9:Int).toNat (wrap64 ((rd x5 x9)+1))) x6 (wrap64 (x7-1)) x1000 x1001) else(none)) else(none)) else((some (([]:List Int):List Int)).bind fun y1272=>(if 0≤x9 then(if x9≤(x5.length:Int) then((some (x5.take (x9:Int).toNat:List Int)).bind fun y1275=>(if y1272.length+y1275.length<17592186044416 then((some (y1272++y1275:List Int)).bind fun y1280=>((spec_l20Rd_pick.f k x1000 x1001 3).bind fun bt1283=>((spec_l20Rd_pick.f k x1000 bt1283.2 60).bind fun bt1285=>((some (([wrap64 ((wrap64 (1+bt1283.1))+(wrap64 ((wrap64 (Int.tdiv bt1285.1 59))*60)))]:List Int):List Int)).bind fun y1287=>(if y1280.length+y1287.length<17592186044416 then((some (y1280++y1287:List Int)).bind fun y1290=>((some (x5.drop (x9:Int).toNat:List Int)).bind fun y1293=>(if y1290.length+y1293.length<17592186044416 then((some (([]:List (List Int)):List (List Int))).bind fun y1301=>(if x9≤(x6.length:Int) then((some (x6.take (x9:Int).toNat:List (List Int))).bind fun y1304=>(if y1301.length+y1304.length<5864062014805 then((some (y1301++y1304:List (List Int))).bind fun y1309=>((some (([x8]:List (List Int)):List (List Int))).bind fun y1312=>(if y1309.length+y1312.length<5864062014805 then((some (y1309++y1312:List (List Int))).bind fun y1315=>((some (x6.drop (x9:Int).toNat:List (List Int))).bind fun y1318=>(if y1315.length+y1318.length<5864062014805 then(spec_l20Raw.l0 k x1 (y1290++y1293) (y1315++y1318) (wrap64 (x7-1)) x1000 bt1285.2) else(none)))) else(none)))) else(none))) else(none))) else(none)))) else(none)))))) else(none))) else(none)) else(none)))
def spec_l20Raw.l1:Nat→Int→List Int→List (List Int)→Int→List Int→Int→List Int→Int→Option (List Int × Int)
 | 0,_,_,_,_,_,_,_,_=>none
 | k+1,x1,x5,x6,x7,x8,x9,x1000,x1001=>if x9<(x6.length:Int) then(if 0≤x9 then((spec_l1Compare.f k (rd_L1 x6 x9) x8).bind fun t1267=>(if t1267>0 then(spec_l20Raw.l1 k x1 x5 x6 x7 x8 (wrap64 (x9+1)) x1000 x1001) else(spec_l20Raw.j3 k x1 x5 x6 x7 x8 x9 x1000 x1001))) else(none)) else(spec_l20Raw.j3 k x1 x5 x6 x7 x8 x9 x1000 x1001)
def spec_l20Raw.f:Nat→List Int→Int→Int→Option (List Int × Int)
 | 0,_,_,_=>none
 | k+1,s0_0,s0_1,a1=>if a1=0 then((spec_l20Rd_pick.f k s0_0 s0_1 4).bind fun bt1239=>((spec_OrdOf.f bt1239.1).bind fun t1241=>(some (t1241,bt1239.2)))) else((spec_l20Rd_pick.f k s0_0 s0_1 4).bind fun bt1250=>(spec_l20Raw.l0 k a1 (([]:List Int)) (([]:List (List Int))) bt1250.1 s0_0 bt1250.2))
end
theorem spec_l20Raw.mono_l:∀ k,(∀ y0 y1 y2,LeO (spec_l20Raw.f k y0 y1 y2) (spec_l20Raw.f (k+1) y0 y1 y2))∧(∀ y0 y1 y2 y3 y4 y5,LeO (spec_l20Raw.l0 k y0 y1 y2 y3 y4 y5) (spec_l20Raw.l0 (k+1) y0 y1 y2 y3 y4 y5))∧(∀ y0 y1 y2 y3 y4 y5 y6,LeO (spec_l20Raw.j1 k y0 y1 y2 y3 y4 y5 y6) (spec_l20Raw.j1 (k+1) y0 y1 y2 y3 y4 y5 y6))∧(∀ y0 y1 y2 y3 y4 y5 y6 y7,LeO (spec_l20Raw.j3 k y0 y1 y2 y3 y4 y5 y6 y7) (spec_l20Raw.j3 (k+1) y0 y1 y2 y3 y4 y5 y6 y7))∧(∀ y0 y1 y2 y3 y4 y5 y6 y7 y8,LeO (spec_l20Raw.j4 k y0 y1 y2 y3 y4 y5 y6 y7 y8) (spec_l20Raw.j4 (k+1) y0 y1 y2 y3 y4 y5 y6 y7 y8))∧(∀ y0 y1 y2 y3 y4 y5 y6 y7,LeO (spec_l20Raw.l1 k y0 y1 y2 y3 y4 y5 y6 y7) (spec_l20Raw.l1 (k+1) y0 y1 y2 y3 y4 y5 y6 y7))
 | 0=>⟨fun _ _ _ r h=>by simp[spec_l20Raw.f] at h,fun _ _ _ _ _ _ r h=>by simp[spec_l20Raw.l0] at h,fun _ _ _ _ _ _ _ r h=>by simp[spec_l20Raw.j1] at h,fun _ _ _ _ _ _ _ _ r h=>by simp[spec_l20Raw.j3] at h,fun _ _ _ _ _ _ _ _ _ r h=>by simp[spec_l20Raw.j4] at h,fun _ _ _ _ _ _ _ _ r h=>by simp[spec_l20Raw.l1] at h⟩
 | k+1=>by
  obtain⟨ih0,ih1,ih2,ih3,ih4,ih5⟩:=spec_l20Raw.mono_l k
  refine⟨?_,?_,?_,?_,?_,?_⟩
  ·intro y0 y1 y2
   unfold spec_l20Raw.f
   repeat' first|(with_reducible first|exact ih0 _ _ _|exact ih1 _ _ _ _ _ _|exact spec_l20Rd_pick.mono _ _ _ _|exact LeO.refl _|exact LeO.none _|refine LeO.ite ?_ ?_|refine LeO.bind ?_ (fun _=>?_))|exact ih0 _ _ _|exact ih1 _ _ _ _ _ _|exact spec_l20Rd_pick.mono _ _ _ _|exact LeO.none _|refine LeO.ite ?_ ?_|refine LeO.bind ?_ (fun _=>?_)
  ·intro y0 y1 y2 y3 y4 y5
   unfold spec_l20Raw.l0
   repeat' first|(with_reducible first|exact ih0 _ _ _|exact ih1 _ _ _ _ _ _|exact ih2 _ _ _ _ _ _ _|exact spec_l1Make.mono _ _ _|exact spec_l20Rd_pick.mono _ _ _ _|exact LeO.refl _|exact LeO.none _|refine LeO.ite ?_ ?_|refine LeO.bind ?_ (fun _=>?_))|exact ih0 _ _ _|exact ih1 _ _ _ _ _ _|exact ih2 _ _ _ _ _ _ _|exact spec_l1Make.mono _ _ _|exact spec_l20Rd_pick.mono _ _ _ _|exact LeO.none _|refine LeO.ite ?_ ?_|refine LeO.bind ?_ (fun _=>?_)
  ·intro y0 y1 y2 y3 y4 y5 y6
   unfold spec_l20Raw.j1
   repeat' first|(with_reducible first|exact ih2 _ _ _ _ _ _ _|exact ih5 _ _ _ _ _ _ _ _|exact LeO.refl _|exact LeO.none _|refine LeO.ite ?_ ?_|refine LeO.bind ?_ (fun _=>?_))|exact ih2 _ _ _ _ _ _ _|exact ih5 _ _ _ _ _ _ _ _|exact LeO.none _|refine LeO.ite ?_ ?_|refine LeO.bind ?_ (fun _=>?_)
  ·intro y0 y1 y2 y3 y4 y5 y6 y7
   unfold spec_l20Raw.j3
   repeat' first|(with_reducible first|exact ih3 _ _ _ _ _ _ _ _|exact ih4 _ _ _ _ _ _ _ _ _|exact spec_l1Compare.mono _ _ _|exact LeO.refl _|exact LeO.none _|refine LeO.ite ?_ ?_|refine LeO.bind ?_ (fun _=>?_))|exact ih3 _ _ _ _ _ _ _ _|exact ih4 _ _ _ _ _ _ _ _ _|exact spec_l1Compare.mono _ _ _|exact LeO.none _|refine LeO.ite ?_ ?_|refine LeO.bind ?_ (fun _=>?_)
  ·intro y0 y1 y2 y3 y4 y5 y6 y7 y8
   unfold spec_l20Raw.j4
   repeat' first|(with_reducible first|exact ih1 _ _ _ _ _ _|exact ih4 _ _ _ _ _ _ _ _ _|exact spec_l20Rd_pick.mono _ _ _ _|exact LeO.refl _|exact LeO.none _|refine LeO.ite ?_ ?_|refine LeO.bind ?_ (fun _=>?_))|exact ih1 _ _ _ _ _ _|exact ih4 _ _ _ _ _ _ _ _ _|exact spec_l20Rd_pick.mono _ _ _ _|exact LeO.none _|refine LeO.ite ?_ ?_|refine LeO.bind ?_ (fun _=>?_)
  ·intro y0 y1 y2 y3 y4 y5 y6 y7
   unfold spec_l20Raw.l1
   repeat' first|(with_reducible first|exact ih3 _ _ _ _ _ _ _ _|exact ih5 _ _ _ _ _ _ _ _|exact spec_l1Compare.mono _ _ _|exact LeO.refl _|exact LeO.none _|refine LeO.ite ?_ ?_|refine LeO.bind ?_ (fun _=>?_))|exact ih3 _ _ _ _ _ _ _ _|exact ih5 _ _ _ _ _ _ _ _|exact spec_l1Compare.mono _ _ _|exact LeO.none _|refine LeO.ite ?_ ?_|refine LeO.bind ?_ (fun _=>?_)
theorem spec_l20Raw.mono:∀ a0 a1 a2 k,LeO (spec_l20Raw.f k a0 a1 a2) (spec_l20Raw.f (k+1) a0 a1 a2):=by
 intro a0 a1 a2 k
 obtain⟨ih0,ih1,ih2,ih3,ih4,ih5⟩:=spec_l20Raw.mono_l k
 exact ih0 a0 a1 a2
def spec_l20Raw.T16:Bool × List (List Nat × List Nat):=(true,[([],[]),([],[]),([],[]),([1,2],[1,2]),([0,3],[0,3]),([],[]),([5,4],[5]),([6],[6]),([],[]),([8,6],[8]),([9],[9]),([10],[10]),([7,11],[7,11]),([12],[12]),([4,13,9],[4,13]),([],[]),([],[]),([15,16],[15,16]),([14,17,14],[14,17]),([18,18,0,1,2,3,4,5,6,7,8,9,10,11,12,13,14,15,16,17,18],[1,15,18])])
def spec_l20Raw.B16:List Nat:=[0,0,0,6,15,0,63,127,0,383,895,1919,4095,8191,16383,0,0,98304,262143,524287]
theorem spec_l20Raw.tab16:rtab .any (opsOf Try.f75 16)=spec_l20Raw.T16:=by kernel_rfl
theorem spec_l20Raw.bits16:waitsOk spec_l20Raw.T16.2 spec_l20Raw.B16=true:=by kernel_rfl
def spec_l20Raw.T17:Bool × List (List Nat × List Nat):=(true,[([],[]),([],[]),([],[]),([1,2],[1,2]),([0,3],[0,3]),([],[]),([5],[5]),([4,6,4],[4,6]),([],[]),([],[]),([8,9],[8,9]),([7,10,7],[7,10]),([11,11,0,1,2,3,4,5,6,7,8,9,10,11],[1,8,11])])
def spec_l20Raw.B17:List Nat:=[0,0,0,6,15,0,32,127,0,0,768,2047,4095]
theorem spec_l20Raw.tab17:rtab .any (opsOf Try.f75 17)=spec_l20Raw.T17:=by kernel_rfl
theorem spec_l20Raw.bits17:waitsOk spec_l20Raw.T17.2 spec_l20Raw.B17=true:=by kernel_rfl
set_option maxHeartbeats 8000000 in
set_option maxRecDepth 100000 in
theorem spec_l20Raw.calls (k:Nat):∀ (g:Nat) (s0_0:List Int) (s0_1:Int) (a1:Int) (r1:List Int) (r2:Int) (w0 w:World) (hI:IsS73 w0 w g s0_0 s0_1) (hB:Below w0.heap.size w0 w) (h:spec_l20Raw.f k s0_0 s0_1 a1=some (r1,r2)),
  Calls Try.prog 75 #[.pointer (some ⟨g,0,none⟩),.int .i64 a1] w fun e w'=>∃ v0_:Value,e=.returned (v0_)∧Kd.R (Kd.int .i64) 3 w' w.heap.size (fun _=>True) v0_ r1∧IsS73 w0 w' g s0_0 r2∧Below w0.heap.size w0 w'∧KeepBut w w' g none:=by
 induction k using Nat.strongRecOn with
 | _ k ih =>
 intro g s0_0 s0_1 a1 r1 r2 w0 w hI hB h
 cases k with
 | zero=>exact absurd h (by simp[spec_l20Raw.f])
 | succ k =>
 simp only[spec_l20Raw.f] at h
 have HI0:=Sd.mk hI
 have HK:=Sd.mk (KeepBut.refl w g none)
 have HL:=Sd.mk hB.size
 clear hI
 have HW0:=Sd.mk hB.size
 have HB:=Sd.mk hB
 clear hB
 have H:(if a1=0 then((spec_l20Rd_pick.f k s0_0 s0_1 4).bind fun bt1239=>((spec_OrdOf.f bt1239.1).bind fun t1241=>(some (t1241,bt1239.2)))) else((spec_l20Rd_pick.f k s0_0 s0_1 4).bind fun bt1250=>(spec_l20Raw.l0 k a1 (([]:List Int)) (([]:List (List Int))) bt1250.1 s0_0 bt1250.2)))=some (r1,r2):=h
 clear h
 by_cases c3:a1=0
 ·rw[if_pos c3] at H
  have c3b0:(a1 == 0)=true:=beq_iff_eq.mpr c3
  have c3b1:(a1 != 0)=false:=bne_eq_false_iff_eq.mpr c3
  clear c3
  replace H:=Option.bind_eq_some_iff.mp H
  obtain⟨⟨t1239,t1240⟩,A40,H⟩:=H
  replace H:((spec_OrdOf.f t1239).bind fun t1241=>(some (t1241,t1240)))=some (r1,r2):=H
  have A4:=Sd.mk A40
  clear A40
  replace H:=Option.bind_eq_some_iff.mp H
  obtain⟨t1241,A50,H⟩:=H
  replace H:(some (t1241,t1240))=some (r1,r2):=H
  have A5:=Sd.mk A50
  clear A50
  simp only[Option.some.injEq,Prod.mk.injEq] at H
  obtain⟨rfl,rfl⟩:=H
  go_enter Try.func75,Try.ntmps75
  go_wp2_with (first|((with_reducible refine gate_callee (f:=66) rfl ?_);refine goesL_ (some 13) rfl rfl Try.func66 (by kernel_rfl) rfl #[.pointer (some ⟨g,0,none⟩),.int .i64 4] rfl az ?_;(with_reducible refine(spec_l20Rd_pick.calls k g s0_0 s0_1 4 t1239 t1240 w0 _ ?side1 ?side2 A4.out).mono ?_);(case side1=>exact iz);(case side2=>exact bi);rintro e w6 ⟨rfl,hi,hb,hk⟩;refine⟨_,rfl,?_⟩;replace HK:=Sd.mk (KeepBut.trans kz hk (.inl rfl));replace HB:=Sd.mk (hb);replace HI0:=Sd.mk (hi);(try clear hb);(try clear hb2);(try clear hk);(try clear hi))|((with_reducible refine gate_callee (f:=78) rfl ?_);refine goesL_ (some 14) rfl rfl Try.func78 (by kernel_rfl) rfl #[.int .i64 t1239] rfl az ?_;(with_reducible refine(spec_OrdOf.calls t1239 t1241 _ A5.out).mono ?_);rintro e w7 ⟨v1242,rfl,ho0,hb⟩;refine⟨_,rfl,?_⟩;have HO1243:=Sd.mk (Kd.R_lower ho0 (keep_size (w:=w) (g:=g) (row:=none) kz));replace HK:=Sd.mk (KeepBut.trans kz (KeepBut.of_below hb g none) (.inl rfl));replace HB:=Sd.mk (below_step (bi) hb);replace HI0:=Sd.mk (IsS73.below iz hb);(try clear hb);(try clear hb2);(try clear hk);(try clear hi);(try clear ho0)))
  go_ret
  exact⟨_,by first|rfl|(simp[errW_none,errW_some]<;>rfl)|(simp[*,errW_none,errW_some]<;>rfl),by(with_reducible repeat (first|apply Kd.R_alloc|apply Kd.R_drewN|apply Kd.R_drew));exact HO1243.out,iz,bi,by repeat (first|(with_reducible first|exact HK.out|apply KeepBut.set_|apply keep_drewN|apply keep_drew|apply keep_alloc)|exact HK.out)⟩
 ·rw[if_neg c3] at H
  have c3b0:(a1 == 0)=false:=beq_eq_false_iff_ne.mpr c3
  have c3b1:(a1 != 0)=true:=bne_iff_ne.mpr c3
  obtain⟨y1244,hy1244⟩:∃ y_:List Int,y_=(([]:List Int)):=⟨_,rfl⟩
  replace H:((spec_l20Rd_pick.f k s0_0 s0_1 4).bind fun bt1250=>(spec_l20Raw.l0 k a1 y1244 (([]:List (List Int))) bt1250.1 s0_0 bt1250.2))=some (r1,r2):=hz hy1244 H
  have Ny1244:=Sd.mk hy1244
  clear hy1244
  obtain⟨y1247,hy1247⟩:∃ y_:List (List Int),y_=(([]:List (List Int))):=⟨_,rfl⟩
  replace H:((spec_l20Rd_pick.f k s0_0 s0_1 4).bind fun bt1250=>(spec_l20Raw.l0 k a1 y1244 y1247 bt1250.1 s0_0 bt1250.2))=some (r1,r2):=hz hy1247 H
  have Ny1247:=Sd.mk hy1247
  clear hy1247
  replace H:=Option.bind_eq_some_iff.mp H
  obtain⟨⟨t1250,t1251⟩,A80,H⟩:=H
  replace H:(spec_l20Raw.l0 k a1 y1244 y1247 t1250 s0_0 t1251)=some (r1,r2):=H
  have A8:=Sd.mk A80
  clear A80
  have H':=Sd.mk H
  clear H
  go_enter Try.func75,Try.ntmps75
  go_wp2_with (first|((with_reducible refine gate_dst (N:=15) rfl ?_);refine Kd.R_lit (Kd.int .i64) _ 3 ?hg (N:=15) ?hd (xs:=([]:List Int)) (inner:=[]) (ok:=fun _=>True) (okp:=fun _=>True) ?hr ?hp (fun _ hk=>hk) trivial (Below.refl _ _) (Nat.le_refl _) (by simp) ?_;(case hd=>rfl);(case hg=>rfl);(case hr=>first|(go_simp;done)|(go_simp;rfl));(case hp=>exact(Reps.none _ _));intro v1245 w9 ho10 hb hg_ hnew_;clear hg_ hnew_;(first|rw[← Ny1244.out] at ho10|(simp only[Int.reduceToNat] at ho10;rw[← Ny1244.out] at ho10));have HO1246:=Sd.mk (Kd.R_lower ho10 (keep_size (w:=w) (g:=g) (row:=none) kz));replace HK:=Sd.mk (KeepBut.trans kz (KeepBut.of_below hb g none) (.inl rfl));replace HB:=Sd.mk (below_step (bi) hb);replace HI0:=Sd.mk (IsS73.below iz hb);clear hb ho10)|((with_reducible refine gate_dst (N:=16) rfl ?_);refine Kd.N_lit (Kd.slice 3 (Kd.int .i64)) _ 22 ?hg (N':=16) ?hd (xs:=([]:List (List Int))) (inner:=[]) (ok:=(fun k_=>some k_≠(v1245:Value).ownBlock∧k_≠g)) (okp:=(fun k_=>some k_≠(v1245:Value).ownBlock∧k_≠g)) ?hr ?hp (fun _ hk=>hk) ((show ∀ k_,w9.heap.size≤k_→(fun k_=>some k_≠(v1245:Value).ownBlock∧k_≠g) k_ from fun k_ hk=>⟨Kd.fresh' (Kd.R_lt (Kd.Rz HO1246.out)) k_ hk,IsS73.fresh iz k_ hk⟩) _ (Nat.le_refl _)) (Below.refl _ _) (Nat.le_refl _) (by simp) ?_;(case hd=>rfl);(case hg=>rfl);(case hr=>first|(go_simp;done)|(go_simp;rfl));(case hp=>exact(Reps.none _ _));intro v1248 w11 ho12 hb hg_ hnew_;clear hg_ hnew_;(first|rw[← Ny1247.out] at ho12|(simp only[Int.reduceToNat] at ho12;rw[← Ny1247.out] at ho12));replace HO1246:=Sd.mk (Kd.R_below (Kd.Rz HO1246.out) hb);have HO1249:=Sd.mk (Kd.N_lower ho12 (keep_size (w:=w) (g:=g) (row:=none) kz));replace HK:=Sd.mk (KeepBut.trans kz (KeepBut.of_below hb g none) (.inl rfl));replace HB:=Sd.mk (below_step (bi) hb);replace HI0:=Sd.mk (IsS73.below iz hb);clear hb ho12)|((with_reducible refine gate_callee (f:=66) rfl ?_);refine goesL_ (some 18) rfl rfl Try.func66 (by kernel_rfl) rfl #[.pointer (some ⟨g,0,none⟩),.int .i64 4] rfl az ?_;(with_reducible refine(spec_l20Rd_pick.calls k g s0_0 s0_1 4 t1250 t1251 w0 _ ?side1 ?side2 A8.out).mono ?_);(case side1=>exact iz);(case side2=>exact bi);rintro e w13 ⟨rfl,hi,hb,hk⟩;refine⟨_,rfl,?_⟩;replace HO1246:=Sd.mk (Kd.R_mono (Kd.R_keep (IsS73.apart (show IsS73 w0 _ g s0_0 s0_1 from iz) (Kd.Rz HO1246.out) (by decide)) hk (fun _ h=>h.2)) (fun _ h=>h.1));replace HO1249:=Sd.mk (Kd.N_mono (Kd.N_keep (Kd.N_mono (ok:=fun k_=>(some k_≠(v1245:Value).ownBlock∧k_≠g)) (Kd.Nz HO1249.out) (fun k_ hk_=>(⟨hk_,hk_.2⟩:_∧k_≠g))) hk (fun _ h=>h.2)) (fun _ h=>h.1));replace HK:=Sd.mk (KeepBut.trans kz hk (.inl rfl));replace HB:=Sd.mk (hb);replace HI0:=Sd.mk (hi);(try clear hb);(try clear hb2);(try clear hk);(try clear hi)))
  go_loopg [5,6,7] k (fun kq v5 v6 v7 w'=>∃ (x5_1:List Int) (x6_1:List (List Int)) (x7_1:Int) (x1001_1:Int),v7=.int .i64 x7_1∧Sd (spec_l20Raw.l0 kq a1 x5_1 x6_1 x7_1 s0_0 x1001_1=some (r1,r2))∧Sd (kq≤k)∧Sd (Kd.R (Kd.int .i64) 3 w' w.heap.size (fun _=>True) v5 x5_1)∧Sd (Kd.N (Kd.slice 3 (Kd.int .i64)) 22 w' w.heap.size (fun k_=>some k_≠(v5:Value).ownBlock∧k_≠g) v6 x6_1)∧Sd (IsS73 w0 w' g s0_0 x1001_1)∧Sd (KeepBut w w' g none)∧Sd (Below w0.heap.size w0 w'))
  case atStart=>exact⟨(y1244),(y1247),(t1250),(t1251),(by first|rfl|(simp;done)|(simp[*];done)),H',⟨Nat.le_refl _⟩,⟨by(with_reducible repeat (first|apply Kd.R_alloc|apply Kd.R_drewN|apply Kd.R_drew));exact HO1246.out⟩,⟨by(with_reducible repeat (first|apply Kd.N_alloc|apply Kd.N_drewN|apply Kd.N_drew));exact HO1249.out⟩,⟨iz⟩,⟨by repeat (first|(with_reducible first|exact HK.out|apply KeepBut.set_|apply keep_drewN|apply keep_drew|apply keep_alloc)|exact HK.out)⟩,⟨bi⟩⟩
  case round =>
   clear H'
   try clear p2
   try clear c3
   try clear c3b0
   try clear c3b1
   try clear c6
   try clear c7
   obtain⟨x5_1,x6_1,x7_1,x1001_1,rfl,HA,HK1,HO_5,HO_6,HI0,HK,HB⟩:=hrel
   cases gk with
   | zero=>exact absurd HA.out (by simp[spec_l20Raw.l0])
   | succ k1 =>
    have H:=HA.out
    clear HA
    simp only[spec_l20Raw.l0] at H
    by_cases c14:x7_1>0
    ·rw[if_pos c14] at H
     have c14b0:decide (0<x7_1)=true:=decide_eq_true c14
     clear c14
     obtain⟨y1255,hy1255⟩:∃ y_:List Int,y_=(([0]:List Int)):=⟨_,rfl⟩
     replace H:((spec_l20Rd_pick.f k1 s0_0 x1001_1 4).bind fun bt1258=>(if bt1258.1>0 then((spec_l20Rd_pick.f k1 s0_0 bt1258.2 a1).bind fun bt1260=>((spec_l20Raw.f k1 s0_0 bt1260.2 bt1260.1).bind fun bt1262=>(spec_l20Raw.j1 k1 a1 x5_1 x6_1 x7_1 bt1262.1 s0_0 bt1262.2))) else(spec_l20Raw.j1 k1 a1 x5_1 x6_1 x7_1 y1255 s0_0 bt1258.2)))=some (r1,r2):=hz hy1255 H
     have Ny1255:=Sd.mk hy1255
     clear hy1255
     replace H:=Option.bind_eq_some_iff.mp H
     obtain⟨⟨t1258,t1259⟩,A150,H⟩:=H
     replace H:(if t1258>0 then((spec_l20Rd_pick.f k1 s0_0 t1259 a1).bind fun bt1260=>((spec_l20Raw.f k1 s0_0 bt1260.2 bt1260.1).bind fun bt1262=>(spec_l20Raw.j1 k1 a1 x5_1 x6_1 x7_1 bt1262.1 s0_0 bt1262.2))) else(spec_l20Raw.j1 k1 a1 x5_1 x6_1 x7_1 y1255 s0_0 t1259))=some (r1,r2):=H
     have A15:=Sd.mk A150
     clear A150
     have HC16:=Sd.mk H
     clear H
     go_upto_if 26 with (first|((with_reducible refine gate_dst (N:=23) rfl ?_);refine Kd.R_lit (Kd.int .i64) _ 3 ?hg (N:=23) ?hd (xs:=([0]:List Int)) (inner:=[.int .i64 0]) (ok:=fun _=>True) (okp:=fun _=>True) ?hr ?hp (fun _ hk=>hk) trivial (Below.refl _ _) (Nat.le_refl _) (by simp) ?_;(case hd=>rfl);(case hg=>rfl);(case hr=>first|(go_simp;done)|(go_simp;rfl));(case hp=>exact(Reps.one (show Kd.M (Kd.int .i64) _ _ _ 0 [.int .i64 0] from rfl) (Reps.none _ _)));intro v1256 w17 ho18 hb hg_ hnew_;clear hg_ hnew_;(first|rw[← Ny1255.out] at ho18|(simp only[Int.reduceToNat] at ho18;rw[← Ny1255.out] at ho18));replace HO_6:=Sd.mk (Kd.N_elder' (Kd.Nz HO_6.out) (Kd.R_base ho18) hb);have HO1257:=Sd.mk (Kd.R_lower (Kd.R_new' ho18 (Kd.R_lt (Kd.Rz HO_5.out))) (keep_size (w:=w) (g:=g) (row:=none) kz));replace HO_5:=Sd.mk (Kd.R_elder' (Kd.Rz HO_5.out) (Kd.R_base ho18) hb);replace HK:=Sd.mk (KeepBut.trans kz (KeepBut.of_below hb g none) (.inl rfl));replace HB:=Sd.mk (below_step (bi) hb);replace HI0:=Sd.mk (IsS73.below iz hb);clear hb ho18)|((with_reducible refine gate_callee (f:=66) rfl ?_);refine goesL_ (some 25) rfl rfl Try.func66 (by kernel_rfl) rfl #[.pointer (some ⟨g,0,none⟩),.int .i64 4] rfl az ?_;(with_reducible refine(spec_l20Rd_pick.calls k1 g s0_0 x1001_1 4 t1258 t1259 w0 _ ?side1 ?side2 A15.out).mono ?_);(case side1=>exact iz);(case side2=>exact bi);rintro e w19 ⟨rfl,hi,hb,hk⟩;refine⟨_,rfl,?_⟩;replace HO_5:=Sd.mk (Kd.R_mono (Kd.R_keep (IsS73.apart (show IsS73 w0 _ g s0_0 x1001_1 from iz) (Kd.Rz HO_5.out) (by decide)) hk (fun _ h=>h.2)) (fun _ h=>h.1));replace HO_6:=Sd.mk (Kd.N_mono (Kd.N_keep (Kd.N_mono (ok:=fun k_=>((some k_≠(u5:Value).ownBlock∧k_≠g)∧some k_≠(v1256:Value).ownBlock)) (Kd.Nz HO_6.out) (fun k_ hk_=>(⟨hk_,hk_.1.2⟩:_∧k_≠g))) hk (fun _ h=>h.2)) (fun _ h=>h.1));replace HO1257:=Sd.mk (Kd.R_mono (Kd.R_keep (IsS73.apart (show IsS73 w0 _ g s0_0 x1001_1 from iz) (Kd.Rz HO1257.out) (by decide)) hk (fun _ h=>h.2)) (fun _ h=>h.1));replace HK:=Sd.mk (KeepBut.trans kz hk (.inl rfl));replace HB:=Sd.mk (hb);replace HI0:=Sd.mk (hi);(try clear hb);(try clear hb2);(try clear hk);(try clear hi)))
     (try simp only[Act.put,List.setIfInBounds_toArray,List.set_cons_zero,List.set_cons_succ])
     go_cut [8] (fun v8 wc=>∃ (kq:Nat) (x8_15:List Int) (x1001_15:Int),Sd (spec_l20Raw.j1 kq a1 x5_1 x6_1 x7_1 x8_15 s0_0 x1001_15=some (r1,r2))∧Sd (kq≤k1)∧Sd (Kd.R (Kd.int .i64) 3 wc w.heap.size (fun k_=>some k_≠(v8:Value).ownBlock) u5 x5_1)∧Sd (Kd.N (Kd.slice 3 (Kd.int .i64)) 22 wc w.heap.size (fun k_=>some k_≠(u5:Value).ownBlock∧some k_≠(v8:Value).ownBlock∧k_≠g) u6 x6_1)∧Sd (Kd.R (Kd.int .i64) 3 wc w.heap.size (fun k_=>some k_≠(u5:Value).ownBlock) v8 x8_15)∧Sd (IsS73 w0 wc g s0_0 x1001_15)∧Sd (KeepBut w wc g none)∧Sd (Below w0.heap.size w0 wc))
     case first =>
      have H:=HC16.out
      clear HC16
      by_cases c20:t1258>0
      ·rw[if_pos c20] at H
       have c20b0:decide (0<t1258)=true:=decide_eq_true c20
       clear c20
       (first|rw[c20b0]|(simp only[i64_w,i32_w];rw[c20b0])|skip)
       replace H:=Option.bind_eq_some_iff.mp H
       obtain⟨⟨t1260,t1261⟩,A210,H⟩:=H
       replace H:((spec_l20Raw.f k1 s0_0 t1261 t1260).bind fun bt1262=>(spec_l20Raw.j1 k1 a1 x5_1 x6_1 x7_1 bt1262.1 s0_0 bt1262.2))=some (r1,r2):=H
       have A21:=Sd.mk A210
       clear A210
       replace H:=Option.bind_eq_some_iff.mp H
       obtain⟨⟨t1262,t1265⟩,A220,H⟩:=H
       replace H:(spec_l20Raw.j1 k1 a1 x5_1 x6_1 x7_1 t1262 s0_0 t1265)=some (r1,r2):=H
       have A22:=Sd.mk A220
       clear A220
       have H':=Sd.mk H
       clear H
       go_wp2_with (first|((with_reducible refine gate_callee (f:=66) rfl ?_);refine goesL_ (some 30) rfl rfl Try.func66 (by kernel_rfl) rfl #[.pointer (some ⟨g,0,none⟩),.int .i64 a1] rfl az ?_;(with_reducible refine(spec_l20Rd_pick.calls k1 g s0_0 t1259 a1 t1260 t1261 w0 _ ?side1 ?side2 A21.out).mono ?_);(case side1=>exact iz);(case side2=>exact bi);rintro e w23 ⟨rfl,hi,hb,hk⟩;refine⟨_,rfl,?_⟩;replace HO_5:=Sd.mk (Kd.R_mono (Kd.R_keep (IsS73.apart (show IsS73 w0 _ g s0_0 t1259 from iz) (Kd.Rz HO_5.out) (by decide)) hk (fun _ h=>h.2)) (fun _ h=>h.1));replace HO_6:=Sd.mk (Kd.N_mono (Kd.N_keep (Kd.N_mono (ok:=fun k_=>((some k_≠(u5:Value).ownBlock∧k_≠g)∧some k_≠(v1256:Value).ownBlock)) (Kd.Nz HO_6.out) (fun k_ hk_=>(⟨hk_,hk_.1.2⟩:_∧k_≠g))) hk (fun _ h=>h.2)) (fun _ h=>h.1));replace HO1257:=Sd.mk (Kd.R_mono (Kd.R_keep (IsS73.apart (show IsS73 w0 _ g s0_0 t1259 from iz) (Kd.Rz HO1257.out) (by decide)) hk (fun _ h=>h.2)) (fun _ h=>h.1));replace HK:=Sd.mk (KeepBut.trans kz hk (.inl rfl));replace HB:=Sd.mk (hb);replace HI0:=Sd.mk (hi);(try clear hb);(try clear hb2);(try clear hk);(try clear hi))|((with_reducible refine gate_callee (f:=75) rfl ?_);refine goesL_ (some 31) rfl rfl Try.func75 (by kernel_rfl) rfl #[.pointer (some ⟨g,0,none⟩),.int .i64 t1260] rfl az ?_;(with_reducible refine(ih k1 (by have:=HK1.out;omega) g s0_0 t1261 t1260 t1262 t1265 w0 _ ?side1 ?side2 A22.out).mono ?_);(case side1=>exact iz);(case side2=>exact bi);rintro e w24 ⟨v1263,rfl,ho0,hi,hb,hk⟩;refine⟨_,rfl,?_⟩;replace HO_6:=Sd.mk (Kd.N_mono (Kd.N_told (Kd.N_oldK (Kd.N_mono (ok:=fun k_=>((some k_≠(u5:Value).ownBlock∧k_≠g)∧some k_≠(v1256:Value).ownBlock)) (Kd.Nz HO_6.out) (fun k_ hk_=>(⟨hk_,hk_.1.2⟩:_∧k_≠g))) hk) (Kd.R_base ho0)) (fun _ h_=>h_.1));have HO1264:=Sd.mk (Kd.R_lower (Kd.R_new' (Kd.R_new' ho0 (Kd.R_lt (Kd.Rz HO_5.out))) (Kd.R_lt (Kd.Rz HO1257.out))) (keep_size (w:=w) (g:=g) (row:=none) kz));replace HO_5:=Sd.mk (Kd.R_mono (Kd.R_told (Kd.R_oldK (IsS73.apart (show IsS73 w0 _ g s0_0 t1261 from iz) (Kd.Rz HO_5.out) (by decide)) hk) (Kd.R_base ho0)) (fun _ h_=>h_.1));replace HO1257:=Sd.mk (Kd.R_mono (Kd.R_told (Kd.R_oldK (IsS73.apart (show IsS73 w0 _ g s0_0 t1261 from iz) (Kd.Rz HO1257.out) (by decide)) hk) (Kd.R_base ho0)) (fun _ h_=>h_.1));replace HK:=Sd.mk (KeepBut.trans kz hk (.inl rfl));replace HB:=Sd.mk (hb);replace HI0:=Sd.mk (hi);(try clear hb);(try clear hb2);(try clear hk);(try clear hi);(try clear ho0)))
       go_meet
       case rel=>exact⟨_,(t1262),(t1265),H',⟨by have:=HK1.out;first|omega|exact Nat.le_refl _⟩,⟨Kd.Rz <| Kd.R_mono HO_5.out (fun _ hk=>hk.2)⟩,⟨Kd.Nz <| Kd.N_mono HO_6.out (fun _ hk=>⟨hk.1.1.1,⟨hk.2,hk.1.1.2⟩⟩)⟩,⟨Kd.Rz <| Kd.R_mono HO1264.out (fun _ hk=>hk.1.2)⟩,⟨iz⟩,⟨by repeat (first|(with_reducible first|exact HK.out|apply KeepBut.set_|apply keep_drewN|apply keep_drew|apply keep_alloc)|exact HK.out)⟩,⟨bi⟩⟩
      ·rw[if_neg c20] at H
       have c20b0:decide (0<t1258)=false:=decide_eq_false c20
       clear c20
       (first|rw[c20b0]|(simp only[i64_w,i32_w];rw[c20b0])|skip)
       have H':=Sd.mk H
       clear H
       go_wp2
       go_meet
       case rel=>exact⟨_,(y1255),(t1259),H',⟨by have:=HK1.out;first|omega|exact Nat.le_refl _⟩,⟨Kd.Rz <| Kd.R_mono HO_5.out (fun _ hk=>hk.2)⟩,⟨Kd.Nz <| Kd.N_mono HO_6.out (fun _ hk=>⟨hk.1.1,⟨hk.2,hk.1.2⟩⟩)⟩,⟨Kd.Rz <| Kd.R_mono HO1257.out (fun _ hk=>hk.2)⟩,⟨iz⟩,⟨by repeat (first|(with_reducible first|exact HK.out|apply KeepBut.set_|apply keep_drewN|apply keep_drew|apply keep_alloc)|exact HK.out)⟩,⟨bi⟩⟩
     case rest =>
      clear HC16
      try clear c1
      try clear c2
      try clear p2
      try clear c3
      try clear c3b0
      try clear c3b1
      try clear c6
      try clear c7
      try clear c14
      try clear c14b0
      try clear c20
      try clear c20b0
      try clear p2
      obtain⟨kq,x8_15,x1001_15,HA,HJ15,HO_5,HO_6,HO_8,HI0,HK,HB⟩:=hcut
      cases kq with
      | zero=>exact absurd HA.out (by simp[spec_l20Raw.j1])
      | succ kj15 =>
       have H:=HA.out
       clear HA
       simp only[spec_l20Raw.j1] at H
       have HC25:=Sd.mk H
       clear H
       go_upto_block 2 with (fail)
       go_cut [9] (fun v9 wc=>∃ (kq:Nat) (x9_24:Int),v9=.int .i64 x9_24∧Sd (spec_l20Raw.j3 kq a1 x5_1 x6_1 x7_1 x8_15 x9_24 s0_0 x1001_15=some (r1,r2))∧Sd (kq≤kj15)∧Sd (Kd.R (Kd.int .i64) 3 wc w.heap.size (fun k_=>some k_≠(u8:Value).ownBlock) u5 x5_1)∧Sd (Kd.N (Kd.slice 3 (Kd.int .i64)) 22 wc w.heap.size (fun k_=>some k_≠(u5:Value).ownBlock∧some k_≠(u8:Value).ownBlock∧k_≠g) u6 x6_1)∧Sd (Kd.R (Kd.int .i64) 3 wc w.heap.size (fun k_=>some k_≠(u5:Value).ownBlock) u8 x8_15)∧Sd (IsS73 w0 wc g s0_0 x1001_15)∧Sd (KeepBut w wc g none)∧Sd (Below w0.heap.size w0 wc))
       case first =>
        have H:=HC25.out
        clear HC25
        have H':=Sd.mk H
        clear H
        go_wp2
        go_loopg [9] kj15 (fun kq v9 w'=>∃ (x9_3:Int),v9=.int .i64 x9_3∧Sd (spec_l20Raw.l1 kq a1 x5_1 x6_1 x7_1 x8_15 x9_3 s0_0 x1001_15=some (r1,r2))∧Sd (kq≤kj15)∧Sd (Kd.R (Kd.int .i64) 3 w' w.heap.size (fun k_=>some k_≠(u8:Value).ownBlock) u5 x5_1)∧Sd (Kd.N (Kd.slice 3 (Kd.int .i64)) 22 w' w.heap.size (fun k_=>some k_≠(u5:Value).ownBlock∧some k_≠(u8:Value).ownBlock∧k_≠g) u6 x6_1)∧Sd (Kd.R (Kd.int .i64) 3 w' w.heap.size (fun k_=>some k_≠(u5:Value).ownBlock) u8 x8_15)∧Sd (IsS73 w0 w' g s0_0 x1001_15)∧Sd (KeepBut w w' g none)∧Sd (Below w0.heap.size w0 w'))
        case atStart=>exact⟨(0),(by first|rfl|(simp;done)|(simp[*];done)),H',⟨Nat.le_refl _⟩,⟨by(with_reducible repeat (first|apply Kd.R_alloc|apply Kd.R_drewN|apply Kd.R_drew));exact HO_5.out⟩,⟨by(with_reducible repeat (first|apply Kd.N_alloc|apply Kd.N_drewN|apply Kd.N_drew));exact HO_6.out⟩,⟨by(with_reducible repeat (first|apply Kd.R_alloc|apply Kd.R_drewN|apply Kd.R_drew));exact HO_8.out⟩,⟨iz⟩,⟨by repeat (first|(with_reducible first|exact HK.out|apply KeepBut.set_|apply keep_drewN|apply keep_drew|apply keep_alloc)|exact HK.out)⟩,⟨bi⟩⟩
        case round =>
         clear H'
         try clear c1
         try clear c2
         try clear p2
         try clear c3
         try clear c3b0
         try clear c3b1
         try clear c6
         try clear c7
         try clear c14
         try clear c14b0
         try clear c20
         try clear c20b0
         try clear p2
         obtain⟨x9_3,rfl,HA,HK3,HO_5,HO_6,HO_8,HI0,HK,HB⟩:=hrel
         cases gk with
         | zero=>exact absurd HA.out (by simp[spec_l20Raw.l1])
         | succ k3 =>
          have H:=HA.out
          clear HA
          simp only[spec_l20Raw.l1] at H
          by_cases c26:x9_3<(x6_1.length:Int)
          ·rw[if_pos c26] at H
           have c26b0:decide (x9_3<(x6_1.length:Int))=true:=decide_eq_true c26
           clear c26
           (first|rw[c26b0]|(simp only[i64_w,i32_w];rw[c26b0])|skip)
           by_cases c27:0≤x9_3
           ·rw[if_pos c27] at H
            have c27b0:decide (0≤x9_3)=true:=decide_eq_true c27
            clear c27
            replace H:=Option.bind_eq_some_iff.mp H
            obtain⟨t1267,A280,H⟩:=H
            replace H:(if t1267>0 then(spec_l20Raw.l1 k3 a1 x5_1 x6_1 x7_1 x8_15 (wrap64 (x9_3+1)) s0_0 x1001_15) else(spec_l20Raw.j3 k3 a1 x5_1 x6_1 x7_1 x8_15 x9_3 s0_0 x1001_15))=some (r1,r2):=H
            have A28:=Sd.mk A280
            clear A280
            by_cases c29:t1267>0
            ·rw[if_pos c29] at H
             have c29b0:decide (0<t1267)=true:=decide_eq_true c29
             clear c29
             have H':=Sd.mk H
             clear H
             obtain⟨Ao30,co30,eo30⟩:=Kd.N_slice HO_6.out
             subst eo30
             have p1266:0≤(x9_3:Int):=dz
             have q1266:x9_3<(x6_1.length:Int):=dz
             obtain⟨ad1266,A1266_0,c1266_0,e1266,hx1266_0,hl1266_0,hi1266_0⟩:=at_L1 (Kd.N_reads' HO_6.out).2.2 x9_3 p1266 q1266
             cases e1266
             obtain⟨ce1266,hce1266,hMe1266,hcc1266⟩:=Kd.N_get HO_6.out [] x9_3 p1266 (by first|exact q1266|exact dz|(have e_:=(Kd.N_reads' HO_6.out).1;omega))
             obtain⟨ua1266_0,uc1266_0,rfl,ul1266_0,ge1266_0⟩:=Kd.FK_slice_open hMe1266
             have hv1266_0:=hcc1266 0 _ rfl
             rw[Nat.add_zero,show ((Kd.slice 3 (Kd.int .i64))).sz=1 from rfl,Nat.mul_one] at hv1266_0
             replace hv1266_0:=Option.some.inj (hv1266_0.symm.trans hx1266_0)
             injection hv1266_0 with hva_ hvn_ hvc_
             rw[hva_] at ge1266_0
             rw[hvc_] at ul1266_0
             have HL1266_0:=Sd.mk (show Kd.V (Kd.int .i64) 3 _ w.heap.size _ _ (rd_L1 x6_1 x9_3) from Kd.V_mk ul1266_0 ge1266_0)
             clear hva_ hvn_ hvc_ ge1266_0 ul1266_0
             clear hcc1266 hce1266
             have HR1266_0:=Sd.mk hi1266_0
             have HC1266_0:=Sd.mk hl1266_0
             clear hi1266_0 hl1266_0
             replace p1266:=eq_true p1266
             replace q1266:=eq_true q1266
             obtain⟨Ao31,co31,eo31⟩:=Kd.R_slice HO_8.out
             subst eo31
             go_wp2_with (first|(go_at_call 53;(with_reducible refine(spec_l1Compare.calls k3 _ _ (rd_L1 x6_1 x9_3) _ _ x8_15 t1267 _ ?side1 ?side2 ?side3 ?side4 A28.out).mono ?_);(case side1=>exact(Kd.Cz HR1266_0.out));(case side2=>exact HC1266_0.out);(case side3=>exact Kd.Cz (Kd.R_reads' HO_8.out).2.2);(case side4=>exact(Kd.R_reads' HO_8.out).2.1);rintro e w32 ⟨rfl,hb⟩;replace HO_5:=Sd.mk (Kd.R_below (Kd.Rz HO_5.out) hb);replace HO_6:=Sd.mk (Kd.N_below (Kd.Nz HO_6.out) hb);replace HO_8:=Sd.mk (Kd.R_below (Kd.Rz HO_8.out) hb);replace HL1266_0:=Sd.mk (Kd.V_below (Kd.Vz HL1266_0.out) hb);replace HR1266_0:=Sd.mk (Kd.C_below (Kd.Cz HR1266_0.out) hb);replace HK:=Sd.mk (KeepBut.trans kz (KeepBut.of_below hb g none) (.inl rfl));replace HB:=Sd.mk (below_step (bi) hb);replace HI0:=Sd.mk (IsS73.below iz hb);(try clear hb);(try clear hb2);(try clear hk);(try clear hi)))
             go_roundg k3
             case measure=>have:=HK1.out;have:=HJ15.out;have:=HK3.out;omega
             case rel=>exact⟨(wrap64 (x9_3+1)),(by first|rfl|(simp;done)|(simp[*];done)),H',⟨by have:=HK1.out;have:=HJ15.out;have:=HK3.out;omega⟩,⟨by(with_reducible repeat (first|apply Kd.R_alloc|apply Kd.R_drewN|apply Kd.R_drew));exact HO_5.out⟩,⟨by(with_reducible repeat (first|apply Kd.N_alloc|apply Kd.N_drewN|apply Kd.N_drew));exact HO_6.out⟩,⟨by(with_reducible repeat (first|apply Kd.R_alloc|apply Kd.R_drewN|apply Kd.R_drew));exact HO_8.out⟩,⟨iz⟩,⟨by repeat (first|(with_reducible first|exact HK.out|apply KeepBut.set_|apply keep_drewN|apply keep_drew|apply keep_alloc)|exact HK.out)⟩,⟨bi⟩⟩
            ·rw[if_neg c29] at H
             have c29b0:decide (0<t1267)=false:=decide_eq_false c29
             clear c29
             have H':=Sd.mk H
             clear H
             obtain⟨Ao33,co33,eo33⟩:=Kd.N_slice HO_6.out
             subst eo33
             have p1266:0≤(x9_3:Int):=dz
             have q1266:x9_3<(x6_1.length:Int):=dz
             obtain⟨ad1266,A1266_0,c1266_0,e1266,hx1266_0,hl1266_0,hi1266_0⟩:=at_L1 (Kd.N_reads' HO_6.out).2.2 x9_3 p1266 q1266
             cases e1266
             obtain⟨ce1266,hce1266,hMe1266,hcc1266⟩:=Kd.N_get HO_6.out [] x9_3 p1266 (by first|exact q1266|exact dz|(have e_:=(Kd.N_reads' HO_6.out).1;omega))
             obtain⟨ua1266_0,uc1266_0,rfl,ul1266_0,ge1266_0⟩:=Kd.FK_slice_open hMe1266
             have hv1266_0:=hcc1266 0 _ rfl
             rw[Nat.add_zero,show ((Kd.slice 3 (Kd.int .i64))).sz=1 from rfl,Nat.mul_one] at hv1266_0
             replace hv1266_0:=Option.some.inj (hv1266_0.symm.trans hx1266_0)
             injection hv1266_0 with hva_ hvn_ hvc_
             rw[hva_] at ge1266_0
             rw[hvc_] at ul1266_0
             have HL1266_0:=Sd.mk (show Kd.V (Kd.int .i64) 3 _ w.heap.size _ _ (rd_L1 x6_1 x9_3) from Kd.V_mk ul1266_0 ge1266_0)
             clear hva_ hvn_ hvc_ ge1266_0 ul1266_0
             clear hcc1266 hce1266
             have HR1266_0:=Sd.mk hi1266_0
             have HC1266_0:=Sd.mk hl1266_0
             clear hi1266_0 hl1266_0
             replace p1266:=eq_true p1266
             replace q1266:=eq_true q1266
             obtain⟨Ao34,co34,eo34⟩:=Kd.R_slice HO_8.out
             subst eo34
             go_wp2_with (first|(go_at_call 53;(with_reducible refine(spec_l1Compare.calls k3 _ _ (rd_L1 x6_1 x9_3) _ _ x8_15 t1267 _ ?side1 ?side2 ?side3 ?side4 A28.out).mono ?_);(case side1=>exact(Kd.Cz HR1266_0.out));(case side2=>exact HC1266_0.out);(case side3=>exact Kd.Cz (Kd.R_reads' HO_8.out).2.2);(case side4=>exact(Kd.R_reads' HO_8.out).2.1);rintro e w35 ⟨rfl,hb⟩;replace HO_5:=Sd.mk (Kd.R_below (Kd.Rz HO_5.out) hb);replace HO_6:=Sd.mk (Kd.N_below (Kd.Nz HO_6.out) hb);replace HO_8:=Sd.mk (Kd.R_below (Kd.Rz HO_8.out) hb);replace HL1266_0:=Sd.mk (Kd.V_below (Kd.Vz HL1266_0.out) hb);replace HR1266_0:=Sd.mk (Kd.C_below (Kd.Cz HR1266_0.out) hb);replace HK:=Sd.mk (KeepBut.trans kz (KeepBut.of_below hb g none) (.inl rfl));replace HB:=Sd.mk (below_step (bi) hb);replace HI0:=Sd.mk (IsS73.below iz hb);(try clear hb);(try clear hb2);(try clear hk);(try clear hi)))
             go_meet
             case rel=>exact⟨_,(x9_3),(by first|rfl|(simp;done)|(simp[*];done)),H',⟨by have:=HK1.out;have:=HJ15.out;have:=HK3.out;first|omega|exact Nat.le_refl _⟩,⟨by(with_reducible repeat (first|apply Kd.R_alloc|apply Kd.R_drewN|apply Kd.R_drew));exact HO_5.out⟩,⟨by(with_reducible repeat (first|apply Kd.N_alloc|apply Kd.N_drewN|apply Kd.N_drew));exact HO_6.out⟩,⟨by(with_reducible repeat (first|apply Kd.R_alloc|apply Kd.R_drewN|apply Kd.R_drew));exact HO_8.out⟩,⟨iz⟩,⟨by repeat (first|(with_reducible first|exact HK.out|apply KeepBut.set_|apply keep_drewN|apply keep_drew|apply keep_alloc)|exact HK.out)⟩,⟨bi⟩⟩
           ·rw[if_neg c27] at H
            exact absurd H (by simp)
          ·rw[if_neg c26] at H
           have c26b0:decide (x9_3<(x6_1.length:Int))=false:=decide_eq_false c26
           clear c26
           (first|rw[c26b0]|(simp only[i64_w,i32_w];rw[c26b0])|skip)
           have H':=Sd.mk H
           clear H
           obtain⟨Ao36,co36,eo36⟩:=Kd.N_slice HO_6.out
           subst eo36
           go_wp2
           go_meet
           case rel=>exact⟨_,(x9_3),(by first|rfl|(simp;done)|(simp[*];done)),H',⟨by have:=HK1.out;have:=HJ15.out;have:=HK3.out;first|omega|exact Nat.le_refl _⟩,⟨by(with_reducible repeat (first|apply Kd.R_alloc|apply Kd.R_drewN|apply Kd.R_drew));exact HO_5.out⟩,⟨by(with_reducible repeat (first|apply Kd.N_alloc|apply Kd.N_drewN|apply Kd.N_drew));exact HO_6.out⟩,⟨by(with_reducible repeat (first|apply Kd.R_alloc|apply Kd.R_drewN|apply Kd.R_drew));exact HO_8.out⟩,⟨iz⟩,⟨by repeat (first|(with_reducible first|exact HK.out|apply KeepBut.set_|apply keep_drewN|apply keep_drew|apply keep_alloc)|exact HK.out)⟩,⟨bi⟩⟩
       case rest =>
        clear HC25
        try clear c1
        try clear p1
        try clear q1
        try clear hx1
        try clear c2
        try clear p2
        try clear c3
        try clear c3b0
        try clear c3b1
        try clear c6
        try clear p6
        try clear c7
        try clear c12
        try clear p12
        try clear q12
        try clear hx12
        try clear c14
        try clear c14b0
        try clear c20
        try clear c20b0
        try clear c26
        try clear c26b0
        try clear c27
        try clear c27b0
        try clear c29
        try clear c29b0
        try clear hx1266_0
        try clear p1266
        try clear p2
        try clear q1266
        obtain⟨kq,x9_24,rfl,HA,HJ24,HO_5,HO_6,HO_8,HI0,HK,HB⟩:=hcut
        cases kq with
        | zero=>exact absurd HA.out (by simp[spec_l20Raw.j3])
        | succ kj24 =>
         have H:=HA.out
         clear HA
         simp only[spec_l20Raw.j3] at H
         have HC37:=Sd.mk H
         clear H
         go_upto_region 14 with (fail)
         go_cut [59] (fun v59 wc=>∃ (kq:Nat) (x59_36:Bool),v59=.bool x59_36∧Sd (spec_l20Raw.j4 kq a1 x5_1 x6_1 x7_1 x8_15 x9_24 x59_36 s0_0 x1001_15=some (r1,r2))∧Sd (kq≤kj24)∧Sd (Kd.R (Kd.int .i64) 3 wc w.heap.size (fun k_=>some k_≠(u8:Value).ownBlock) u5 x5_1)∧Sd (Kd.N (Kd.slice 3 (Kd.int .i64)) 22 wc w.heap.size (fun k_=>some k_≠(u5:Value).ownBlock∧some k_≠(u8:Value).ownBlock∧k_≠g) u6 x6_1)∧Sd (Kd.R (Kd.int .i64) 3 wc w.heap.size (fun k_=>some k_≠(u5:Value).ownBlock) u8 x8_15)∧Sd (IsS73 w0 wc g s0_0 x1001_15)∧Sd (KeepBut w wc g none)∧Sd (Below w0.heap.size w0 wc))
         case first =>
          have H:=HC37.out
          clear HC37
          by_cases c38:x9_24<(x6_1.length:Int)
          ·rw[if_pos c38] at H
           have c38b0:decide (x9_24<(x6_1.length:Int))=true:=decide_eq_true c38
           clear c38
           (first|rw[c38b0]|(simp only[i64_w,i32_w];rw[c38b0])|skip)
           by_cases c39:0≤x9_24
           ·rw[if_pos c39] at H
            have c39b0:decide (0≤x9_24)=true:=decide_eq_true c39
            clear c39
            replace H:=Option.bind_eq_some_iff.mp H
            obtain⟨t1269,A400,H⟩:=H
            replace H:(spec_l20Raw.j4 kj24 a1 x5_1 x6_1 x7_1 x8_15 x9_24 (t1269 == 0) s0_0 x1001_15)=some (r1,r2):=H
            have A40:=Sd.mk A400
            clear A400
            have H':=Sd.mk H
            clear H
            obtain⟨Ao41,co41,eo41⟩:=Kd.N_slice HO_6.out
            subst eo41
            have p1268:0≤(x9_24:Int):=dz
            have q1268:x9_24<(x6_1.length:Int):=dz
            obtain⟨ad1268,A1268_0,c1268_0,e1268,hx1268_0,hl1268_0,hi1268_0⟩:=at_L1 (Kd.N_reads' HO_6.out).2.2 x9_24 p1268 q1268
            cases e1268
            obtain⟨ce1268,hce1268,hMe1268,hcc1268⟩:=Kd.N_get HO_6.out [] x9_24 p1268 (by first|exact q1268|exact dz|(have e_:=(Kd.N_reads' HO_6.out).1;omega))
            obtain⟨ua1268_0,uc1268_0,rfl,ul1268_0,ge1268_0⟩:=Kd.FK_slice_open hMe1268
            have hv1268_0:=hcc1268 0 _ rfl
            rw[Nat.add_zero,show ((Kd.slice 3 (Kd.int .i64))).sz=1 from rfl,Nat.mul_one] at hv1268_0
            replace hv1268_0:=Option.some.inj (hv1268_0.symm.trans hx1268_0)
            injection hv1268_0 with hva_ hvn_ hvc_
            rw[hva_] at ge1268_0
            rw[hvc_] at ul1268_0
            have HL1268_0:=Sd.mk (show Kd.V (Kd.int .i64) 3 _ w.heap.size _ _ (rd_L1 x6_1 x9_24) from Kd.V_mk ul1268_0 ge1268_0)
            clear hva_ hvn_ hvc_ ge1268_0 ul1268_0
            clear hcc1268 hce1268
            have HR1268_0:=Sd.mk hi1268_0
            have HC1268_0:=Sd.mk hl1268_0
            clear hi1268_0 hl1268_0
            replace p1268:=eq_true p1268
            replace q1268:=eq_true q1268
            obtain⟨Ao42,co42,eo42⟩:=Kd.R_slice HO_8.out
            subst eo42
            go_wp2_with (first|(go_at_call 53;(with_reducible refine(spec_l1Compare.calls kj24 _ _ (rd_L1 x6_1 x9_24) _ _ x8_15 t1269 _ ?side1 ?side2 ?side3 ?side4 A40.out).mono ?_);(case side1=>exact(Kd.Cz HR1268_0.out));(case side2=>exact HC1268_0.out);(case side3=>exact Kd.Cz (Kd.R_reads' HO_8.out).2.2);(case side4=>exact(Kd.R_reads' HO_8.out).2.1);rintro e w43 ⟨rfl,hb⟩;replace HO_5:=Sd.mk (Kd.R_below (Kd.Rz HO_5.out) hb);replace HO_6:=Sd.mk (Kd.N_below (Kd.Nz HO_6.out) hb);replace HO_8:=Sd.mk (Kd.R_below (Kd.Rz HO_8.out) hb);replace HL1268_0:=Sd.mk (Kd.V_below (Kd.Vz HL1268_0.out) hb);replace HR1268_0:=Sd.mk (Kd.C_below (Kd.Cz HR1268_0.out) hb);replace HK:=Sd.mk (KeepBut.trans kz (KeepBut.of_below hb g none) (.inl rfl));replace HB:=Sd.mk (below_step (bi) hb);replace HI0:=Sd.mk (IsS73.below iz hb);(try clear hb);(try clear hb2);(try clear hk);(try clear hi)))
            go_meet
            case rel=>exact⟨_,((t1269 == 0)),(by first|rfl|(simp;done)|(simp[*];done)),H',⟨by have:=HK1.out;have:=HJ15.out;have:=HJ24.out;first|omega|exact Nat.le_refl _⟩,⟨by(with_reducible repeat (first|apply Kd.R_alloc|apply Kd.R_drewN|apply Kd.R_drew));exact HO_5.out⟩,⟨by(with_reducible repeat (first|apply Kd.N_alloc|apply Kd.N_drewN|apply Kd.N_drew));exact HO_6.out⟩,⟨by(with_reducible repeat (first|apply Kd.R_alloc|apply Kd.R_drewN|apply Kd.R_drew));exact HO_8.out⟩,⟨iz⟩,⟨by repeat (first|(with_reducible first|exact HK.out|apply KeepBut.set_|apply keep_drewN|apply keep_drew|apply keep_alloc)|exact HK.out)⟩,⟨bi⟩⟩
           ·rw[if_neg c39] at H
            exact absurd H (by simp)
          ·rw[if_neg c38] at H
           have c38b0:decide (x9_24<(x6_1.length:Int))=false:=decide_eq_false c38
           clear c38
           (first|rw[c38b0]|(simp only[i64_w,i32_w];rw[c38b0])|skip)
           have H':=Sd.mk H
           clear H
           obtain⟨Ao44,co44,eo44⟩:=Kd.N_slice HO_6.out
           subst eo44
           go_wp2
           go_meet
           case rel=>exact⟨_,(false),(by first|rfl|(simp;done)|(simp[*];done)),H',⟨by have:=HK1.out;have:=HJ15.out;have:=HJ24.out;first|omega|exact Nat.le_refl _⟩,⟨by(with_reducible repeat (first|apply Kd.R_alloc|apply Kd.R_drewN|apply Kd.R_drew));exact HO_5.out⟩,⟨by(with_reducible repeat (first|apply Kd.N_alloc|apply Kd.N_drewN|apply Kd.N_drew));exact HO_6.out⟩,⟨by(with_reducible repeat (first|apply Kd.R_alloc|apply Kd.R_drewN|apply Kd.R_drew));exact HO_8.out⟩,⟨iz⟩,⟨by repeat (first|(with_reducible first|exact HK.out|apply KeepBut.set_|apply keep_drewN|apply keep_drew|apply keep_alloc)|exact HK.out)⟩,⟨bi⟩⟩
         case rest =>
          clear HC37
          try clear c1
          try clear p1
          try clear q1
          try clear hx1
          try clear c2
          try clear p2
          try clear c3
          try clear c3b0
          try clear c3b1
          try clear c6
          try clear p6
          try clear c7
          try clear c12
          try clear p12
          try clear q12
          try clear hx12
          try clear c14
          try clear c14b0
          try clear c20
          try clear c20b0
          try clear c26
          try clear c26b0
          try clear c27
          try clear c27b0
          try clear c29
          try clear c29b0
          try clear c38
          try clear c38b0
          try clear c39
          try clear c39b0
          try clear hx1266_0
          try clear hx1268_0
          try clear p1
          try clear p12
          try clear p1266
          try clear p1268
          try clear p2
          try clear p6
          try clear q1
          try clear q12
          try clear q1266
          try clear q1268
          obtain⟨kq,x59_36,rfl,HA,HJ36,HO_5,HO_6,HO_8,HI0,HK,HB⟩:=hcut
          cases kq with
          | zero=>exact absurd HA.out (by simp[spec_l20Raw.j4])
          | succ kj36 =>
           have H:=HA.out
           clear HA
           simp only[spec_l20Raw.j4] at H
           by_cases c45:x59_36=true
           ·subst c45
            have H1:(if 0≤x9_24 then(if x9_24<(x5_1.length:Int) then(spec_l20Raw.l0 kj36 a1 (x5_1.set (x9_24:Int).toNat (wrap64 ((rd x5_1 x9_24)+1))) x6_1 (wrap64 (x7_1-1)) s0_0 x1001_15) else(none)) else(none))=some (r1,r2):=by rw[if_pos rfl] at H;exact H
            clear H
            have H:=H1
            clear H1
            by_cases c46:0≤x9_24
            ·rw[if_pos c46] at H
             have c46b0:decide (0≤x9_24)=true:=decide_eq_true c46
             clear c46
             by_cases c47:x9_24<(x5_1.length:Int)
             ·rw[if_pos c47] at H
              have c47b0:decide (x9_24<(x5_1.length:Int))=true:=decide_eq_true c47
              clear c47
              obtain⟨y1271,hy1271⟩:∃ y_:List Int,y_=(x5_1.set (x9_24:Int).toNat (wrap64 ((rd x5_1 x9_24)+1))):=⟨_,rfl⟩
              replace H:(spec_l20Raw.l0 kj36 a1 y1271 x6_1 (wrap64 (x7_1-1)) s0_0 x1001_15)=some (r1,r2):=hz hy1271 H
              have Ny1271:=Sd.mk hy1271
              clear hy1271
              have H':=Sd.mk H
              clear H
              obtain⟨Ao49,co49,eo49⟩:=Kd.R_slice HO_5.out
              subst eo49
              have p1270:0≤(x9_24:Int):=dz
              have q1270:x9_24<(x5_1.length:Int):=dz
              obtain⟨ad1270,e1270,hx1270_0⟩:=Kd.at_int (Kd.R_reads' HO_5.out).2.2 x9_24 p1270 q1270
              cases e1270
              replace p1270:=eq_true p1270
              replace q1270:=eq_true q1270
              have p48:0≤(x9_24:Int):=dz
              have q48:(x9_24:Int)<((x5_1.length:Int):Int):=dz
              obtain⟨go48,co48,eo48,gb48,gl48,cl48,HG48⟩:=Kd.R_form HO_5.out (by omega)
              (first|cases eo48|(injection eo48 with ea_ en_ ec_;(first|subst ea_|(injection ea_ with ea_;subst ea_));subst ec_;clear en_))
              have GB48:=Sd.mk gb48
              have GG48:=Sd.mk HG48
              clear gb48 gl48 HG48
              (first|simp only[add_plain] at hx1270_0|skip)
              obtain⟨hx48_0,hf48_0⟩:=Kd.R_celln 0 HO_5.out (x9_24:Int) p48 q48
              replace p48:=eq_true p48
              replace q48:=eq_true q48
              have HP50:=Kd.R_putg HO_5.out (x9_24:Int) (wrap64 ((rd x5_1 x9_24)+1))
              go_wp2_with (first|((with_reducible refine gate_store (t:=3) (p:=67) rfl ?_);refine store_event (t:=3) (p:=67) (v:=?vo_w51) (w1:=(wc.setCell ⟨go48,(x9_24:Int).toNat,none⟩ (.int .i64 (wrap64 ((rd x5_1 x9_24)+1))))) ?hg ?ho ?hn ?hr ?_;(case ho=>rfl);(case hg=>rfl);(case hn=>rfl);(case hr=>first|(go_simp;done)|(go_simp;rfl));intro w51 hw;have hg:wc.grownBy w51 (some go48):=(by rw[hw];exact HP50.2);have hp_:Kd.R (Kd.int .i64) 3 w51 w.heap.size (fun k_=>some k_≠(u8:Value).ownBlock) (.slice (some ⟨go48,0,none⟩) x5_1.length co49) y1271:=(by rw[hw,Ny1271.out];exact HP50.1);clear HP50;replace HO_6:=Sd.mk (Kd.N_afterv (v:=(.slice (some ⟨go48,0,none⟩) x5_1.length co49)) (v1:=(.slice (some ⟨go48,0,none⟩) x5_1.length co49)) (ok:=(fun k_=>some k_≠(u8:Value).ownBlock∧k_≠g)) (Kd.Nz <| Kd.N_mono HO_6.out (fun _ hk=>⟨⟨hk.2.1,hk.2.2⟩,hk.1⟩)) hg (.inl rfl));replace HO_8:=Sd.mk (Kd.R_after (v:=(.slice (some ⟨go48,0,none⟩) x5_1.length co49)) (v1:=(.slice (some ⟨go48,0,none⟩) x5_1.length co49)) (ok:=(fun _=>True)) (Kd.Rz <| Kd.R_mono HO_8.out (fun _ hk=>⟨trivial,hk⟩)) hg (.inl rfl));replace HI0:=Sd.mk (IsS73.grown iz hg (IsS73.own_ne HI0.out HO_5.out (by decide)));replace HB:=Sd.mk ((by rw[hw];exact below_set (HB.out) (Nat.le_trans HL.out GB48.out):Below w0.heap.size w0 w51));replace HK:=Sd.mk (KeepBut.trans kz (KeepBut.of_grown hg g) (Kd.R_base2 HO_5.out));replace HO_5:=Sd.mk (hp_);clear hg hw hp_))
              go_roundg kj36
              case measure=>have:=HK1.out;have:=HJ15.out;have:=HJ24.out;have:=HJ36.out;omega
              case rel=>exact⟨(y1271),(x6_1),(wrap64 (x7_1-1)),(x1001_15),(by first|rfl|(simp;done)|(simp[*];done)),H',⟨by have:=HK1.out;have:=HJ15.out;have:=HJ24.out;have:=HJ36.out;omega⟩,⟨Kd.Rz <| Kd.R_mono HO_5.out (fun _ hk=>trivial)⟩,⟨Kd.Nz <| Kd.N_mono HO_6.out (fun _ hk=>⟨hk.2,hk.1.2⟩)⟩,⟨iz⟩,⟨by repeat (first|(with_reducible first|exact HK.out|apply KeepBut.set_|apply keep_drewN|apply keep_drew|apply keep_alloc)|exact HK.out)⟩,⟨bi⟩⟩
             ·rw[if_neg c47] at H
              exact absurd H (by simp)
            ·rw[if_neg c46] at H
             exact absurd H (by simp)
           ·replace c45:=Bool.eq_false_iff.mpr c45
            subst c45
            have H1:((some (([]:List Int):List Int)).bind fun y1272=>(if 0≤x9_24 then(if x9_24≤(x5_1.length:Int) then((some (x5_1.take (x9_24:Int).toNat:List Int)).bind fun y1275=>(if y1272.length+y1275.length<17592186044416 then((some (y1272++y1275:List Int)).bind fun y1280=>((spec_l20Rd_pick.f kj36 s0_0 x1001_15 3).bind fun bt1283=>((spec_l20Rd_pick.f kj36 s0_0 bt1283.2 60).bind fun bt1285=>((some (([wrap64 ((wrap64 (1+bt1283.1))+(wrap64 ((wrap64 (Int.tdiv bt1285.1 59))*60)))]:List Int):List Int)).bind fun y1287=>(if y1280.length+y1287.length<17592186044416 then((some (y1280++y1287:List Int)).bind fun y1290=>((some (x5_1.drop (x9_24:Int).toNat:List Int)).bind fun y1293=>(if y1290.length+y1293.length<17592186044416 then((some (([]:List (List Int)):List (List Int))).bind fun y1301=>(if x9_24≤(x6_1.length:Int) then((some (x6_1.take (x9_24:Int).toNat:List (List Int))).bind fun y1304=>(if y1301.length+y1304.length<5864062014805 then((some (y1301++y1304:List (List Int))).bind fun y1309=>((some (([x8_15]:List (List Int)):List (List Int))).bind fun y1312=>(if y1309.length+y1312.length<5864062014805 then((some (y1309++y1312:List (List Int))).bind fun y1315=>((some (x6_1.drop (x9_24:Int).toNat:List (List Int))).bind fun y1318=>(if y1315.length+y1318.length<5864062014805 then(spec_l20Raw.l0 kj36 a1 (y1290++y1293) (y1315++y1318) (wrap64 (x7_1-1)) s0_0 bt1285.2) else(none)))) else(none)))) else(none))) else(none))) else(none)))) else(none)))))) else(none))) else(none)) else(none)))=some (r1,r2):=by rw[if_neg (show ¬ (false=true) by decide)] at H;exact H
            clear H
            have H:=H1
            clear H1
            obtain⟨y1272,hy1272⟩:∃ y_:List Int,y_=(([]:List Int)):=⟨_,rfl⟩
            replace H:(if 0≤x9_24 then(if x9_24≤(x5_1.length:Int) then((some (x5_1.take (x9_24:Int).toNat:List Int)).bind fun y1275=>(if y1272.length+y1275.length<17592186044416 then((some (y1272++y1275:List Int)).bind fun y1280=>((spec_l20Rd_pick.f kj36 s0_0 x1001_15 3).bind fun bt1283=>((spec_l20Rd_pick.f kj36 s0_0 bt1283.2 60).bind fun bt1285=>((some (([wrap64 ((wrap64 (1+bt1283.1))+(wrap64 ((wrap64 (Int.tdiv bt1285.1 59))*60)))]:List Int):List Int)).bind fun y1287=>(if y1280.length+y1287.length<17592186044416 then((some (y1280++y1287:List Int)).bind fun y1290=>((some (x5_1.drop (x9_24:Int).toNat:List Int)).bind fun y1293=>(if y1290.length+y1293.length<17592186044416 then((some (([]:List (List Int)):List (List Int))).bind fun y1301=>(if x9_24≤(x6_1.length:Int) then((some (x6_1.take (x9_24:Int).toNat:List (List Int))).bind fun y1304=>(if y1301.length+y1304.length<5864062014805 then((some (y1301++y1304:List (List Int))).bind fun y1309=>((some (([x8_15]:List (List Int)):List (List Int))).bind fun y1312=>(if y1309.length+y1312.length<5864062014805 then((some (y1309++y1312:List (List Int))).bind fun y1315=>((some (x6_1.drop (x9_24:Int).toNat:List (List Int))).bind fun y1318=>(if y1315.length+y1318.length<5864062014805 then(spec_l20Raw.l0 kj36 a1 (y1290++y1293) (y1315++y1318) (wrap64 (x7_1-1)) s0_0 bt1285.2) else(none)))) else(none)))) else(none))) else(none))) else(none)))) else(none)))))) else(none))) else(none)) else(none))=some (r1,r2):=hz hy1272 H
            have Ny1272:=Sd.mk hy1272
            clear hy1272
            by_cases c52:0≤x9_24
            ·rw[if_pos c52] at H
             have c52b0:=eq_true c52
             have c52b1:decide (0≤x9_24)=true:=decide_eq_true c52
             clear c52
             by_cases c53:x9_24≤(x5_1.length:Int)
             ·rw[if_pos c53] at H
              have c53b0:=eq_true c53
              have c53b1:decide (x9_24≤(x5_1.length:Int))=true:=decide_eq_true c53
              clear c53
              obtain⟨y1275,hy1275⟩:∃ y_:List Int,y_=(x5_1.take (x9_24:Int).toNat):=⟨_,rfl⟩
              replace H:(if y1272.length+y1275.length<17592186044416 then((some (y1272++y1275:List Int)).bind fun y1280=>((spec_l20Rd_pick.f kj36 s0_0 x1001_15 3).bind fun bt1283=>((spec_l20Rd_pick.f kj36 s0_0 bt1283.2 60).bind fun bt1285=>((some (([wrap64 ((wrap64 (1+bt1283.1))+(wrap64 ((wrap64 (Int.tdiv bt1285.1 59))*60)))]:List Int):List Int)).bind fun y1287=>(if y1280.length+y1287.length<17592186044416 then((some (y1280++y1287:List Int)).bind fun y1290=>((some (x5_1.drop (x9_24:Int).toNat:List Int)).bind fun y1293=>(if y1290.length+y1293.length<17592186044416 then((some (([]:List (List Int)):List (List Int))).bind fun y1301=>(if x9_24≤(x6_1.length:Int) then((some (x6_1.take (x9_24:Int).toNat:List (List Int))).bind fun y1304=>(if y1301.length+y1304.length<5864062014805 then((some (y1301++y1304:List (List Int))).bind fun y1309=>((some (([x8_15]:List (List Int)):List (List Int))).bind fun y1312=>(if y1309.length+y1312.length<5864062014805 then((some (y1309++y1312:List (List Int))).bind fun y1315=>((some (x6_1.drop (x9_24:Int).toNat:List (List Int))).bind fun y1318=>(if y1315.length+y1318.length<5864062014805 then(spec_l20Raw.l0 kj36 a1 (y1290++y1293) (y1315++y1318) (wrap64 (x7_1-1)) s0_0 bt1285.2) else(none)))) else(none)))) else(none))) else(none))) else(none)))) else(none)))))) else(none))=some (r1,r2):=hz hy1275 H
              have Ny1275:=Sd.mk hy1275
              clear hy1275
              by_cases c54:y1272.length+y1275.length<17592186044416
              ·rw[if_pos c54] at H
               have LMc54:=Sd.mk c54
               clear c54
               obtain⟨y1280,hy1280⟩:∃ y_:List Int,y_=(y1272++y1275):=⟨_,rfl⟩
               replace H:((spec_l20Rd_pick.f kj36 s0_0 x1001_15 3).bind fun bt1283=>((spec_l20Rd_pick.f kj36 s0_0 bt1283.2 60).bind fun bt1285=>((some (([wrap64 ((wrap64 (1+bt1283.1))+(wrap64 ((wrap64 (Int.tdiv bt1285.1 59))*60)))]:List Int):List Int)).bind fun y1287=>(if y1280.length+y1287.length<17592186044416 then((some (y1280++y1287:List Int)).bind fun y1290=>((some (x5_1.drop (x9_24:Int).toNat:List Int)).bind fun y1293=>(if y1290.length+y1293.length<17592186044416 then((some (([]:List (List Int)):List (List Int))).bind fun y1301=>(if x9_24≤(x6_1.length:Int) then((some (x6_1.take (x9_24:Int).toNat:List (List Int))).bind fun y1304=>(if y1301.length+y1304.length<5864062014805 then((some (y1301++y1304:List (List Int))).bind fun y1309=>((some (([x8_15]:List (List Int)):List (List Int))).bind fun y1312=>(if y1309.length+y1312.length<5864062014805 then((some (y1309++y1312:List (List Int))).bind fun y1315=>((some (x6_1.drop (x9_24:Int).toNat:List (List Int))).bind fun y1318=>(if y1315.length+y1318.length<5864062014805 then(spec_l20Raw.l0 kj36 a1 (y1290++y1293) (y1315++y1318) (wrap64 (x7_1-1)) s0_0 bt1285.2) else(none)))) else(none)))) else(none))) else(none))) else(none)))) else(none)))))=some (r1,r2):=hz hy1280 H
               have Ny1280:=Sd.mk hy1280
               clear hy1280
               replace H:=Option.bind_eq_some_iff.mp H
               obtain⟨⟨t1283,t1284⟩,A550,H⟩:=H
               replace H:((spec_l20Rd_pick.f kj36 s0_0 t1284 60).bind fun bt1285=>((some (([wrap64 ((wrap64 (1+t1283))+(wrap64 ((wrap64 (Int.tdiv bt1285.1 59))*60)))]:List Int):List Int)).bind fun y1287=>(if y1280.length+y1287.length<17592186044416 then((some (y1280++y1287:List Int)).bind fun y1290=>((some (x5_1.drop (x9_24:Int).toNat:List Int)).bind fun y1293=>(if y1290.length+y1293.length<17592186044416 then((some (([]:List (List Int)):List (List Int))).bind fun y1301=>(if x9_24≤(x6_1.length:Int) then((some (x6_1.take (x9_24:Int).toNat:List (List Int))).bind fun y1304=>(if y1301.length+y1304.length<5864062014805 then((some (y1301++y1304:List (List Int))).bind fun y1309=>((some (([x8_15]:List (List Int)):List (List Int))).bind fun y1312=>(if y1309.length+y1312.length<5864062014805 then((some (y1309++y1312:List (List Int))).bind fun y1315=>((some (x6_1.drop (x9_24:Int).toNat:List (List Int))).bind fun y1318=>(if y1315.length+y1318.length<5864062014805 then(spec_l20Raw.l0 kj36 a1 (y1290++y1293) (y1315++y1318) (wrap64 (x7_1-1)) s0_0 bt1285.2) else(none)))) else(none)))) else(none))) else(none))) else(none)))) else(none))))=some (r1,r2):=H
               have A55:=Sd.mk A550
               clear A550
               replace H:=Option.bind_eq_some_iff.mp H
               obtain⟨⟨t1285,t1286⟩,A560,H⟩:=H
               replace H:((some (([wrap64 ((wrap64 (1+t1283))+(wrap64 ((wrap64 (Int.tdiv t1285 59))*60)))]:List Int):List Int)).bind fun y1287=>(if y1280.length+y1287.length<17592186044416 then((some (y1280++y1287:List Int)).bind fun y1290=>((some (x5_1.drop (x9_24:Int).toNat:List Int)).bind fun y1293=>(if y1290.length+y1293.length<17592186044416 then((some (([]:List (List Int)):List (List Int))).bind fun y1301=>(if x9_24≤(x6_1.length:Int) then((some (x6_1.take (x9_24:Int).toNat:List (List Int))).bind fun y1304=>(if y1301.length+y1304.length<5864062014805 then((some (y1301++y1304:List (List Int))).bind fun y1309=>((some (([x8_15]:List (List Int)):List (List Int))).bind fun y1312=>(if y1309.length+y1312.length<5864062014805 then((some (y1309++y1312:List (List Int))).bind fun y1315=>((some (x6_1.drop (x9_24:Int).toNat:List (List Int))).bind fun y1318=>(if y1315.length+y1318.length<5864062014805 then(spec_l20Raw.l0 kj36 a1 (y1290++y1293) (y1315++y1318) (wrap64 (x7_1-1)) s0_0 t1286) else(none)))) else(none)))) else(none))) else(none))) else(none)))) else(none)))=some (r1,r2):=H
               have A56:=Sd.mk A560
               clear A560
               obtain⟨y1287,hy1287⟩:∃ y_:List Int,y_=(([wrap64 ((wrap64 (1+t1283))+(wrap64 ((wrap64 (Int.tdiv t1285 59))*60)))]:List Int)):=⟨_,rfl⟩
               replace H:(if y1280.length+y1287.length<17592186044416 then((some (y1280++y1287:List Int)).bind fun y1290=>((some (x5_1.drop (x9_24:Int).toNat:List Int)).bind fun y1293=>(if y1290.length+y1293.length<17592186044416 then((some (([]:List (List Int)):List (List Int))).bind fun y1301=>(if x9_24≤(x6_1.length:Int) then((some (x6_1.take (x9_24:Int).toNat:List (List Int))).bind fun y1304=>(if y1301.length+y1304.length<5864062014805 then((some (y1301++y1304:List (List Int))).bind fun y1309=>((some (([x8_15]:List (List Int)):List (List Int))).bind fun y1312=>(if y1309.length+y1312.length<5864062014805 then((some (y1309++y1312:List (List Int))).bind fun y1315=>((some (x6_1.drop (x9_24:Int).toNat:List (List Int))).bind fun y1318=>(if y1315.length+y1318.length<5864062014805 then(spec_l20Raw.l0 kj36 a1 (y1290++y1293) (y1315++y1318) (wrap64 (x7_1-1)) s0_0 t1286) else(none)))) else(none)))) else(none))) else(none))) else(none)))) else(none))=some (r1,r2):=hz hy1287 H
               have Ny1287:=Sd.mk hy1287
               clear hy1287
               by_cases c57:y1280.length+y1287.length<17592186044416
               ·rw[if_pos c57] at H
                have LMc57:=Sd.mk c57
                clear c57
                obtain⟨y1290,hy1290⟩:∃ y_:List Int,y_=(y1280++y1287):=⟨_,rfl⟩
                replace H:((some (x5_1.drop (x9_24:Int).toNat:List Int)).bind fun y1293=>(if y1290.length+y1293.length<17592186044416 then((some (([]:List (List Int)):List (List Int))).bind fun y1301=>(if x9_24≤(x6_1.length:Int) then((some (x6_1.take (x9_24:Int).toNat:List (List Int))).bind fun y1304=>(if y1301.length+y1304.length<5864062014805 then((some (y1301++y1304:List (List Int))).bind fun y1309=>((some (([x8_15]:List (List Int)):List (List Int))).bind fun y1312=>(if y1309.length+y1312.length<5864062014805 then((some (y1309++y1312:List (List Int))).bind fun y1315=>((some (x6_1.drop (x9_24:Int).toNat:List (List Int))).bind fun y1318=>(if y1315.length+y1318.length<5864062014805 then(spec_l20Raw.l0 kj36 a1 (y1290++y1293) (y1315++y1318) (wrap64 (x7_1-1)) s0_0 t1286) else(none)))) else(none)))) else(none))) else(none))) else(none)))=some (r1,r2):=hz hy1290 H
                have Ny1290:=Sd.mk hy1290
                clear hy1290
                have c58b0:=eq_true (dz:0≤x9_24)
                have c59b0:=eq_true (dz:x9_24≤(x5_1.length:Int))
                obtain⟨y1293,hy1293⟩:∃ y_:List Int,y_=(x5_1.drop (x9_24:Int).toNat):=⟨_,rfl⟩
                replace H:(if y1290.length+y1293.length<17592186044416 then((some (([]:List (List Int)):List (List Int))).bind fun y1301=>(if x9_24≤(x6_1.length:Int) then((some (x6_1.take (x9_24:Int).toNat:List (List Int))).bind fun y1304=>(if y1301.length+y1304.length<5864062014805 then((some (y1301++y1304:List (List Int))).bind fun y1309=>((some (([x8_15]:List (List Int)):List (List Int))).bind fun y1312=>(if y1309.length+y1312.length<5864062014805 then((some (y1309++y1312:List (List Int))).bind fun y1315=>((some (x6_1.drop (x9_24:Int).toNat:List (List Int))).bind fun y1318=>(if y1315.length+y1318.length<5864062014805 then(spec_l20Raw.l0 kj36 a1 (y1290++y1293) (y1315++y1318) (wrap64 (x7_1-1)) s0_0 t1286) else(none)))) else(none)))) else(none))) else(none))) else(none))=some (r1,r2):=hz hy1293 H
                have Ny1293:=Sd.mk hy1293
                clear hy1293
                by_cases c60:y1290.length+y1293.length<17592186044416
                ·rw[if_pos c60] at H
                 have LMc60:=Sd.mk c60
                 clear c60
                 obtain⟨y1298,hy1298⟩:∃ y_:List Int,y_=(y1290++y1293):=⟨_,rfl⟩
                 replace H:((some (([]:List (List Int)):List (List Int))).bind fun y1301=>(if x9_24≤(x6_1.length:Int) then((some (x6_1.take (x9_24:Int).toNat:List (List Int))).bind fun y1304=>(if y1301.length+y1304.length<5864062014805 then((some (y1301++y1304:List (List Int))).bind fun y1309=>((some (([x8_15]:List (List Int)):List (List Int))).bind fun y1312=>(if y1309.length+y1312.length<5864062014805 then((some (y1309++y1312:List (List Int))).bind fun y1315=>((some (x6_1.drop (x9_24:Int).toNat:List (List Int))).bind fun y1318=>(if y1315.length+y1318.length<5864062014805 then(spec_l20Raw.l0 kj36 a1 y1298 (y1315++y1318) (wrap64 (x7_1-1)) s0_0 t1286) else(none)))) else(none)))) else(none))) else(none)))=some (r1,r2):=hz hy1298 H
                 have Ny1298:=Sd.mk hy1298
                 clear hy1298
                 obtain⟨y1301,hy1301⟩:∃ y_:List (List Int),y_=(([]:List (List Int))):=⟨_,rfl⟩
                 replace H:(if x9_24≤(x6_1.length:Int) then((some (x6_1.take (x9_24:Int).toNat:List (List Int))).bind fun y1304=>(if y1301.length+y1304.length<5864062014805 then((some (y1301++y1304:List (List Int))).bind fun y1309=>((some (([x8_15]:List (List Int)):List (List Int))).bind fun y1312=>(if y1309.length+y1312.length<5864062014805 then((some (y1309++y1312:List (List Int))).bind fun y1315=>((some (x6_1.drop (x9_24:Int).toNat:List (List Int))).bind fun y1318=>(if y1315.length+y1318.length<5864062014805 then(spec_l20Raw.l0 kj36 a1 y1298 (y1315++y1318) (wrap64 (x7_1-1)) s0_0 t1286) else(none)))) else(none)))) else(none))) else(none))=some (r1,r2):=hz hy1301 H
                 have Ny1301:=Sd.mk hy1301
                 clear hy1301
                 have c61b0:=eq_true (dz:0≤x9_24)
                 by_cases c62:x9_24≤(x6_1.length:Int)
                 ·rw[if_pos c62] at H
                  have c62b0:=eq_true c62
                  have c62b1:decide (x9_24≤(x6_1.length:Int))=true:=decide_eq_true c62
                  clear c62
                  obtain⟨y1304,hy1304⟩:∃ y_:List (List Int),y_=(x6_1.take (x9_24:Int).toNat):=⟨_,rfl⟩
                  replace H:(if y1301.length+y1304.length<5864062014805 then((some (y1301++y1304:List (List Int))).bind fun y1309=>((some (([x8_15]:List (List Int)):List (List Int))).bind fun y1312=>(if y1309.length+y1312.length<5864062014805 then((some (y1309++y1312:List (List Int))).bind fun y1315=>((some (x6_1.drop (x9_24:Int).toNat:List (List Int))).bind fun y1318=>(if y1315.length+y1318.length<5864062014805 then(spec_l20Raw.l0 kj36 a1 y1298 (y1315++y1318) (wrap64 (x7_1-1)) s0_0 t1286) else(none)))) else(none)))) else(none))=some (r1,r2):=hz hy1304 H
                  have Ny1304:=Sd.mk hy1304
                  clear hy1304
                  by_cases c63:y1301.length+y1304.length<5864062014805
                  ·rw[if_pos c63] at H
                   have LMc63:=Sd.mk c63
                   clear c63
                   obtain⟨y1309,hy1309⟩:∃ y_:List (List Int),y_=(y1301++y1304):=⟨_,rfl⟩
                   replace H:((some (([x8_15]:List (List Int)):List (List Int))).bind fun y1312=>(if y1309.length+y1312.length<5864062014805 then((some (y1309++y1312:List (List Int))).bind fun y1315=>((some (x6_1.drop (x9_24:Int).toNat:List (List Int))).bind fun y1318=>(if y1315.length+y1318.length<5864062014805 then(spec_l20Raw.l0 kj36 a1 y1298 (y1315++y1318) (wrap64 (x7_1-1)) s0_0 t1286) else(none)))) else(none)))=some (r1,r2):=hz hy1309 H
                   have Ny1309:=Sd.mk hy1309
                   clear hy1309
                   obtain⟨y1312,hy1312⟩:∃ y_:List (List Int),y_=(([x8_15]:List (List Int))):=⟨_,rfl⟩
                   replace H:(if y1309.length+y1312.length<5864062014805 then((some (y1309++y1312:List (List Int))).bind fun y1315=>((some (x6_1.drop (x9_24:Int).toNat:List (List Int))).bind fun y1318=>(if y1315.length+y1318.length<5864062014805 then(spec_l20Raw.l0 kj36 a1 y1298 (y1315++y1318) (wrap64 (x7_1-1)) s0_0 t1286) else(none)))) else(none))=some (r1,r2):=hz hy1312 H
                   have Ny1312:=Sd.mk hy1312
                   clear hy1312
                   by_cases c64:y1309.length+y1312.length<5864062014805
                   ·rw[if_pos c64] at H
                    have LMc64:=Sd.mk c64
                    clear c64
                    obtain⟨y1315,hy1315⟩:∃ y_:List (List Int),y_=(y1309++y1312):=⟨_,rfl⟩
                    replace H:((some (x6_1.drop (x9_24:Int).toNat:List (List Int))).bind fun y1318=>(if y1315.length+y1318.length<5864062014805 then(spec_l20Raw.l0 kj36 a1 y1298 (y1315++y1318) (wrap64 (x7_1-1)) s0_0 t1286) else(none)))=some (r1,r2):=hz hy1315 H
                    have Ny1315:=Sd.mk hy1315
                    clear hy1315
                    have c65b0:=eq_true (dz:0≤x9_24)
                    have c66b0:=eq_true (dz:x9_24≤(x6_1.length:Int))
                    obtain⟨y1318,hy1318⟩:∃ y_:List (List Int),y_=(x6_1.drop (x9_24:Int).toNat):=⟨_,rfl⟩
                    replace H:(if y1315.length+y1318.length<5864062014805 then(spec_l20Raw.l0 kj36 a1 y1298 (y1315++y1318) (wrap64 (x7_1-1)) s0_0 t1286) else(none))=some (r1,r2):=hz hy1318 H
                    have Ny1318:=Sd.mk hy1318
                    clear hy1318
                    by_cases c67:y1315.length+y1318.length<5864062014805
                    ·rw[if_pos c67] at H
                     have LMc67:=Sd.mk c67
                     clear c67
                     obtain⟨y1323,hy1323⟩:∃ y_:List (List Int),y_=(y1315++y1318):=⟨_,rfl⟩
                     replace H:(spec_l20Raw.l0 kj36 a1 y1298 y1323 (wrap64 (x7_1-1)) s0_0 t1286)=some (r1,r2):=hz hy1323 H
                     have Ny1323:=Sd.mk hy1323
                     clear hy1323
                     have H':=Sd.mk H
                     clear H
                     try go_wp2
                     have n0_:=Sd.mk (Kd.R_drew HO_5.out)
                     have n1_:=Sd.mk (Kd.N_drew HO_6.out)
                     have n2_:=Sd.mk (Kd.R_drew HO_8.out)
                     have n3_:=Sd.mk (IsS73.drew HI0.out)
                     have n4_:=Sd.mk (keep_drew HK.out)
                     have n5_:=Sd.mk (below_drew1 HB.out)
                     clear HO_5
                     clear HO_6
                     clear HO_8
                     clear HI0
                     clear HK
                     clear HB
                     have HO_5:=n0_
                     have HO_6:=n1_
                     have HO_8:=n2_
                     have HI0:=n3_
                     have HK:=n4_
                     have HB:=n5_
                     clear n0_ n1_ n2_ n3_ n4_ n5_
                     obtain⟨Ao70,co70,eo70⟩:=Kd.R_slice HO_5.out
                     (first|subst eo70|(injection eo70 with f1_ f2_ f3_;have f4_:=f1_.symm;have f5_:=f3_.symm;clear f1_ f2_ f3_;subst f4_;subst f5_))
                     have q69:(x9_24:Int)≤((x5_1.length:Int):Int):=dz
                     obtain⟨i069,hi069,_,hsz69,_⟩:=info_parts info3
                     have hroom69:x5_1.length≤co70:=(Kd.R_reads' HO_5.out).2.1
                     have hC69:Kd.F (Kd.int .i64) _ _ Ao70 x5_1.length x5_1:=(Kd.V_at (base:=w.heap.size) (Kd.R_V (IsS73.apart HI0.out (Kd.R_apart' (HO_5.out) (Kd.N_typed HO_6.out) (by decide)) (by decide)))).2.2
                     have hcut69:=cut_to (P:=Try.prog) 22 3 .i64 Try.underlying22 hi069 Ao70 x5_1.length co70 x9_24 (dz) q69 hroom69
                     have hr69:=Kd.F_take (m:=(x9_24:Int).toNat) hC69 (by omega)
                     have hy69:y1275.length=(x9_24:Int).toNat:=(by rw[Ny1275.out,List.length_take];omega)
                     rw[← Ny1275.out] at hr69
                     rw[← hy69] at hcut69
                     have HO1279:=Sd.mk (show Kd.V (Kd.int .i64) 3 _ w.heap.size _ (.slice Ao70 y1275.length co70) y1275 from Kd.V_mk (by omega) hr69)
                     have HC1279:=Sd.mk (show y1275.length≤co70 from by omega)
                     clear hr69 hC69 hroom69 hi069 hsz69
                     have KY69:=Sd.mk hy69
                     clear hy69
                     replace q69:=eq_true q69
                     have q71:(x9_24:Int)≤((x5_1.length:Int):Int):=dz
                     obtain⟨i071,hi071,_,hsz71,_⟩:=info_parts info3
                     have hroom71:x5_1.length≤co70:=(Kd.R_reads' HO_5.out).2.1
                     have hC71:Kd.F (Kd.int .i64) _ _ Ao70 x5_1.length x5_1:=(Kd.V_at (base:=w.heap.size) (Kd.R_V (IsS73.apart HI0.out (Kd.R_apart' (HO_5.out) (Kd.N_typed HO_6.out) (by decide)) (by decide)))).2.2
                     have q071:(0:Int)≤(x9_24:Int):=dz
                     have hcut71:=cut_from (P:=Try.prog) 22 3 .i64 Try.underlying22 hi071 1 hsz71 Ao70 x5_1.length co70 x9_24 q071 q71
                     have hr71:=Kd.F_cut (m:=(x9_24:Int).toNat) (c:=co70) hC71 (by omega) hroom71
                     obtain⟨A71,hA71⟩:∃ Aq_,Aq_=(if co70=(x9_24:Int).toNat then Ao70 else(Ao70:Option Addr).map (·.add ((x9_24:Int).toNat*1))):=⟨_,rfl⟩
                     obtain⟨c71,hc71⟩:∃ cq_,cq_=co70-(x9_24:Int).toNat:=⟨_,rfl⟩
                     have hy71:y1293.length=x5_1.length-(x9_24:Int).toNat:=(by rw[Ny1293.out,List.length_drop]<;>omega)
                     rw[show (x5_1).drop (x9_24:Int).toNat=y1293 from Ny1293.out.symm] at hr71
                     replace hr71:Kd.F (Kd.int .i64) _ _ A71 y1293.length y1293:=(by rw[hA71];exact hr71)
                     rw[← hy71,← hA71,← hc71] at hcut71
                     have HO1297:=Sd.mk (show Kd.V (Kd.int .i64) 3 _ w.heap.size _ (.slice A71 y1293.length c71) y1293 from Kd.V_mk (by rw[hy71,hc71];exact Nat.sub_le_sub_right hroom71 _) hr71)
                     have HC1297:=Sd.mk (show y1293.length≤c71 from by rw[hy71,hc71];exact Nat.sub_le_sub_right hroom71 _)
                     clear hr71 hC71 hroom71 hi071 hsz71 hc71
                     have KY71:=Sd.mk hy71
                     have KA71:=Sd.mk hA71
                     clear hy71 hA71
                     replace q71:=eq_true q71
                     refine start_ (n:=20) (S:=fun w'=>True) (ds:=[]) #[F,F,F,F,F,F,F,F,F,F,F,F,F,F,F,F,F,F,F,F] (by kernel_rfl) rfl rfl trivial (fun hHeld=>?_);refine with_tabW spec_l20Raw.tab16 spec_l20Raw.bits16 (fun HT_ HW_=>?_)
                     generalize wc.drew=w68 at HO_5 HO_6 HO_8 HI0 HK HB HO1279 HO1297 hHeld ⊢
                     refine pq 1 (some 69) HT_.out rfl rfl ?_
                     refine pq 2 (some 70) HT_.out rfl rfl ?_
                     refine pq 3 (some 71) HT_.out rfl rfl ?_
                     refine pq 5 (some 73) HT_.out rfl rfl ?_
                     refine pq 8 (some 76) HT_.out rfl rfl ?_
                     refine pq 15 (some 83) HT_.out rfl rfl ?_
                     refine pq 16 (some 84) HT_.out rfl rfl ?_
                     refine pq 17 (some 85) HT_.out rfl rfl ?_
                     refine one_ (i:=0) (N:=some 68) #[T,T,T,T,F,T,F,F,T,F,F,F,F,F,F,T,T,T,F,F] rfl rfl (one_of HT_.out (by kernel_rfl)) (by decide) (fun K hK=>?_)
                     refine Kd.R_lit_step (Kd.int .i64) _ 3 ?hg (N:=68) ?hd (xs:=([]:List Int)) (inner:=[]) (ok:=fun _=>True) (okp:=fun _=>True) ?hr ?hp (fun _ hk=>hk) trivial (Below.refl _ _) (Nat.le_refl _) (by simp) ?_;(case hd=>rfl);(case hg=>rfl);(case hr=>first|(go_simp;done)|(go_simp;rfl));(case hp=>exact(Reps.none _ _))
                     intro v1273 w72 ho73 hb hg_ hnew_
                     clear hg_ hnew_
                     (first|rw[← Ny1272.out] at ho73|(simp only[Int.reduceToNat] at ho73;rw[← Ny1272.out] at ho73))
                     have n0_:=Sd.mk (Kd.R_elder' (Kd.Rz HO_5.out) (Kd.R_base ho73) hb)
                     have n1_:=Sd.mk (Kd.N_elder' (Kd.Nz HO_6.out) (Kd.R_base ho73) hb)
                     have n2_:=Sd.mk (Kd.R_elder' (Kd.Rz HO_8.out) (Kd.R_base ho73) hb)
                     have n3_:=Sd.mk (Kd.V_elder' (Kd.Vz HO1279.out) (Kd.R_base ho73) hb)
                     have n4_:=Sd.mk (Kd.V_elder' (Kd.Vz HO1297.out) (Kd.R_base ho73) hb)
                     have n5_:=Sd.mk (Kd.R_lower (Kd.R_new' (Kd.R_new' ho73 (Kd.R_lt (Kd.Rz HO_5.out))) (Kd.R_lt (Kd.Rz HO_8.out))) (keep_size (w:=w) (g:=g) (row:=none) kz))
                     have n6_:=Sd.mk (IsS73.below iz hb)
                     have n7_:=Sd.mk (KeepBut.trans kz (KeepBut.of_below hb g none) (.inl rfl))
                     have n8_:=Sd.mk (below_step (bi) hb)
                     clear HO_5
                     clear HO_6
                     clear HO_8
                     clear HO1279
                     clear HO1297
                     clear HI0
                     clear HK
                     clear HB
                     have HO_5:=n0_
                     have HO_6:=n1_
                     have HO_8:=n2_
                     have HO1279:=n3_
                     have HO1297:=n4_
                     have HO1274:=n5_
                     have HI0:=n6_
                     have HK:=n7_
                     have HB:=n8_
                     clear n0_ n1_ n2_ n3_ n4_ n5_ n6_ n7_ n8_
                     clear hb ho73
                     refine hK.out _ _ trivial (fun hHeld=>?_)
                     clear hK K
                     refine norm_ (a':=?_) ?_ ?_
                     rotate_left
                     ·show Act.put _ (some 68) _=_
                      simp only[Act.put,s1,s2,s3,i64_w,i32_w]
                      rfl
                     refine one_ (i:=4) (N:=some 72) #[T,T,T,T,T,T,F,F,T,F,F,F,F,F,F,T,T,T,F,F] rfl rfl (one_of HT_.out (by kernel_rfl)) (by decide) (fun K hK=>?_)
                     refine Kd.R_append_rows_step (Kd.int .i64) w.heap.size (by rfl) (.tmp 68) (.tmp 71) 22 3 (.int .i64 0) 8 rfl Try.underlying22 info3 rfl (by decide) (by omega) v1273 y1272 y1275 _ _ _ (fun k_=>some k_≠(.slice Ao70 x5_1.length co70:Value).ownBlock∧some k_≠(u8:Value).ownBlock) (fun _=>False) rfl rfl ?aO ?aR (fun _ _ h=>h) (fun _ h=>h.elim) ?aF (Below.refl _ _) ?aS ?aL ?_
                     (case aR=>repeat (first|exact(Kd.V_reads' HO1279.out).2.2|(with_reducible refine Kd.C_alloc ?_ _)|(with_reducible refine Kd.C_drewN ?_ _)|(with_reducible refine Kd.C_drew ?_)))
                     (case aF=>exact(fun k_ hk=>⟨Kd.fresh' (Kd.R_lt (Kd.Rz HO_5.out)) k_ hk,Kd.fresh' (Kd.R_lt (Kd.Rz HO_8.out)) k_ hk⟩))
                     (case aO=>exact(Kd.Rz <| Kd.R_mono HO1274.out (fun _ hk=>⟨hk.1.2,hk.2⟩)))
                     (case aS=>exact(keep_size (w:=w) (g:=g) (row:=none) kz))
                     (case aL=>have:=LMc54.out;omega)
                     intro v1281 w74 ho hb hg hat
                     rw[← Ny1280.out] at ho
                     have n0_:=Sd.mk (Kd.R_after (ok:=(fun k_=>some k_≠(u8:Value).ownBlock)) (Kd.Rz HO_5.out) hg hat)
                     have n1_:=Sd.mk (Kd.N_afterv (ok:=(fun k_=>some k_≠(.slice Ao70 x5_1.length co70:Value).ownBlock∧some k_≠(u8:Value).ownBlock∧k_≠g)) (Kd.Nz HO_6.out) hg hat)
                     have n2_:=Sd.mk (Kd.R_after (ok:=(fun k_=>some k_≠(.slice Ao70 x5_1.length co70:Value).ownBlock)) (Kd.Rz HO_8.out) hg hat)
                     have n3_:=Sd.mk (IsS73.grown iz hg (IsS73.own_ne HI0.out HO1274.out (by decide)))
                     have n4_:=Sd.mk (Kd.V_afterv (ok:=(fun k_=>some k_≠(u6:Value).ownBlock∧some k_≠(u8:Value).ownBlock∧k_≠g)) (Kd.Vz <| Kd.V_mono HO1279.out (fun _ hk=>⟨⟨hk.1.1.2,⟨hk.1.1.1,hk.1.2⟩⟩,hk.2⟩)) hg hat)
                     have n5_:=Sd.mk (Kd.V_afterv (ok:=(fun k_=>some k_≠(u6:Value).ownBlock∧some k_≠(u8:Value).ownBlock∧k_≠g)) (Kd.Vz <| Kd.V_mono HO1297.out (fun _ hk=>⟨⟨hk.1.1.2,⟨hk.1.1.1,hk.1.2⟩⟩,hk.2⟩)) hg hat)
                     have n6_:=Sd.mk (below_weaken (bi) HL.out hb)
                     have n7_:=Sd.mk (KeepBut.trans kz (KeepBut.of_grown hg g) (Kd.R_base2 HO1274.out))
                     have n8_:=Sd.mk (ho)
                     clear HO_5
                     clear HO_6
                     clear HO_8
                     clear HI0
                     clear HO1279
                     clear HO1297
                     clear HB
                     clear HK
                     clear HO1274
                     have HO_5:=n0_
                     have HO_6:=n1_
                     have HO_8:=n2_
                     have HI0:=n3_
                     have HO1279:=n4_
                     have HO1297:=n5_
                     have HB:=n6_
                     have HK:=n7_
                     have HO1282:=n8_
                     clear n0_ n1_ n2_ n3_ n4_ n5_ n6_ n7_ n8_
                     clear ho hb hg hat
                     refine hK.out _ _ trivial (fun hHeld=>?_)
                     clear hK K
                     refine norm_ (a':=?_) ?_ ?_
                     rotate_left
                     ·show Act.put _ (some 72) _=_
                      simp only[Act.put,s1,s2,s3,i64_w,i32_w]
                      rfl
                     refine one_ (i:=6) (N:=some 74) #[T,T,T,T,T,T,T,F,T,F,F,F,F,F,F,T,T,T,F,F] rfl rfl (one_of HT_.out (by kernel_rfl)) (by decide) (fun K hK=>?_)
                     refine goes_ Try.func66 (by kernel_rfl) rfl #[.pointer (some ⟨g,0,none⟩),.int .i64 3] (by rfl) rfl rfl az ?_
                     with_reducible refine(spec_l20Rd_pick.calls kj36 g s0_0 x1001_15 3 t1283 t1284 w0 _ ?side1 ?side2 A55.out).mono ?_
                     (case side1=>exact iz)
                     (case side2=>exact bi)
                     rintro e w75 ⟨rfl,hi,hb,hk⟩
                     refine⟨_,rfl,?_⟩
                     have n0_:=Sd.mk (Kd.R_mono (Kd.R_keep (IsS73.apart (show IsS73 w0 _ g s0_0 x1001_15 from iz) (Kd.Rz HO_5.out) (by decide)) hk (fun _ h=>h.2)) (fun _ h=>h.1))
                     have n1_:=Sd.mk (Kd.N_mono (Kd.N_keep (Kd.N_mono (ok:=fun k_=>((some k_≠(.slice Ao70 x5_1.length co70:Value).ownBlock∧(some k_≠(u8:Value).ownBlock∧k_≠g))∧some k_≠(v1281:Value).ownBlock)) (Kd.Nz HO_6.out) (fun k_ hk_=>(⟨hk_,hk_.1.2.2⟩:_∧k_≠g))) hk (fun _ h=>h.2)) (fun _ h=>h.1))
                     have n2_:=Sd.mk (Kd.R_mono (Kd.R_keep (IsS73.apart (show IsS73 w0 _ g s0_0 x1001_15 from iz) (Kd.Rz HO_8.out) (by decide)) hk (fun _ h=>h.2)) (fun _ h=>h.1))
                     have n3_:=Sd.mk (Kd.V_mono (Kd.V_keep (Kd.V_mono (ok:=fun k_=>((some k_≠(u6:Value).ownBlock∧(some k_≠(u8:Value).ownBlock∧k_≠g))∧some k_≠(v1281:Value).ownBlock)) (Kd.Vz HO1279.out) (fun k_ hk_=>(⟨hk_,hk_.1.2.2⟩:_∧k_≠g))) hk (fun _ h=>h.2)) (fun _ h=>h.1))
                     have n4_:=Sd.mk (Kd.V_mono (Kd.V_keep (Kd.V_mono (ok:=fun k_=>((some k_≠(u6:Value).ownBlock∧(some k_≠(u8:Value).ownBlock∧k_≠g))∧some k_≠(v1281:Value).ownBlock)) (Kd.Vz HO1297.out) (fun k_ hk_=>(⟨hk_,hk_.1.2.2⟩:_∧k_≠g))) hk (fun _ h=>h.2)) (fun _ h=>h.1))
                     have n5_:=Sd.mk (Kd.R_mono (Kd.R_keep (IsS73.apart (show IsS73 w0 _ g s0_0 x1001_15 from iz) (Kd.Rz HO1282.out) (by decide)) hk (fun _ h=>h.2)) (fun _ h=>h.1))
                     have n6_:=Sd.mk (KeepBut.trans kz hk (.inl rfl))
                     have n7_:=Sd.mk (hb)
                     have n8_:=Sd.mk (hi)
                     clear HO_5
                     clear HO_6
                     clear HO_8
                     clear HO1279
                     clear HO1297
                     clear HO1282
                     clear HK
                     clear HB
                     clear HI0
                     have HO_5:=n0_
                     have HO_6:=n1_
                     have HO_8:=n2_
                     have HO1279:=n3_
                     have HO1297:=n4_
                     have HO1282:=n5_
                     have HK:=n6_
                     have HB:=n7_
                     have HI0:=n8_
                     clear n0_ n1_ n2_ n3_ n4_ n5_ n6_ n7_ n8_
                     (try clear hb)
                     (try clear hb2)
                     (try clear hk)
                     (try clear hi)
                     refine hK.out _ _ trivial (fun hHeld=>?_)
                     clear hK K
                     refine norm_ (a':=?_) ?_ ?_
                     rotate_left
                     ·show Act.put _ (some 74) _=_
                      simp only[Act.put,s1,s2,s3,i64_w,i32_w]
                      rfl
                     refine pq 7 (some 75) HT_.out rfl rfl ?_
                     refine one_ (i:=9) (N:=some 77) #[T,T,T,T,T,T,T,T,T,T,F,F,F,F,F,T,T,T,F,F] rfl rfl (one_of HT_.out (by kernel_rfl)) (by decide) (fun K hK=>?_)
                     refine goes_ Try.func66 (by kernel_rfl) rfl #[.pointer (some ⟨g,0,none⟩),.int .i64 60] (by rfl) rfl rfl az ?_
                     with_reducible refine(spec_l20Rd_pick.calls kj36 g s0_0 t1284 60 t1285 t1286 w0 _ ?side1 ?side2 A56.out).mono ?_
                     (case side1=>exact iz)
                     (case side2=>exact bi)
                     rintro e w76 ⟨rfl,hi,hb,hk⟩
                     refine⟨_,rfl,?_⟩
                     have n0_:=Sd.mk (Kd.R_mono (Kd.R_keep (IsS73.apart (show IsS73 w0 _ g s0_0 t1284 from iz) (Kd.Rz HO_5.out) (by decide)) hk (fun _ h=>h.2)) (fun _ h=>h.1))
                     have n1_:=Sd.mk (Kd.N_mono (Kd.N_keep (Kd.N_mono (ok:=fun k_=>((some k_≠(.slice Ao70 x5_1.length co70:Value).ownBlock∧(some k_≠(u8:Value).ownBlock∧k_≠g))∧some k_≠(v1281:Value).ownBlock)) (Kd.Nz HO_6.out) (fun k_ hk_=>(⟨hk_,hk_.1.2.2⟩:_∧k_≠g))) hk (fun _ h=>h.2)) (fun _ h=>h.1))
                     have n2_:=Sd.mk (Kd.R_mono (Kd.R_keep (IsS73.apart (show IsS73 w0 _ g s0_0 t1284 from iz) (Kd.Rz HO_8.out) (by decide)) hk (fun _ h=>h.2)) (fun _ h=>h.1))
                     have n3_:=Sd.mk (Kd.V_mono (Kd.V_keep (Kd.V_mono (ok:=fun k_=>((some k_≠(u6:Value).ownBlock∧(some k_≠(u8:Value).ownBlock∧k_≠g))∧some k_≠(v1281:Value).ownBlock)) (Kd.Vz HO1279.out) (fun k_ hk_=>(⟨hk_,hk_.1.2.2⟩:_∧k_≠g))) hk (fun _ h=>h.2)) (fun _ h=>h.1))
                     have n4_:=Sd.mk (Kd.V_mono (Kd.V_keep (Kd.V_mono (ok:=fun k_=>((some k_≠(u6:Value).ownBlock∧(some k_≠(u8:Value).ownBlock∧k_≠g))∧some k_≠(v1281:Value).ownBlock)) (Kd.Vz HO1297.out) (fun k_ hk_=>(⟨hk_,hk_.1.2.2⟩:_∧k_≠g))) hk (fun _ h=>h.2)) (fun _ h=>h.1))
                     have n5_:=Sd.mk (Kd.R_mono (Kd.R_keep (IsS73.apart (show IsS73 w0 _ g s0_0 t1284 from iz) (Kd.Rz HO1282.out) (by decide)) hk (fun _ h=>h.2)) (fun _ h=>h.1))
                     have n6_:=Sd.mk (KeepBut.trans kz hk (.inl rfl))
                     have n7_:=Sd.mk (hb)
                     have n8_:=Sd.mk (hi)
                     clear HO_5
                     clear HO_6
                     clear HO_8
                     clear HO1279
                     clear HO1297
                     clear HO1282
                     clear HK
                     clear HB
                     clear HI0
                     have HO_5:=n0_
                     have HO_6:=n1_
                     have HO_8:=n2_
                     have HO1279:=n3_
                     have HO1297:=n4_
                     have HO1282:=n5_
                     have HK:=n6_
                     have HB:=n7_
                     have HI0:=n8_
                     clear n0_ n1_ n2_ n3_ n4_ n5_ n6_ n7_ n8_
                     (try clear hb)
                     (try clear hb2)
                     (try clear hk)
                     (try clear hi)
                     refine hK.out _ _ trivial (fun hHeld=>?_)
                     clear hK K
                     refine norm_ (a':=?_) ?_ ?_
                     rotate_left
                     ·show Act.put _ (some 77) _=_
                      simp only[Act.put,s1,s2,s3,i64_w,i32_w]
                      rfl
                     refine pq 10 (some 78) HT_.out rfl rfl ?_
                     refine pq 11 (some 79) HT_.out rfl rfl ?_
                     refine pq 12 (some 80) HT_.out rfl rfl ?_
                     refine one_ (i:=13) (N:=some 81) #[T,T,T,T,T,T,T,T,T,T,T,T,T,T,F,T,T,T,F,F] rfl rfl (one_of HT_.out (by kernel_rfl)) (by decide) (fun K hK=>?_)
                     refine Kd.R_lit_step (Kd.int .i64) _ 3 ?hg (N:=81) ?hd (xs:=([wrap64 ((wrap64 (1+t1283))+(wrap64 ((wrap64 (Int.tdiv t1285 59))*60)))]:List Int)) (inner:=[.int .i64 (wrap64 ((wrap64 (1+t1283))+(wrap64 ((wrap64 (Int.tdiv t1285 59))*60))))]) (ok:=fun _=>True) (okp:=fun _=>True) ?hr ?hp (fun _ hk=>hk) trivial (Below.refl _ _) (Nat.le_refl _) (by simp) ?_;(case hd=>rfl);(case hg=>rfl);(case hr=>first|(go_simp;done)|(go_simp;rfl));(case hp=>exact(Reps.one (show Kd.M (Kd.int .i64) _ _ _ (wrap64 ((wrap64 (1+t1283))+(wrap64 ((wrap64 (Int.tdiv t1285 59))*60)))) [.int .i64 (wrap64 ((wrap64 (1+t1283))+(wrap64 ((wrap64 (Int.tdiv t1285 59))*60))))] from rfl) (Reps.none _ _)))
                     intro v1288 w77 ho78 hb hg_ hnew_
                     clear hg_ hnew_
                     (first|rw[← Ny1287.out] at ho78|(simp only[Int.reduceToNat] at ho78;rw[← Ny1287.out] at ho78))
                     have n0_:=Sd.mk (Kd.R_elder' (Kd.Rz HO_5.out) (Kd.R_base ho78) hb)
                     have n1_:=Sd.mk (Kd.N_elder' (Kd.Nz HO_6.out) (Kd.R_base ho78) hb)
                     have n2_:=Sd.mk (Kd.R_elder' (Kd.Rz HO_8.out) (Kd.R_base ho78) hb)
                     have n3_:=Sd.mk (Kd.V_elder' (Kd.Vz HO1279.out) (Kd.R_base ho78) hb)
                     have n4_:=Sd.mk (Kd.V_elder' (Kd.Vz HO1297.out) (Kd.R_base ho78) hb)
                     have n5_:=Sd.mk (Kd.R_elder' (Kd.Rz HO1282.out) (Kd.R_base ho78) hb)
                     have n6_:=Sd.mk (Kd.R_lower (Kd.R_new' (Kd.R_new' (Kd.R_new' ho78 (Kd.R_lt (Kd.Rz HO_5.out))) (Kd.R_lt (Kd.Rz HO_8.out))) (Kd.R_lt (Kd.Rz HO1282.out))) (keep_size (w:=w) (g:=g) (row:=none) kz))
                     have n7_:=Sd.mk (IsS73.below iz hb)
                     have n8_:=Sd.mk (KeepBut.trans kz (KeepBut.of_below hb g none) (.inl rfl))
                     have n9_:=Sd.mk (below_step (bi) hb)
                     clear HO_5
                     clear HO_6
                     clear HO_8
                     clear HO1279
                     clear HO1297
                     clear HO1282
                     clear HI0
                     clear HK
                     clear HB
                     have HO_5:=n0_
                     have HO_6:=n1_
                     have HO_8:=n2_
                     have HO1279:=n3_
                     have HO1297:=n4_
                     have HO1282:=n5_
                     have HO1289:=n6_
                     have HI0:=n7_
                     have HK:=n8_
                     have HB:=n9_
                     clear n0_ n1_ n2_ n3_ n4_ n5_ n6_ n7_ n8_ n9_
                     clear hb ho78
                     obtain⟨Ao80,co80,eo80⟩:=Kd.R_slice HO1289.out
                     (first|subst eo80|(injection eo80 with f1_ f2_ f3_;have f4_:=f1_.symm;have f5_:=f3_.symm;clear f1_ f2_ f3_;subst f4_;subst f5_))
                     refine hK.out _ _ trivial (fun hHeld=>?_)
                     clear hK K
                     refine norm_ (a':=?_) ?_ ?_
                     rotate_left
                     ·show Act.put _ (some 81) _=_
                      simp only[Act.put,s1,s2,s3,i64_w,i32_w]
                      rfl
                     refine one_ (i:=14) (N:=some 82) #[T,T,T,T,T,T,T,T,T,T,T,T,T,T,T,T,T,T,F,F] rfl rfl (one_of HT_.out (by kernel_rfl)) (by decide) (fun K hK=>?_)
                     refine Kd.R_append_rows_step (Kd.int .i64) w.heap.size (by rfl) (.tmp 72) (.tmp 81) 22 3 (.int .i64 0) 8 rfl Try.underlying22 info3 rfl (by decide) (by omega) v1281 y1280 y1287 _ _ _ (fun k_=>some k_≠(.slice Ao70 x5_1.length co70:Value).ownBlock∧some k_≠(u8:Value).ownBlock∧some k_≠(.slice Ao80 y1287.length co80:Value).ownBlock) (fun _=>False) rfl rfl ?aO ?aR (fun _ _ h=>h) (fun _ h=>h.elim) ?aF (Below.refl _ _) ?aS ?aL ?_
                     (case aR=>repeat (first|exact(Kd.R_reads' HO1289.out).2.2|(with_reducible refine Kd.C_alloc ?_ _)|(with_reducible refine Kd.C_drewN ?_ _)|(with_reducible refine Kd.C_drew ?_)))
                     (case aF=>exact(fun k_ hk=>⟨Kd.fresh' (Kd.R_lt (Kd.Rz HO_5.out)) k_ hk,Kd.fresh' (Kd.R_lt (Kd.Rz HO_8.out)) k_ hk,Kd.fresh' (Kd.R_lt (Kd.Rz HO1289.out)) k_ hk⟩))
                     (case aO=>exact(Kd.Rz <| Kd.R_mono HO1282.out (fun _ hk=>⟨hk.1.1,⟨hk.1.2,hk.2⟩⟩)))
                     (case aS=>exact(keep_size (w:=w) (g:=g) (row:=none) kz))
                     (case aL=>have:=LMc57.out;omega)
                     intro v1291 w79 ho hb hg hat
                     rw[← Ny1290.out] at ho
                     have n0_:=Sd.mk (Kd.R_after (ok:=(fun k_=>some k_≠(u8:Value).ownBlock∧some k_≠(.slice Ao80 y1287.length co80:Value).ownBlock)) (Kd.Rz <| Kd.R_mono HO_5.out (fun _ hk=>⟨⟨hk.1.1,hk.2⟩,hk.1.2⟩)) hg hat)
                     have n1_:=Sd.mk (Kd.N_afterv (ok:=(fun k_=>some k_≠(.slice Ao70 x5_1.length co70:Value).ownBlock∧some k_≠(u8:Value).ownBlock∧some k_≠(.slice Ao80 y1287.length co80:Value).ownBlock∧k_≠g)) (Kd.Nz <| Kd.N_mono HO_6.out (fun _ hk=>⟨⟨hk.1.1.1,⟨hk.1.1.2.1,⟨hk.2,hk.1.1.2.2⟩⟩⟩,hk.1.2⟩)) hg hat)
                     have n2_:=Sd.mk (Kd.R_after (ok:=(fun k_=>some k_≠(.slice Ao70 x5_1.length co70:Value).ownBlock∧some k_≠(.slice Ao80 y1287.length co80:Value).ownBlock)) (Kd.Rz <| Kd.R_mono HO_8.out (fun _ hk=>⟨⟨hk.1.1,hk.2⟩,hk.1.2⟩)) hg hat)
                     have n3_:=Sd.mk (IsS73.grown iz hg (IsS73.own_ne HI0.out HO1282.out (by decide)))
                     have n4_:=Sd.mk (Kd.V_afterv (ok:=(fun k_=>some k_≠(u6:Value).ownBlock∧some k_≠(u8:Value).ownBlock∧some k_≠(.slice Ao80 y1287.length co80:Value).ownBlock∧k_≠g)) (Kd.Vz <| Kd.V_mono HO1279.out (fun _ hk=>⟨⟨hk.1.1.1,⟨hk.1.1.2.1,⟨hk.2,hk.1.1.2.2⟩⟩⟩,hk.1.2⟩)) hg hat)
                     have n5_:=Sd.mk (Kd.V_afterv (ok:=(fun k_=>some k_≠(u6:Value).ownBlock∧some k_≠(u8:Value).ownBlock∧some k_≠(.slice Ao80 y1287.length co80:Value).ownBlock∧k_≠g)) (Kd.Vz <| Kd.V_mono HO1297.out (fun _ hk=>⟨⟨hk.1.1.1,⟨hk.1.1.2.1,⟨hk.2,hk.1.1.2.2⟩⟩⟩,hk.1.2⟩)) hg hat)
                     have n6_:=Sd.mk (Kd.R_after (ok:=(fun k_=>some k_≠(.slice Ao70 x5_1.length co70:Value).ownBlock∧some k_≠(u8:Value).ownBlock)) (Kd.Rz <| Kd.R_mono HO1289.out (fun _ hk=>⟨⟨hk.1.1.2,hk.1.2⟩,hk.2⟩)) hg hat)
                     have n7_:=Sd.mk (below_weaken (bi) HL.out hb)
                     have n8_:=Sd.mk (KeepBut.trans kz (KeepBut.of_grown hg g) (Kd.R_base2 HO1282.out))
                     have n9_:=Sd.mk (ho)
                     clear HO_5
                     clear HO_6
                     clear HO_8
                     clear HI0
                     clear HO1279
                     clear HO1297
                     clear HO1289
                     clear HB
                     clear HK
                     clear HO1282
                     have HO_5:=n0_
                     have HO_6:=n1_
                     have HO_8:=n2_
                     have HI0:=n3_
                     have HO1279:=n4_
                     have HO1297:=n5_
                     have HO1289:=n6_
                     have HB:=n7_
                     have HK:=n8_
                     have HO1292:=n9_
                     clear n0_ n1_ n2_ n3_ n4_ n5_ n6_ n7_ n8_ n9_
                     clear ho hb hg hat
                     refine hK.out _ _ trivial (fun hHeld=>?_)
                     clear hK K
                     refine norm_ (a':=?_) ?_ ?_
                     rotate_left
                     ·show Act.put _ (some 82) _=_
                      simp only[Act.put,s1,s2,s3,i64_w,i32_w]
                      rfl
                     refine one_ (i:=18) (N:=some 86) #[T,T,T,T,T,T,T,T,T,T,T,T,T,T,T,T,T,T,T,F] rfl rfl (one_of HT_.out (by kernel_rfl)) (by decide) (fun K hK=>?_)
                     refine Kd.R_append_rows_step (Kd.int .i64) w.heap.size (by rfl) (.tmp 82) (.tmp 85) 22 3 (.int .i64 0) 8 rfl Try.underlying22 info3 rfl (by decide) (by omega) v1291 y1290 y1293 _ _ _ (fun k_=>some k_≠(.slice Ao70 x5_1.length co70:Value).ownBlock∧some k_≠(u8:Value).ownBlock∧some k_≠(.slice Ao80 y1287.length co80:Value).ownBlock) (fun _=>False) rfl rfl ?aO ?aR (fun _ _ h=>h) (fun _ h=>h.elim) ?aF (Below.refl _ _) ?aS ?aL ?_
                     (case aR=>repeat (first|exact(Kd.V_reads' HO1297.out).2.2|(with_reducible refine Kd.C_alloc ?_ _)|(with_reducible refine Kd.C_drewN ?_ _)|(with_reducible refine Kd.C_drew ?_)))
                     (case aF=>exact(fun k_ hk=>⟨Kd.fresh' (Kd.R_lt (Kd.Rz HO_5.out)) k_ hk,Kd.fresh' (Kd.R_lt (Kd.Rz HO_8.out)) k_ hk,Kd.fresh' (Kd.R_lt (Kd.Rz HO1289.out)) k_ hk⟩))
                     (case aO=>exact(Kd.Rz HO1292.out))
                     (case aS=>exact(keep_size (w:=w) (g:=g) (row:=none) kz))
                     (case aL=>have:=LMc60.out;omega)
                     intro v1299 w81 ho hb hg hat
                     rw[← Ny1298.out] at ho
                     have n0_:=Sd.mk (Kd.R_after (ok:=(fun k_=>some k_≠(u8:Value).ownBlock∧some k_≠(.slice Ao80 y1287.length co80:Value).ownBlock)) (Kd.Rz HO_5.out) hg hat)
                     have n1_:=Sd.mk (Kd.N_afterv (ok:=(fun k_=>some k_≠(.slice Ao70 x5_1.length co70:Value).ownBlock∧some k_≠(u8:Value).ownBlock∧some k_≠(.slice Ao80 y1287.length co80:Value).ownBlock∧k_≠g)) (Kd.Nz HO_6.out) hg hat)
                     have n2_:=Sd.mk (Kd.R_after (ok:=(fun k_=>some k_≠(.slice Ao70 x5_1.length co70:Value).ownBlock∧some k_≠(.slice Ao80 y1287.length co80:Value).ownBlock)) (Kd.Rz HO_8.out) hg hat)
                     have n3_:=Sd.mk (IsS73.grown iz hg (IsS73.own_ne HI0.out HO1292.out (by decide)))
                     have n4_:=Sd.mk (Kd.V_afterv (ok:=(fun k_=>some k_≠(u6:Value).ownBlock∧some k_≠(u8:Value).ownBlock∧some k_≠(.slice Ao80 y1287.length co80:Value).ownBlock∧k_≠g)) (Kd.Vz HO1279.out) hg hat)
                     have n5_:=Sd.mk (Kd.V_afterv (ok:=(fun k_=>some k_≠(u6:Value).ownBlock∧some k_≠(u8:Value).ownBlock∧some k_≠(.slice Ao80 y1287.length co80:Value).ownBlock∧k_≠g)) (Kd.Vz HO1297.out) hg hat)
                     have n6_:=Sd.mk (Kd.R_after (ok:=(fun k_=>some k_≠(.slice Ao70 x5_1.length co70:Value).ownBlock∧some k_≠(u8:Value).ownBlock)) (Kd.Rz HO1289.out) hg hat)
                     have n7_:=Sd.mk (below_weaken (bi) HL.out hb)
                     have n8_:=Sd.mk (KeepBut.trans kz (KeepBut.of_grown hg g) (Kd.R_base2 HO1292.out))
                     have n9_:=Sd.mk (ho)
                     clear HO_5
                     clear HO_6
                     clear HO_8
                     clear HI0
                     clear HO1279
                     clear HO1297
                     clear HO1289
                     clear HB
                     clear HK
                     clear HO1292
                     have HO_5:=n0_
                     have HO_6:=n1_
                     have HO_8:=n2_
                     have HI0:=n3_
                     have HO1279:=n4_
                     have HO1297:=n5_
                     have HO1289:=n6_
                     have HB:=n7_
                     have HK:=n8_
                     have HO1300:=n9_
                     clear n0_ n1_ n2_ n3_ n4_ n5_ n6_ n7_ n8_ n9_
                     clear ho hb hg hat
                     refine hK.out _ _ trivial (fun hHeld=>?_)
                     clear hK K
                     refine norm_ (a':=?_) ?_ ?_
                     rotate_left
                     ·show Act.put _ (some 86) _=_
                      simp only[Act.put,s1,s2,s3,i64_w,i32_w]
                      rfl
                     refine pq 19 (some 5) HT_.out rfl rfl ?_
                     refine done_ (done_of HT_.out (by kernel_rfl)) ?_
                     try go_wp2
                     have n0_:=Sd.mk (Kd.R_drew HO_5.out)
                     have n1_:=Sd.mk (Kd.N_drew HO_6.out)
                     have n2_:=Sd.mk (Kd.R_drew HO_8.out)
                     have n3_:=Sd.mk (Kd.V_drew HO1279.out)
                     have n4_:=Sd.mk (Kd.V_drew HO1297.out)
                     have n5_:=Sd.mk (Kd.R_drew HO1289.out)
                     have n6_:=Sd.mk (Kd.R_drew HO1300.out)
                     have n7_:=Sd.mk (IsS73.drew HI0.out)
                     have n8_:=Sd.mk (keep_drew HK.out)
                     have n9_:=Sd.mk (below_drew1 HB.out)
                     clear HO_5
                     clear HO_6
                     clear HO_8
                     clear HO1279
                     clear HO1297
                     clear HO1289
                     clear HO1300
                     clear HI0
                     clear HK
                     clear HB
                     have HO_5:=n0_
                     have HO_6:=n1_
                     have HO_8:=n2_
                     have HO1279:=n3_
                     have HO1297:=n4_
                     have HO1289:=n5_
                     have HO1300:=n6_
                     have HI0:=n7_
                     have HK:=n8_
                     have HB:=n9_
                     clear n0_ n1_ n2_ n3_ n4_ n5_ n6_ n7_ n8_ n9_
                     obtain⟨Ao84,co84,eo84⟩:=Kd.N_slice HO_6.out
                     (first|subst eo84|(injection eo84 with f1_ f2_ f3_;have f4_:=f1_.symm;have f5_:=f3_.symm;clear f1_ f2_ f3_;subst f4_;subst f5_))
                     have q83:(x9_24:Int)≤((x6_1.length:Int):Int):=dz
                     obtain⟨i083,hi083,_,hsz83,_⟩:=info_parts info22
                     have hroom83:x6_1.length≤co84:=(Kd.N_reads' HO_6.out).2.1
                     have hC83:Kd.F (Kd.slice 3 (Kd.int .i64)) _ _ Ao84 x6_1.length x6_1:=(Kd.V_at (base:=w.heap.size) (Kd.N_V HO_6.out)).2.2
                     have hcut83:=cut_to (P:=Try.prog) 52 22 .i64 Try.underlying52 hi083 Ao84 x6_1.length co84 x9_24 (dz) q83 hroom83
                     have hr83:=Kd.F_take (m:=(x9_24:Int).toNat) hC83 (by omega)
                     have hy83:y1304.length=(x9_24:Int).toNat:=(by rw[Ny1304.out,List.length_take];omega)
                     rw[← Ny1304.out] at hr83
                     rw[← hy83] at hcut83
                     have HO1308:=Sd.mk (show Kd.V (Kd.slice 3 (Kd.int .i64)) 22 _ w.heap.size _ (.slice Ao84 y1304.length co84) y1304 from Kd.V_mk (by omega) hr83)
                     have HC1308:=Sd.mk (show y1304.length≤co84 from by omega)
                     clear hr83 hC83 hroom83 hi083 hsz83
                     have KY83:=Sd.mk hy83
                     clear hy83
                     replace q83:=eq_true q83
                     have q85:(x9_24:Int)≤((x6_1.length:Int):Int):=dz
                     obtain⟨i085,hi085,_,hsz85,_⟩:=info_parts info22
                     have hroom85:x6_1.length≤co84:=(Kd.N_reads' HO_6.out).2.1
                     have hC85:Kd.F (Kd.slice 3 (Kd.int .i64)) _ _ Ao84 x6_1.length x6_1:=(Kd.V_at (base:=w.heap.size) (Kd.N_V HO_6.out)).2.2
                     have q085:(0:Int)≤(x9_24:Int):=dz
                     have hcut85:=cut_from (P:=Try.prog) 52 22 .i64 Try.underlying52 hi085 1 hsz85 Ao84 x6_1.length co84 x9_24 q085 q85
                     have hr85:=Kd.F_cut (m:=(x9_24:Int).toNat) (c:=co84) hC85 (by omega) hroom85
                     obtain⟨A85,hA85⟩:∃ Aq_,Aq_=(if co84=(x9_24:Int).toNat then Ao84 else(Ao84:Option Addr).map (·.add ((x9_24:Int).toNat*1))):=⟨_,rfl⟩
                     obtain⟨c85,hc85⟩:∃ cq_,cq_=co84-(x9_24:Int).toNat:=⟨_,rfl⟩
                     have hy85:y1318.length=x6_1.length-(x9_24:Int).toNat:=(by rw[Ny1318.out,List.length_drop]<;>omega)
                     rw[show (x6_1).drop (x9_24:Int).toNat=y1318 from Ny1318.out.symm] at hr85
                     replace hr85:Kd.F (Kd.slice 3 (Kd.int .i64)) _ _ A85 y1318.length y1318:=(by rw[hA85];exact hr85)
                     rw[← hy85,← hA85,← hc85] at hcut85
                     have HO1322:=Sd.mk (show Kd.V (Kd.slice 3 (Kd.int .i64)) 22 _ w.heap.size _ (.slice A85 y1318.length c85) y1318 from Kd.V_mk (by rw[hy85,hc85];exact Nat.sub_le_sub_right hroom85 _) hr85)
                     have HC1322:=Sd.mk (show y1318.length≤c85 from by rw[hy85,hc85];exact Nat.sub_le_sub_right hroom85 _)
                     clear hr85 hC85 hroom85 hi085 hsz85 hc85
                     have KY85:=Sd.mk hy85
                     have KA85:=Sd.mk hA85
                     clear hy85 hA85
                     replace q85:=eq_true q85
                     refine start_ (n:=13) (S:=fun w'=>True) (ds:=[]) #[F,F,F,F,F,F,F,F,F,F,F,F,F] (by kernel_rfl) rfl rfl trivial (fun hHeld=>?_);refine with_tabW spec_l20Raw.tab17 spec_l20Raw.bits17 (fun HT_ HW_=>?_)
                     generalize w81.drew=w82 at HO_5 HO_6 HO_8 HO1279 HO1297 HO1289 HO1300 HI0 HK HB HO1308 HO1322 hHeld ⊢
                     refine pq 1 (some 88) HT_.out rfl rfl ?_
                     refine pq 2 (some 89) HT_.out rfl rfl ?_
                     refine pq 3 (some 90) HT_.out rfl rfl ?_
                     refine pq 5 (some 92) HT_.out rfl rfl ?_
                     refine pq 8 (some 95) HT_.out rfl rfl ?_
                     refine pq 9 (some 96) HT_.out rfl rfl ?_
                     refine pq 10 (some 97) HT_.out rfl rfl ?_
                     refine join_ (σ:=Value × Value × Value) 3 #[T,T,T,T,T,T,T,F,T,T,T,F,F] (fun s_=>[(87,s_.1),(91,s_.2.1),(93,s_.2.2)]) (fun s_ w'=>(Kd.V (Kd.int .i64) 3 w' w.heap.size (fun k_=>some k_≠(.slice Ao80 y1287.length co80:Value).ownBlock∧some k_≠(v1299:Value).ownBlock∧some k_≠(s_.2.1:Value).ownBlock∧some k_≠(s_.2.2:Value).ownBlock∧some k_≠(.slice Ao84 x6_1.length co84:Value).ownBlock∧k_≠g) (.slice Ao70 y1275.length co70) y1275)∧(Kd.R (Kd.int .i64) 3 w' w.heap.size (fun k_=>some k_≠(v1299:Value).ownBlock∧some k_≠(.slice Ao70 x5_1.length co70:Value).ownBlock) (.slice Ao80 y1287.length co80) y1287)∧(Kd.V (Kd.int .i64) 3 w' w.heap.size (fun k_=>some k_≠(.slice Ao80 y1287.length co80:Value).ownBlock∧some k_≠(v1299:Value).ownBlock∧some k_≠(s_.2.1:Value).ownBlock∧some k_≠(s_.2.2:Value).ownBlock∧some k_≠(.slice Ao84 x6_1.length co84:Value).ownBlock∧k_≠g) (.slice A71 y1293.length c71) y1293)∧(Kd.R (Kd.int .i64) 3 w' w.heap.size (fun k_=>some k_≠(.slice Ao80 y1287.length co80:Value).ownBlock∧some k_≠(.slice Ao70 x5_1.length co70:Value).ownBlock) v1299 y1298)∧(Kd.V (Kd.slice 3 (Kd.int .i64)) 22 w' w.heap.size (fun k_=>some k_≠(.slice Ao80 y1287.length co80:Value).ownBlock∧some k_≠(v1299:Value).ownBlock∧some k_≠(s_.2.1:Value).ownBlock∧some k_≠(s_.2.2:Value).ownBlock∧some k_≠(.slice Ao70 x5_1.length co70:Value).ownBlock∧k_≠g) (.slice Ao84 y1304.length co84) y1304)∧(Kd.N (Kd.slice 3 (Kd.int .i64)) 22 w' w.heap.size (fun k_=>some k_≠(.slice Ao80 y1287.length co80:Value).ownBlock∧some k_≠(v1299:Value).ownBlock∧some k_≠(s_.2.2:Value).ownBlock∧some k_≠(.slice Ao70 x5_1.length co70:Value).ownBlock∧k_≠g) s_.2.1 y1309)∧(Kd.N (Kd.slice 3 (Kd.int .i64)) 22 w' w.heap.size (fun k_=>some k_≠(.slice Ao80 y1287.length co80:Value).ownBlock∧some k_≠(v1299:Value).ownBlock∧some k_≠(s_.2.1:Value).ownBlock∧some k_≠(.slice Ao70 x5_1.length co70:Value).ownBlock∧some k_≠(.slice Ao84 x6_1.length co84:Value).ownBlock∧k_≠g) s_.2.2 y1312)∧(Kd.V (Kd.slice 3 (Kd.int .i64)) 22 w' w.heap.size (fun k_=>some k_≠(.slice Ao80 y1287.length co80:Value).ownBlock∧some k_≠(v1299:Value).ownBlock∧some k_≠(s_.2.1:Value).ownBlock∧some k_≠(s_.2.2:Value).ownBlock∧some k_≠(.slice Ao70 x5_1.length co70:Value).ownBlock∧k_≠g) (.slice A85 y1318.length c85) y1318)∧(Kd.R (Kd.int .i64) 3 w' w.heap.size (fun k_=>some k_≠(.slice Ao80 y1287.length co80:Value).ownBlock∧some k_≠(v1299:Value).ownBlock) (.slice Ao70 x5_1.length co70) x5_1)∧(Kd.N (Kd.slice 3 (Kd.int .i64)) 22 w' w.heap.size (fun k_=>some k_≠(.slice Ao80 y1287.length co80:Value).ownBlock∧some k_≠(v1299:Value).ownBlock∧some k_≠(s_.2.1:Value).ownBlock∧some k_≠(s_.2.2:Value).ownBlock∧some k_≠(.slice Ao70 x5_1.length co70:Value).ownBlock∧k_≠g) (.slice Ao84 x6_1.length co84) x6_1)∧(IsS73 w0 w' g s0_0 t1286)∧(KeepBut w w' g none)∧(Below w0.heap.size w0 w')) ?_ ?_
                     rotate_left
                     ·intro hCont
                      refine two_ (i:=0) (j:=6) (Ni:=some 87) (Nj:=some 93) #[T,T,T,T,F,T,F,F,T,T,T,F,F] #[F,T,T,T,F,T,T,F,T,T,T,F,F] rfl rfl rfl rfl (two_of HT_.out (by kernel_rfl)) (by decide) (by decide) (fun K hK=>?_) (fun K hK=>?_)
                      ·skip
                       refine Kd.N_lit_step (Kd.slice 3 (Kd.int .i64)) _ 22 ?hg (N':=87) ?hd (xs:=([]:List (List Int))) (inner:=[]) (ok:=(fun k_=>some k_≠(.slice Ao70 x5_1.length co70:Value).ownBlock∧some k_≠(.slice Ao84 x6_1.length co84:Value).ownBlock∧some k_≠(u8:Value).ownBlock∧some k_≠(.slice Ao80 y1287.length co80:Value).ownBlock∧some k_≠(v1299:Value).ownBlock∧k_≠g)) (okp:=(fun k_=>some k_≠(.slice Ao70 x5_1.length co70:Value).ownBlock∧some k_≠(.slice Ao84 x6_1.length co84:Value).ownBlock∧some k_≠(u8:Value).ownBlock∧some k_≠(.slice Ao80 y1287.length co80:Value).ownBlock∧some k_≠(v1299:Value).ownBlock∧k_≠g)) ?hr ?hp (fun _ hk=>hk) ((show ∀ k_,w82.heap.size≤k_→(fun k_=>some k_≠(.slice Ao70 x5_1.length co70:Value).ownBlock∧some k_≠(.slice Ao84 x6_1.length co84:Value).ownBlock∧some k_≠(u8:Value).ownBlock∧some k_≠(.slice Ao80 y1287.length co80:Value).ownBlock∧some k_≠(v1299:Value).ownBlock∧k_≠g) k_ from fun k_ hk=>⟨Kd.fresh' (Kd.R_lt (Kd.Rz HO_5.out)) k_ hk,Kd.fresh' (Kd.N_lt (Kd.Nz HO_6.out)) k_ hk,Kd.fresh' (Kd.R_lt (Kd.Rz HO_8.out)) k_ hk,Kd.fresh' (Kd.R_lt (Kd.Rz HO1289.out)) k_ hk,Kd.fresh' (Kd.R_lt (Kd.Rz HO1300.out)) k_ hk,IsS73.fresh iz k_ hk⟩) _ (Nat.le_refl _)) (Below.refl _ _) (Nat.le_refl _) (by simp) ?_;(case hd=>rfl);(case hg=>rfl);(case hr=>first|(go_simp;done)|(go_simp;rfl));(case hp=>exact(Reps.none _ _))
                       intro v1302 w86 ho87 hb hg_ hnew_
                       clear hg_ hnew_
                       (first|rw[← Ny1301.out] at ho87|(simp only[Int.reduceToNat] at ho87;rw[← Ny1301.out] at ho87))
                       have n0_:=Sd.mk (Kd.R_below (Kd.Rz HO_5.out) hb)
                       have n1_:=Sd.mk (Kd.N_elder' (Kd.Nz HO_6.out) (Kd.N_base ho87) hb)
                       have n2_:=Sd.mk (Kd.R_below (Kd.Rz HO_8.out) hb)
                       have n3_:=Sd.mk (Kd.V_elder' (Kd.Vz HO1279.out) (Kd.N_base ho87) hb)
                       have n4_:=Sd.mk (Kd.V_elder' (Kd.Vz HO1297.out) (Kd.N_base ho87) hb)
                       have n5_:=Sd.mk (Kd.R_below (Kd.Rz HO1289.out) hb)
                       have n6_:=Sd.mk (Kd.R_below (Kd.Rz HO1300.out) hb)
                       have n7_:=Sd.mk (Kd.V_elder' (Kd.Vz HO1308.out) (Kd.N_base ho87) hb)
                       have n8_:=Sd.mk (Kd.V_elder' (Kd.Vz HO1322.out) (Kd.N_base ho87) hb)
                       have n9_:=Sd.mk (Kd.N_lower ho87 (keep_size (w:=w) (g:=g) (row:=none) kz))
                       have n10_:=Sd.mk (IsS73.below iz hb)
                       have n11_:=Sd.mk (KeepBut.trans kz (KeepBut.of_below hb g none) (.inl rfl))
                       have n12_:=Sd.mk (below_step (bi) hb)
                       clear HO_5
                       clear HO_6
                       clear HO_8
                       clear HO1279
                       clear HO1297
                       clear HO1289
                       clear HO1300
                       clear HO1308
                       clear HO1322
                       clear HI0
                       clear HK
                       clear HB
                       have HO_5:=n0_
                       have HO_6:=n1_
                       have HO_8:=n2_
                       have HO1279:=n3_
                       have HO1297:=n4_
                       have HO1289:=n5_
                       have HO1300:=n6_
                       have HO1308:=n7_
                       have HO1322:=n8_
                       have HO1303:=n9_
                       have HI0:=n10_
                       have HK:=n11_
                       have HB:=n12_
                       clear n0_ n1_ n2_ n3_ n4_ n5_ n6_ n7_ n8_ n9_ n10_ n11_ n12_
                       clear hb ho87
                       refine hK.out _ _ trivial (fun hHeld=>?_)
                       clear hK K
                       refine norm_ (a':=?_) ?_ ?_
                       rotate_left
                       ·show Act.put _ (some 87) _=_
                        simp only[Act.put,s1,s2,s3,i64_w,i32_w]
                        rfl
                       refine two_ (i:=4) (j:=6) (Ni:=some 91) (Nj:=some 93) #[T,T,T,T,T,T,F,F,T,T,T,F,F] #[T,T,T,T,F,T,T,F,T,T,T,F,F] rfl rfl rfl rfl (two_of HT_.out (by kernel_rfl)) (by decide) (by decide) (fun K hK=>?_) (fun K hK=>?_)
                       ·skip
                        refine Kd.N_append_rows_step (Kd.slice 3 (Kd.int .i64)) w.heap.size (by rfl) (.tmp 87) (.tmp 90) 52 22 (.slice none 0 0) 24 rfl Try.underlying52 info22 rfl (by decide) (by omega) v1302 y1301 y1304 _ _ _ (fun k_=>some k_≠(.slice Ao70 x5_1.length co70:Value).ownBlock∧some k_≠(u8:Value).ownBlock∧some k_≠(.slice Ao80 y1287.length co80:Value).ownBlock∧some k_≠(v1299:Value).ownBlock∧k_≠g) (fun k_=>((fun k_=>some k_≠(.slice Ao70 x5_1.length co70:Value).ownBlock∧some k_≠(u8:Value).ownBlock∧some k_≠(.slice Ao80 y1287.length co80:Value).ownBlock∧some k_≠(v1299:Value).ownBlock∧k_≠g)) k_∧some k_≠(v1302:Value).ownBlock) rfl rfl ?aO ?aR (fun _ hk=>hk) ?aF (Below.refl _ _) ?aS ?aL ?_
                        (case aR=>exact(by skip;exact Kd.V_F (Kd.V_mono (ok':=(fun k_=>((fun k_=>some k_≠(.slice Ao70 x5_1.length co70:Value).ownBlock∧some k_≠(u8:Value).ownBlock∧some k_≠(.slice Ao80 y1287.length co80:Value).ownBlock∧some k_≠(v1299:Value).ownBlock∧k_≠g)) k_∧some k_≠(v1302:Value).ownBlock)) (HO1308.out) (fun k_ hk=>⟨⟨hk.1.1.1,⟨hk.1.1.2.1,⟨hk.1.1.2.2.1,⟨hk.1.2,hk.1.1.2.2.2⟩⟩⟩⟩,hk.2⟩))))
                        (case aF=>exact(fun k_ hk=>⟨Kd.fresh' (Kd.R_lt (Kd.Rz HO_5.out)) k_ hk,Kd.fresh' (Kd.R_lt (Kd.Rz HO_8.out)) k_ hk,Kd.fresh' (Kd.R_lt (Kd.Rz HO1289.out)) k_ hk,Kd.fresh' (Kd.R_lt (Kd.Rz HO1300.out)) k_ hk,IsS73.fresh iz k_ hk⟩))
                        (case aO=>exact(Kd.Nz <| Kd.N_mono HO1303.out (fun _ hk=>⟨hk.1,⟨hk.2.2.1,⟨hk.2.2.2.1,⟨hk.2.2.2.2.1,hk.2.2.2.2.2⟩⟩⟩⟩)))
                        (case aS=>exact(keep_size (w:=w) (g:=g) (row:=none) kz))
                        (case aL=>have:=LMc63.out;omega)
                        intro v1310 w88 ho hb hg hat
                        rw[← Ny1309.out] at ho
                        have n0_:=Sd.mk (Kd.R_over' (Kd.Rz HO_5.out) (Kd.N_typed (Kd.Nz HO1303.out)) (by decide) hg)
                        have n1_:=Sd.mk (Kd.N_afterv (ok:=(fun k_=>some k_≠(.slice Ao70 x5_1.length co70:Value).ownBlock∧some k_≠(u8:Value).ownBlock∧some k_≠(.slice Ao80 y1287.length co80:Value).ownBlock∧some k_≠(v1299:Value).ownBlock∧k_≠g)) (Kd.Nz <| Kd.N_mono HO_6.out (fun _ hk=>⟨⟨hk.1.1.1,⟨hk.1.1.2.1,⟨hk.1.1.2.2.1,⟨hk.1.2,hk.1.1.2.2.2⟩⟩⟩⟩,hk.2⟩)) hg hat)
                        have n2_:=Sd.mk (Kd.R_over' (Kd.Rz HO_8.out) (Kd.N_typed (Kd.Nz HO1303.out)) (by decide) hg)
                        have n3_:=Sd.mk (IsS73.grown iz hg (IsS73.own_neN HI0.out HO1303.out (by decide)))
                        have n4_:=Sd.mk (Kd.V_afterv (ok:=(fun k_=>some k_≠(.slice Ao84 x6_1.length co84:Value).ownBlock∧some k_≠(u8:Value).ownBlock∧some k_≠(.slice Ao80 y1287.length co80:Value).ownBlock∧some k_≠(v1299:Value).ownBlock∧k_≠g)) (Kd.Vz <| Kd.V_mono HO1279.out (fun _ hk=>⟨⟨hk.1.1.1,⟨hk.1.1.2.1,⟨hk.1.1.2.2.1,⟨hk.1.2,hk.1.1.2.2.2⟩⟩⟩⟩,hk.2⟩)) hg hat)
                        have n5_:=Sd.mk (Kd.V_afterv (ok:=(fun k_=>some k_≠(.slice Ao84 x6_1.length co84:Value).ownBlock∧some k_≠(u8:Value).ownBlock∧some k_≠(.slice Ao80 y1287.length co80:Value).ownBlock∧some k_≠(v1299:Value).ownBlock∧k_≠g)) (Kd.Vz <| Kd.V_mono HO1297.out (fun _ hk=>⟨⟨hk.1.1.1,⟨hk.1.1.2.1,⟨hk.1.1.2.2.1,⟨hk.1.2,hk.1.1.2.2.2⟩⟩⟩⟩,hk.2⟩)) hg hat)
                        have n6_:=Sd.mk (Kd.R_over' (Kd.Rz HO1289.out) (Kd.N_typed (Kd.Nz HO1303.out)) (by decide) hg)
                        have n7_:=Sd.mk (Kd.R_over' (Kd.Rz HO1300.out) (Kd.N_typed (Kd.Nz HO1303.out)) (by decide) hg)
                        have n8_:=Sd.mk (Kd.V_afterv (ok:=(fun k_=>some k_≠(.slice Ao70 x5_1.length co70:Value).ownBlock∧some k_≠(u8:Value).ownBlock∧some k_≠(.slice Ao80 y1287.length co80:Value).ownBlock∧some k_≠(v1299:Value).ownBlock∧k_≠g)) (Kd.Vz <| Kd.V_mono HO1308.out (fun _ hk=>⟨⟨hk.1.1.1,⟨hk.1.1.2.1,⟨hk.1.1.2.2.1,⟨hk.1.2,hk.1.1.2.2.2⟩⟩⟩⟩,hk.2⟩)) hg hat)
                        have n9_:=Sd.mk (Kd.V_afterv (ok:=(fun k_=>some k_≠(.slice Ao70 x5_1.length co70:Value).ownBlock∧some k_≠(u8:Value).ownBlock∧some k_≠(.slice Ao80 y1287.length co80:Value).ownBlock∧some k_≠(v1299:Value).ownBlock∧k_≠g)) (Kd.Vz <| Kd.V_mono HO1322.out (fun _ hk=>⟨⟨hk.1.1.1,⟨hk.1.1.2.1,⟨hk.1.1.2.2.1,⟨hk.1.2,hk.1.1.2.2.2⟩⟩⟩⟩,hk.2⟩)) hg hat)
                        have n10_:=Sd.mk (below_weaken (bi) HL.out hb)
                        have n11_:=Sd.mk (KeepBut.trans kz (KeepBut.of_grown hg g) (Kd.N_base2 HO1303.out))
                        have n12_:=Sd.mk (ho)
                        clear HO_5
                        clear HO_6
                        clear HO_8
                        clear HI0
                        clear HO1279
                        clear HO1297
                        clear HO1289
                        clear HO1300
                        clear HO1308
                        clear HO1322
                        clear HB
                        clear HK
                        clear HO1303
                        have HO_5:=n0_
                        have HO_6:=n1_
                        have HO_8:=n2_
                        have HI0:=n3_
                        have HO1279:=n4_
                        have HO1297:=n5_
                        have HO1289:=n6_
                        have HO1300:=n7_
                        have HO1308:=n8_
                        have HO1322:=n9_
                        have HB:=n10_
                        have HK:=n11_
                        have HO1311:=n12_
                        clear n0_ n1_ n2_ n3_ n4_ n5_ n6_ n7_ n8_ n9_ n10_ n11_ n12_
                        clear ho hb hg hat
                        obtain⟨Ao89,co89,eo89⟩:=Kd.R_slice HO_8.out
                        (first|subst eo89|(injection eo89 with f1_ f2_ f3_;have f4_:=f1_.symm;have f5_:=f3_.symm;clear f1_ f2_ f3_;subst f4_;subst f5_))
                        refine hK.out _ _ trivial (fun hHeld=>?_)
                        clear hK K
                        refine norm_ (a':=?_) ?_ ?_
                        rotate_left
                        ·show Act.put _ (some 91) _=_
                         simp only[Act.put,s1,s2,s3,i64_w,i32_w]
                         rfl
                        refine one_ (i:=6) (N:=some 93) #[T,T,T,T,T,T,T,F,T,T,T,F,F] rfl rfl (one_of HT_.out (by kernel_rfl)) (by decide) (fun K hK=>?_)
                        refine Kd.N_lit_step (Kd.slice 3 (Kd.int .i64)) _ 22 ?hg (N':=93) ?hd (xs:=([x8_15]:List (List Int))) (inner:=[.slice Ao89 x8_15.length co89]) (ok:=(fun k_=>some k_≠(.slice Ao70 x5_1.length co70:Value).ownBlock∧some k_≠(.slice Ao84 x6_1.length co84:Value).ownBlock∧some k_≠(.slice Ao80 y1287.length co80:Value).ownBlock∧some k_≠(v1299:Value).ownBlock∧some k_≠(v1310:Value).ownBlock∧k_≠g)) (okp:=(fun k_=>some k_≠(.slice Ao70 x5_1.length co70:Value).ownBlock∧some k_≠(.slice Ao84 x6_1.length co84:Value).ownBlock∧some k_≠(.slice Ao80 y1287.length co80:Value).ownBlock∧some k_≠(v1299:Value).ownBlock∧some k_≠(v1310:Value).ownBlock∧k_≠g)) ?hr ?hp (fun _ hk=>hk) ((show ∀ k_,w88.heap.size≤k_→(fun k_=>some k_≠(.slice Ao70 x5_1.length co70:Value).ownBlock∧some k_≠(.slice Ao84 x6_1.length co84:Value).ownBlock∧some k_≠(.slice Ao80 y1287.length co80:Value).ownBlock∧some k_≠(v1299:Value).ownBlock∧some k_≠(v1310:Value).ownBlock∧k_≠g) k_ from fun k_ hk=>⟨Kd.fresh' (Kd.R_lt (Kd.Rz HO_5.out)) k_ hk,Kd.fresh' (Kd.N_lt (Kd.Nz HO_6.out)) k_ hk,Kd.fresh' (Kd.R_lt (Kd.Rz HO1289.out)) k_ hk,Kd.fresh' (Kd.R_lt (Kd.Rz HO1300.out)) k_ hk,Kd.fresh' (Kd.N_lt (Kd.Nz HO1311.out)) k_ hk,IsS73.fresh iz k_ hk⟩) _ (Nat.le_refl _)) (Below.refl _ _) (Nat.le_refl _) (by simp) ?_;(case hd=>rfl);(case hg=>rfl);(case hr=>first|(go_simp;done)|(go_simp;rfl));(case hp=>exact(Reps.one (show Kd.FK (Kd.slice 3 (Kd.int .i64)) _ _ x8_15 [.slice Ao89 x8_15.length co89] from(Kd.FK_slice_mk (Kd.R_reads' (Kd.R_mono (ok':=(fun k_=>some k_≠(.slice Ao70 x5_1.length co70:Value).ownBlock∧some k_≠(.slice Ao84 x6_1.length co84:Value).ownBlock∧some k_≠(.slice Ao80 y1287.length co80:Value).ownBlock∧some k_≠(v1299:Value).ownBlock∧some k_≠(v1310:Value).ownBlock∧k_≠g)) (IsS73.apart HI0.out (Kd.R_apart' (Kd.R_apart' (HO_8.out) (Kd.N_typed HO_6.out) (by decide)) (Kd.N_typed HO1311.out) (by decide)) (by decide)) (fun k_ hk=>⟨hk.1.1.1.1.1,⟨hk.1.1.2,⟨hk.1.1.1.1.2,⟨hk.1.1.1.2,⟨hk.1.2,hk.2⟩⟩⟩⟩⟩))).2.1 (Kd.R_F (Kd.R_mono (ok':=(fun k_=>some k_≠(.slice Ao70 x5_1.length co70:Value).ownBlock∧some k_≠(.slice Ao84 x6_1.length co84:Value).ownBlock∧some k_≠(.slice Ao80 y1287.length co80:Value).ownBlock∧some k_≠(v1299:Value).ownBlock∧some k_≠(v1310:Value).ownBlock∧k_≠g)) (IsS73.apart HI0.out (Kd.R_apart' (Kd.R_apart' (HO_8.out) (Kd.N_typed HO_6.out) (by decide)) (Kd.N_typed HO1311.out) (by decide)) (by decide)) (fun k_ hk=>⟨hk.1.1.1.1.1,⟨hk.1.1.2,⟨hk.1.1.1.1.2,⟨hk.1.1.1.2,⟨hk.1.2,hk.2⟩⟩⟩⟩⟩))))) (Reps.none _ _)))
                        intro v1313 w90 ho91 hb hg_ hnew_
                        clear hg_ hnew_
                        (first|rw[← Ny1312.out] at ho91|(simp only[Int.reduceToNat] at ho91;rw[← Ny1312.out] at ho91))
                        have n0_:=Sd.mk (Kd.R_below (Kd.Rz HO_5.out) hb)
                        have n1_:=Sd.mk (Kd.N_elder' (Kd.Nz HO_6.out) (Kd.N_base ho91) hb)
                        have n2_:=Sd.mk (Kd.V_elder' (Kd.Vz HO1279.out) (Kd.N_base ho91) hb)
                        have n3_:=Sd.mk (Kd.V_elder' (Kd.Vz HO1297.out) (Kd.N_base ho91) hb)
                        have n4_:=Sd.mk (Kd.R_below (Kd.Rz HO1289.out) hb)
                        have n5_:=Sd.mk (Kd.R_below (Kd.Rz HO1300.out) hb)
                        have n6_:=Sd.mk (Kd.V_elder' (Kd.Vz HO1308.out) (Kd.N_base ho91) hb)
                        have n7_:=Sd.mk (Kd.V_elder' (Kd.Vz HO1322.out) (Kd.N_base ho91) hb)
                        have n8_:=Sd.mk (Kd.N_elder' (Kd.Nz HO1311.out) (Kd.N_base ho91) hb)
                        have n9_:=Sd.mk (Kd.N_lower ho91 (keep_size (w:=w) (g:=g) (row:=none) kz))
                        have n10_:=Sd.mk (IsS73.below iz hb)
                        have n11_:=Sd.mk (KeepBut.trans kz (KeepBut.of_below hb g none) (.inl rfl))
                        have n12_:=Sd.mk (below_step (bi) hb)
                        clear HO_5
                        clear HO_6
                        clear HO1279
                        clear HO1297
                        clear HO1289
                        clear HO1300
                        clear HO1308
                        clear HO1322
                        clear HO1311
                        clear HI0
                        clear HK
                        clear HB
                        clear HO_8
                        have HO_5:=n0_
                        have HO_6:=n1_
                        have HO1279:=n2_
                        have HO1297:=n3_
                        have HO1289:=n4_
                        have HO1300:=n5_
                        have HO1308:=n6_
                        have HO1322:=n7_
                        have HO1311:=n8_
                        have HO1314:=n9_
                        have HI0:=n10_
                        have HK:=n11_
                        have HB:=n12_
                        clear n0_ n1_ n2_ n3_ n4_ n5_ n6_ n7_ n8_ n9_ n10_ n11_ n12_
                        clear hb ho91
                        refine hK.out _ _ trivial (fun hHeld=>?_)
                        clear hK K
                        refine norm_ (a':=?_) ?_ ?_
                        rotate_left
                        ·show Act.put _ (some 93) _=_
                         simp only[Act.put,s1,s2,s3,i64_w,i32_w]
                         rfl
                        exact norm_ (by simp only[putAll,Act.put,List.setIfInBounds_toArray,List.set_cons_zero,List.set_cons_succ]) (hCont (v1302,v1310,v1313) _ ⟨(Kd.Vz <| Kd.V_mono HO1279.out (fun _ hk=>⟨hk.1.1.2.2.1,⟨hk.1.1.2.2.2.1,⟨hk.1.2,⟨hk.2,⟨hk.1.1.1,hk.1.1.2.2.2.2⟩⟩⟩⟩⟩)),(Kd.Rz <| Kd.R_mono HO1289.out (fun _ hk=>⟨hk.2,hk.1.1⟩)),(Kd.Vz <| Kd.V_mono HO1297.out (fun _ hk=>⟨hk.1.1.2.2.1,⟨hk.1.1.2.2.2.1,⟨hk.1.2,⟨hk.2,⟨hk.1.1.1,hk.1.1.2.2.2.2⟩⟩⟩⟩⟩)),(Kd.Rz <| Kd.R_mono HO1300.out (fun _ hk=>⟨hk.2.2,hk.1⟩)),(Kd.Vz <| Kd.V_mono HO1308.out (fun _ hk=>⟨hk.1.1.2.2.1,⟨hk.1.1.2.2.2.1,⟨hk.1.2,⟨hk.2,⟨hk.1.1.1,hk.1.1.2.2.2.2⟩⟩⟩⟩⟩)),(Kd.Nz <| Kd.N_mono HO1311.out (fun _ hk=>⟨hk.1.2.2.1,⟨hk.1.2.2.2.1,⟨hk.2,⟨hk.1.1,hk.1.2.2.2.2⟩⟩⟩⟩)),(Kd.Nz <| Kd.N_mono HO1314.out (fun _ hk=>⟨hk.2.2.1,⟨hk.2.2.2.1,⟨hk.2.2.2.2.1,⟨hk.1,⟨hk.2.1,hk.2.2.2.2.2⟩⟩⟩⟩⟩)),(Kd.Vz <| Kd.V_mono HO1322.out (fun _ hk=>⟨hk.1.1.2.2.1,⟨hk.1.1.2.2.2.1,⟨hk.1.2,⟨hk.2,⟨hk.1.1.1,hk.1.1.2.2.2.2⟩⟩⟩⟩⟩)),(Kd.Rz <| Kd.R_mono HO_5.out (fun _ hk=>⟨hk.1.2,hk.2⟩)),(Kd.Nz <| Kd.N_mono HO_6.out (fun _ hk=>⟨hk.1.1.2.2.1,⟨hk.1.1.2.2.2.1,⟨hk.1.2,⟨hk.2,⟨hk.1.1.1,hk.1.1.2.2.2.2⟩⟩⟩⟩⟩)),iz,kz,(bi)⟩)
                       ·skip
                        obtain⟨Ao88,co88,eo_⟩:=Kd.R_slice HO_8.out
                        subst eo_
                        refine Kd.N_lit_step (Kd.slice 3 (Kd.int .i64)) _ 22 ?hg (N':=93) ?hd (xs:=([x8_15]:List (List Int))) (inner:=[.slice Ao88 x8_15.length co88]) (ok:=(fun k_=>some k_≠(.slice Ao70 x5_1.length co70:Value).ownBlock∧some k_≠(.slice Ao84 x6_1.length co84:Value).ownBlock∧some k_≠(.slice Ao80 y1287.length co80:Value).ownBlock∧some k_≠(v1299:Value).ownBlock∧some k_≠(v1302:Value).ownBlock∧k_≠g)) (okp:=(fun k_=>some k_≠(.slice Ao70 x5_1.length co70:Value).ownBlock∧some k_≠(.slice Ao84 x6_1.length co84:Value).ownBlock∧some k_≠(.slice Ao80 y1287.length co80:Value).ownBlock∧some k_≠(v1299:Value).ownBlock∧some k_≠(v1302:Value).ownBlock∧k_≠g)) ?hr ?hp (fun _ hk=>hk) ((show ∀ k_,w86.heap.size≤k_→(fun k_=>some k_≠(.slice Ao70 x5_1.length co70:Value).ownBlock∧some k_≠(.slice Ao84 x6_1.length co84:Value).ownBlock∧some k_≠(.slice Ao80 y1287.length co80:Value).ownBlock∧some k_≠(v1299:Value).ownBlock∧some k_≠(v1302:Value).ownBlock∧k_≠g) k_ from fun k_ hk=>⟨Kd.fresh' (Kd.R_lt (Kd.Rz HO_5.out)) k_ hk,Kd.fresh' (Kd.N_lt (Kd.Nz HO_6.out)) k_ hk,Kd.fresh' (Kd.R_lt (Kd.Rz HO1289.out)) k_ hk,Kd.fresh' (Kd.R_lt (Kd.Rz HO1300.out)) k_ hk,Kd.fresh' (Kd.N_lt (Kd.Nz HO1303.out)) k_ hk,IsS73.fresh iz k_ hk⟩) _ (Nat.le_refl _)) (Below.refl _ _) (Nat.le_refl _) (by simp) ?_;(case hd=>rfl);(case hg=>rfl);(case hr=>first|(go_simp;done)|(go_simp;rfl));(case hp=>exact(Reps.one (show Kd.FK (Kd.slice 3 (Kd.int .i64)) _ _ x8_15 [.slice Ao88 x8_15.length co88] from(Kd.FK_slice_mk (Kd.R_reads' (Kd.R_mono (ok':=(fun k_=>some k_≠(.slice Ao70 x5_1.length co70:Value).ownBlock∧some k_≠(.slice Ao84 x6_1.length co84:Value).ownBlock∧some k_≠(.slice Ao80 y1287.length co80:Value).ownBlock∧some k_≠(v1299:Value).ownBlock∧some k_≠(v1302:Value).ownBlock∧k_≠g)) (IsS73.apart HI0.out (Kd.R_apart' (Kd.R_apart' (HO_8.out) (Kd.N_typed HO_6.out) (by decide)) (Kd.N_typed HO1303.out) (by decide)) (by decide)) (fun k_ hk=>⟨hk.1.1.1.1.1,⟨hk.1.1.2,⟨hk.1.1.1.1.2,⟨hk.1.1.1.2,⟨hk.1.2,hk.2⟩⟩⟩⟩⟩))).2.1 (Kd.R_F (Kd.R_mono (ok':=(fun k_=>some k_≠(.slice Ao70 x5_1.length co70:Value).ownBlock∧some k_≠(.slice Ao84 x6_1.length co84:Value).ownBlock∧some k_≠(.slice Ao80 y1287.length co80:Value).ownBlock∧some k_≠(v1299:Value).ownBlock∧some k_≠(v1302:Value).ownBlock∧k_≠g)) (IsS73.apart HI0.out (Kd.R_apart' (Kd.R_apart' (HO_8.out) (Kd.N_typed HO_6.out) (by decide)) (Kd.N_typed HO1303.out) (by decide)) (by decide)) (fun k_ hk=>⟨hk.1.1.1.1.1,⟨hk.1.1.2,⟨hk.1.1.1.1.2,⟨hk.1.1.1.2,⟨hk.1.2,hk.2⟩⟩⟩⟩⟩))))) (Reps.none _ _)))
                        intro v1313 w89 ho90 hb hg_ hnew_
                        clear hg_ hnew_
                        (first|rw[← Ny1312.out] at ho90|(simp only[Int.reduceToNat] at ho90;rw[← Ny1312.out] at ho90))
                        have n0_:=Sd.mk (Kd.R_below (Kd.Rz HO_5.out) hb)
                        have n1_:=Sd.mk (Kd.N_elder' (Kd.Nz HO_6.out) (Kd.N_base ho90) hb)
                        have n2_:=Sd.mk (Kd.V_elder' (Kd.Vz HO1279.out) (Kd.N_base ho90) hb)
                        have n3_:=Sd.mk (Kd.V_elder' (Kd.Vz HO1297.out) (Kd.N_base ho90) hb)
                        have n4_:=Sd.mk (Kd.R_below (Kd.Rz HO1289.out) hb)
                        have n5_:=Sd.mk (Kd.R_below (Kd.Rz HO1300.out) hb)
                        have n6_:=Sd.mk (Kd.V_elder' (Kd.Vz HO1308.out) (Kd.N_base ho90) hb)
                        have n7_:=Sd.mk (Kd.V_elder' (Kd.Vz HO1322.out) (Kd.N_base ho90) hb)
                        have n8_:=Sd.mk (Kd.N_elder' (Kd.Nz HO1303.out) (Kd.N_base ho90) hb)
                        have n9_:=Sd.mk (Kd.N_lower ho90 (keep_size (w:=w) (g:=g) (row:=none) kz))
                        have n10_:=Sd.mk (IsS73.below iz hb)
                        have n11_:=Sd.mk (KeepBut.trans kz (KeepBut.of_below hb g none) (.inl rfl))
                        have n12_:=Sd.mk (below_step (bi) hb)
                        clear HO_5
                        clear HO_6
                        clear HO1279
                        clear HO1297
                        clear HO1289
                        clear HO1300
                        clear HO1308
                        clear HO1322
                        clear HO1303
                        clear HI0
                        clear HK
                        clear HB
                        clear HO_8
                        have HO_5:=n0_
                        have HO_6:=n1_
                        have HO1279:=n2_
                        have HO1297:=n3_
                        have HO1289:=n4_
                        have HO1300:=n5_
                        have HO1308:=n6_
                        have HO1322:=n7_
                        have HO1303:=n8_
                        have HO1314:=n9_
                        have HI0:=n10_
                        have HK:=n11_
                        have HB:=n12_
                        clear n0_ n1_ n2_ n3_ n4_ n5_ n6_ n7_ n8_ n9_ n10_ n11_ n12_
                        clear hb ho90
                        refine hK.out _ _ trivial (fun hHeld=>?_)
                        clear hK K
                        refine norm_ (a':=?_) ?_ ?_
                        rotate_left
                        ·show Act.put _ (some 93) _=_
                         simp only[Act.put,s1,s2,s3,i64_w,i32_w]
                         rfl
                        refine one_ (i:=4) (N:=some 91) #[T,T,T,T,T,T,T,F,T,T,T,F,F] rfl rfl (one_of HT_.out (by kernel_rfl)) (by decide) (fun K hK=>?_)
                        refine Kd.N_append_rows_step (Kd.slice 3 (Kd.int .i64)) w.heap.size (by rfl) (.tmp 87) (.tmp 90) 52 22 (.slice none 0 0) 24 rfl Try.underlying52 info22 rfl (by decide) (by omega) v1302 y1301 y1304 _ _ _ (fun k_=>some k_≠(.slice Ao70 x5_1.length co70:Value).ownBlock∧some k_≠(.slice Ao80 y1287.length co80:Value).ownBlock∧some k_≠(v1299:Value).ownBlock∧some k_≠(v1313:Value).ownBlock∧k_≠g) (fun k_=>((fun k_=>some k_≠(.slice Ao70 x5_1.length co70:Value).ownBlock∧some k_≠(.slice Ao80 y1287.length co80:Value).ownBlock∧some k_≠(v1299:Value).ownBlock∧some k_≠(v1313:Value).ownBlock∧k_≠g)) k_∧some k_≠(v1302:Value).ownBlock) rfl rfl ?aO ?aR (fun _ hk=>hk) ?aF (Below.refl _ _) ?aS ?aL ?_
                        (case aR=>exact(by skip;exact Kd.V_F (Kd.V_mono (ok':=(fun k_=>((fun k_=>some k_≠(.slice Ao70 x5_1.length co70:Value).ownBlock∧some k_≠(.slice Ao80 y1287.length co80:Value).ownBlock∧some k_≠(v1299:Value).ownBlock∧some k_≠(v1313:Value).ownBlock∧k_≠g)) k_∧some k_≠(v1302:Value).ownBlock)) (HO1308.out) (fun k_ hk=>⟨⟨hk.1.1.1.1,⟨hk.1.1.1.2.2.1,⟨hk.1.1.2,⟨hk.2,hk.1.1.1.2.2.2⟩⟩⟩⟩,hk.1.2⟩))))
                        (case aF=>exact(fun k_ hk=>⟨Kd.fresh' (Kd.R_lt (Kd.Rz HO_5.out)) k_ hk,Kd.fresh' (Kd.R_lt (Kd.Rz HO1289.out)) k_ hk,Kd.fresh' (Kd.R_lt (Kd.Rz HO1300.out)) k_ hk,Kd.fresh' (Kd.N_lt (Kd.Nz HO1314.out)) k_ hk,IsS73.fresh iz k_ hk⟩))
                        (case aO=>exact(Kd.Nz <| Kd.N_mono HO1303.out (fun _ hk=>⟨hk.1.1,⟨hk.1.2.2.2.1,⟨hk.1.2.2.2.2.1,⟨hk.2,hk.1.2.2.2.2.2⟩⟩⟩⟩)))
                        (case aS=>exact(keep_size (w:=w) (g:=g) (row:=none) kz))
                        (case aL=>have:=LMc63.out;omega)
                        intro v1310 w91 ho hb hg hat
                        rw[← Ny1309.out] at ho
                        have n0_:=Sd.mk (Kd.R_over' (Kd.Rz HO_5.out) (Kd.N_typed (Kd.Nz HO1303.out)) (by decide) hg)
                        have n1_:=Sd.mk (Kd.N_afterv (ok:=(fun k_=>some k_≠(.slice Ao70 x5_1.length co70:Value).ownBlock∧some k_≠(.slice Ao80 y1287.length co80:Value).ownBlock∧some k_≠(v1299:Value).ownBlock∧some k_≠(v1313:Value).ownBlock∧k_≠g)) (Kd.Nz <| Kd.N_mono HO_6.out (fun _ hk=>⟨⟨hk.1.1.1.1,⟨hk.1.1.1.2.2.1,⟨hk.1.1.2,⟨hk.2,hk.1.1.1.2.2.2⟩⟩⟩⟩,hk.1.2⟩)) hg hat)
                        have n2_:=Sd.mk (IsS73.grown iz hg (IsS73.own_neN HI0.out HO1303.out (by decide)))
                        have n3_:=Sd.mk (Kd.V_afterv (ok:=(fun k_=>some k_≠(.slice Ao84 x6_1.length co84:Value).ownBlock∧some k_≠(.slice Ao80 y1287.length co80:Value).ownBlock∧some k_≠(v1299:Value).ownBlock∧some k_≠(v1313:Value).ownBlock∧k_≠g)) (Kd.Vz <| Kd.V_mono HO1279.out (fun _ hk=>⟨⟨hk.1.1.1.1,⟨hk.1.1.1.2.2.1,⟨hk.1.1.2,⟨hk.2,hk.1.1.1.2.2.2⟩⟩⟩⟩,hk.1.2⟩)) hg hat)
                        have n4_:=Sd.mk (Kd.V_afterv (ok:=(fun k_=>some k_≠(.slice Ao84 x6_1.length co84:Value).ownBlock∧some k_≠(.slice Ao80 y1287.length co80:Value).ownBlock∧some k_≠(v1299:Value).ownBlock∧some k_≠(v1313:Value).ownBlock∧k_≠g)) (Kd.Vz <| Kd.V_mono HO1297.out (fun _ hk=>⟨⟨hk.1.1.1.1,⟨hk.1.1.1.2.2.1,⟨hk.1.1.2,⟨hk.2,hk.1.1.1.2.2.2⟩⟩⟩⟩,hk.1.2⟩)) hg hat)
                        have n5_:=Sd.mk (Kd.R_over' (Kd.Rz HO1289.out) (Kd.N_typed (Kd.Nz HO1303.out)) (by decide) hg)
                        have n6_:=Sd.mk (Kd.R_over' (Kd.Rz HO1300.out) (Kd.N_typed (Kd.Nz HO1303.out)) (by decide) hg)
                        have n7_:=Sd.mk (Kd.V_afterv (ok:=(fun k_=>some k_≠(.slice Ao70 x5_1.length co70:Value).ownBlock∧some k_≠(.slice Ao80 y1287.length co80:Value).ownBlock∧some k_≠(v1299:Value).ownBlock∧some k_≠(v1313:Value).ownBlock∧k_≠g)) (Kd.Vz <| Kd.V_mono HO1308.out (fun _ hk=>⟨⟨hk.1.1.1.1,⟨hk.1.1.1.2.2.1,⟨hk.1.1.2,⟨hk.2,hk.1.1.1.2.2.2⟩⟩⟩⟩,hk.1.2⟩)) hg hat)
                        have n8_:=Sd.mk (Kd.V_afterv (ok:=(fun k_=>some k_≠(.slice Ao70 x5_1.length co70:Value).ownBlock∧some k_≠(.slice Ao80 y1287.length co80:Value).ownBlock∧some k_≠(v1299:Value).ownBlock∧some k_≠(v1313:Value).ownBlock∧k_≠g)) (Kd.Vz <| Kd.V_mono HO1322.out (fun _ hk=>⟨⟨hk.1.1.1.1,⟨hk.1.1.1.2.2.1,⟨hk.1.1.2,⟨hk.2,hk.1.1.1.2.2.2⟩⟩⟩⟩,hk.1.2⟩)) hg hat)
                        have n9_:=Sd.mk (Kd.N_afterv (ok:=(fun k_=>some k_≠(.slice Ao70 x5_1.length co70:Value).ownBlock∧some k_≠(.slice Ao84 x6_1.length co84:Value).ownBlock∧some k_≠(.slice Ao80 y1287.length co80:Value).ownBlock∧some k_≠(v1299:Value).ownBlock∧k_≠g)) (Kd.Nz <| Kd.N_mono HO1314.out (fun _ hk=>⟨⟨hk.1,⟨hk.2.1,⟨hk.2.2.1,⟨hk.2.2.2.1,hk.2.2.2.2.2⟩⟩⟩⟩,hk.2.2.2.2.1⟩)) hg hat)
                        have n10_:=Sd.mk (below_weaken (bi) HL.out hb)
                        have n11_:=Sd.mk (KeepBut.trans kz (KeepBut.of_grown hg g) (Kd.N_base2 HO1303.out))
                        have n12_:=Sd.mk (ho)
                        clear HO_5
                        clear HO_6
                        clear HI0
                        clear HO1279
                        clear HO1297
                        clear HO1289
                        clear HO1300
                        clear HO1308
                        clear HO1322
                        clear HO1314
                        clear HB
                        clear HK
                        clear HO1303
                        have HO_5:=n0_
                        have HO_6:=n1_
                        have HI0:=n2_
                        have HO1279:=n3_
                        have HO1297:=n4_
                        have HO1289:=n5_
                        have HO1300:=n6_
                        have HO1308:=n7_
                        have HO1322:=n8_
                        have HO1314:=n9_
                        have HB:=n10_
                        have HK:=n11_
                        have HO1311:=n12_
                        clear n0_ n1_ n2_ n3_ n4_ n5_ n6_ n7_ n8_ n9_ n10_ n11_ n12_
                        clear ho hb hg hat
                        refine hK.out _ _ trivial (fun hHeld=>?_)
                        clear hK K
                        refine norm_ (a':=?_) ?_ ?_
                        rotate_left
                        ·show Act.put _ (some 91) _=_
                         simp only[Act.put,s1,s2,s3,i64_w,i32_w]
                         rfl
                        exact norm_ (by simp only[putAll,Act.put,List.setIfInBounds_toArray,List.set_cons_zero,List.set_cons_succ]) (hCont (v1302,v1310,v1313) _ ⟨(Kd.Vz <| Kd.V_mono HO1279.out (fun _ hk=>⟨hk.1.2.1,⟨hk.1.2.2.1,⟨hk.2,⟨hk.1.2.2.2.1,⟨hk.1.1,hk.1.2.2.2.2⟩⟩⟩⟩⟩)),(Kd.Rz <| Kd.R_mono HO1289.out (fun _ hk=>⟨hk.2,hk.1.1⟩)),(Kd.Vz <| Kd.V_mono HO1297.out (fun _ hk=>⟨hk.1.2.1,⟨hk.1.2.2.1,⟨hk.2,⟨hk.1.2.2.2.1,⟨hk.1.1,hk.1.2.2.2.2⟩⟩⟩⟩⟩)),(Kd.Rz <| Kd.R_mono HO1300.out (fun _ hk=>⟨hk.2.2,hk.1⟩)),(Kd.Vz <| Kd.V_mono HO1308.out (fun _ hk=>⟨hk.1.2.1,⟨hk.1.2.2.1,⟨hk.2,⟨hk.1.2.2.2.1,⟨hk.1.1,hk.1.2.2.2.2⟩⟩⟩⟩⟩)),(Kd.Nz <| Kd.N_mono HO1311.out (fun _ hk=>⟨hk.2.1,⟨hk.2.2.1,⟨hk.2.2.2.1,⟨hk.1,hk.2.2.2.2⟩⟩⟩⟩)),(Kd.Nz <| Kd.N_mono HO1314.out (fun _ hk=>⟨hk.1.2.2.1,⟨hk.1.2.2.2.1,⟨hk.2,⟨hk.1.1,⟨hk.1.2.1,hk.1.2.2.2.2⟩⟩⟩⟩⟩)),(Kd.Vz <| Kd.V_mono HO1322.out (fun _ hk=>⟨hk.1.2.1,⟨hk.1.2.2.1,⟨hk.2,⟨hk.1.2.2.2.1,⟨hk.1.1,hk.1.2.2.2.2⟩⟩⟩⟩⟩)),(Kd.Rz <| Kd.R_mono HO_5.out (fun _ hk=>⟨hk.1.2,hk.2⟩)),(Kd.Nz <| Kd.N_mono HO_6.out (fun _ hk=>⟨hk.1.2.1,⟨hk.1.2.2.1,⟨hk.2,⟨hk.1.2.2.2.1,⟨hk.1.1,hk.1.2.2.2.2⟩⟩⟩⟩⟩)),iz,kz,(bi)⟩)
                      ·skip
                       obtain⟨Ao86,co86,eo_⟩:=Kd.R_slice HO_8.out
                       subst eo_
                       refine Kd.N_lit_step (Kd.slice 3 (Kd.int .i64)) _ 22 ?hg (N':=93) ?hd (xs:=([x8_15]:List (List Int))) (inner:=[.slice Ao86 x8_15.length co86]) (ok:=(fun k_=>some k_≠(.slice Ao70 x5_1.length co70:Value).ownBlock∧some k_≠(.slice Ao84 x6_1.length co84:Value).ownBlock∧some k_≠(.slice Ao80 y1287.length co80:Value).ownBlock∧some k_≠(v1299:Value).ownBlock∧k_≠g)) (okp:=(fun k_=>some k_≠(.slice Ao70 x5_1.length co70:Value).ownBlock∧some k_≠(.slice Ao84 x6_1.length co84:Value).ownBlock∧some k_≠(.slice Ao80 y1287.length co80:Value).ownBlock∧some k_≠(v1299:Value).ownBlock∧k_≠g)) ?hr ?hp (fun _ hk=>hk) ((show ∀ k_,w82.heap.size≤k_→(fun k_=>some k_≠(.slice Ao70 x5_1.length co70:Value).ownBlock∧some k_≠(.slice Ao84 x6_1.length co84:Value).ownBlock∧some k_≠(.slice Ao80 y1287.length co80:Value).ownBlock∧some k_≠(v1299:Value).ownBlock∧k_≠g) k_ from fun k_ hk=>⟨Kd.fresh' (Kd.R_lt (Kd.Rz HO_5.out)) k_ hk,Kd.fresh' (Kd.N_lt (Kd.Nz HO_6.out)) k_ hk,Kd.fresh' (Kd.R_lt (Kd.Rz HO1289.out)) k_ hk,Kd.fresh' (Kd.R_lt (Kd.Rz HO1300.out)) k_ hk,IsS73.fresh iz k_ hk⟩) _ (Nat.le_refl _)) (Below.refl _ _) (Nat.le_refl _) (by simp) ?_;(case hd=>rfl);(case hg=>rfl);(case hr=>first|(go_simp;done)|(go_simp;rfl));(case hp=>exact(Reps.one (show Kd.FK (Kd.slice 3 (Kd.int .i64)) _ _ x8_15 [.slice Ao86 x8_15.length co86] from(Kd.FK_slice_mk (Kd.R_reads' (Kd.R_mono (ok':=(fun k_=>some k_≠(.slice Ao70 x5_1.length co70:Value).ownBlock∧some k_≠(.slice Ao84 x6_1.length co84:Value).ownBlock∧some k_≠(.slice Ao80 y1287.length co80:Value).ownBlock∧some k_≠(v1299:Value).ownBlock∧k_≠g)) (IsS73.apart HI0.out (Kd.R_apart' (HO_8.out) (Kd.N_typed HO_6.out) (by decide)) (by decide)) (fun k_ hk=>⟨hk.1.1.1.1,⟨hk.1.2,⟨hk.1.1.1.2,⟨hk.1.1.2,hk.2⟩⟩⟩⟩))).2.1 (Kd.R_F (Kd.R_mono (ok':=(fun k_=>some k_≠(.slice Ao70 x5_1.length co70:Value).ownBlock∧some k_≠(.slice Ao84 x6_1.length co84:Value).ownBlock∧some k_≠(.slice Ao80 y1287.length co80:Value).ownBlock∧some k_≠(v1299:Value).ownBlock∧k_≠g)) (IsS73.apart HI0.out (Kd.R_apart' (HO_8.out) (Kd.N_typed HO_6.out) (by decide)) (by decide)) (fun k_ hk=>⟨hk.1.1.1.1,⟨hk.1.2,⟨hk.1.1.1.2,⟨hk.1.1.2,hk.2⟩⟩⟩⟩))))) (Reps.none _ _)))
                       intro v1313 w87 ho88 hb hg_ hnew_
                       clear hg_ hnew_
                       (first|rw[← Ny1312.out] at ho88|(simp only[Int.reduceToNat] at ho88;rw[← Ny1312.out] at ho88))
                       have n0_:=Sd.mk (Kd.R_below (Kd.Rz HO_5.out) hb)
                       have n1_:=Sd.mk (Kd.N_elder' (Kd.Nz HO_6.out) (Kd.N_base ho88) hb)
                       have n2_:=Sd.mk (Kd.V_elder' (Kd.Vz HO1279.out) (Kd.N_base ho88) hb)
                       have n3_:=Sd.mk (Kd.V_elder' (Kd.Vz HO1297.out) (Kd.N_base ho88) hb)
                       have n4_:=Sd.mk (Kd.R_below (Kd.Rz HO1289.out) hb)
                       have n5_:=Sd.mk (Kd.R_below (Kd.Rz HO1300.out) hb)
                       have n6_:=Sd.mk (Kd.V_elder' (Kd.Vz HO1308.out) (Kd.N_base ho88) hb)
                       have n7_:=Sd.mk (Kd.V_elder' (Kd.Vz HO1322.out) (Kd.N_base ho88) hb)
                       have n8_:=Sd.mk (Kd.N_lower ho88 (keep_size (w:=w) (g:=g) (row:=none) kz))
                       have n9_:=Sd.mk (IsS73.below iz hb)
                       have n10_:=Sd.mk (KeepBut.trans kz (KeepBut.of_below hb g none) (.inl rfl))
                       have n11_:=Sd.mk (below_step (bi) hb)
                       clear HO_5
                       clear HO_6
                       clear HO1279
                       clear HO1297
                       clear HO1289
                       clear HO1300
                       clear HO1308
                       clear HO1322
                       clear HI0
                       clear HK
                       clear HB
                       clear HO_8
                       have HO_5:=n0_
                       have HO_6:=n1_
                       have HO1279:=n2_
                       have HO1297:=n3_
                       have HO1289:=n4_
                       have HO1300:=n5_
                       have HO1308:=n6_
                       have HO1322:=n7_
                       have HO1314:=n8_
                       have HI0:=n9_
                       have HK:=n10_
                       have HB:=n11_
                       clear n0_ n1_ n2_ n3_ n4_ n5_ n6_ n7_ n8_ n9_ n10_ n11_
                       clear hb ho88
                       refine hK.out _ _ trivial (fun hHeld=>?_)
                       clear hK K
                       refine norm_ (a':=?_) ?_ ?_
                       rotate_left
                       ·show Act.put _ (some 93) _=_
                        simp only[Act.put,s1,s2,s3,i64_w,i32_w]
                        rfl
                       refine one_ (i:=0) (N:=some 87) #[T,T,T,T,F,T,T,F,T,T,T,F,F] rfl rfl (one_of HT_.out (by kernel_rfl)) (by decide) (fun K hK=>?_)
                       refine Kd.N_lit_step (Kd.slice 3 (Kd.int .i64)) _ 22 ?hg (N':=87) ?hd (xs:=([]:List (List Int))) (inner:=[]) (ok:=(fun k_=>some k_≠(.slice Ao70 x5_1.length co70:Value).ownBlock∧some k_≠(.slice Ao84 x6_1.length co84:Value).ownBlock∧some k_≠(.slice Ao80 y1287.length co80:Value).ownBlock∧some k_≠(v1299:Value).ownBlock∧some k_≠(v1313:Value).ownBlock∧k_≠g)) (okp:=(fun k_=>some k_≠(.slice Ao70 x5_1.length co70:Value).ownBlock∧some k_≠(.slice Ao84 x6_1.length co84:Value).ownBlock∧some k_≠(.slice Ao80 y1287.length co80:Value).ownBlock∧some k_≠(v1299:Value).ownBlock∧some k_≠(v1313:Value).ownBlock∧k_≠g)) ?hr ?hp (fun _ hk=>hk) ((show ∀ k_,w87.heap.size≤k_→(fun k_=>some k_≠(.slice Ao70 x5_1.length co70:Value).ownBlock∧some k_≠(.slice Ao84 x6_1.length co84:Value).ownBlock∧some k_≠(.slice Ao80 y1287.length co80:Value).ownBlock∧some k_≠(v1299:Value).ownBlock∧some k_≠(v1313:Value).ownBlock∧k_≠g) k_ from fun k_ hk=>⟨Kd.fresh' (Kd.R_lt (Kd.Rz HO_5.out)) k_ hk,Kd.fresh' (Kd.N_lt (Kd.Nz HO_6.out)) k_ hk,Kd.fresh' (Kd.R_lt (Kd.Rz HO1289.out)) k_ hk,Kd.fresh' (Kd.R_lt (Kd.Rz HO1300.out)) k_ hk,Kd.fresh' (Kd.N_lt (Kd.Nz HO1314.out)) k_ hk,IsS73.fresh iz k_ hk⟩) _ (Nat.le_refl _)) (Below.refl _ _) (Nat.le_refl _) (by simp) ?_;(case hd=>rfl);(case hg=>rfl);(case hr=>first|(go_simp;done)|(go_simp;rfl));(case hp=>exact(Reps.none _ _))
                       intro v1302 w89 ho90 hb hg_ hnew_
                       clear hg_ hnew_
                       (first|rw[← Ny1301.out] at ho90|(simp only[Int.reduceToNat] at ho90;rw[← Ny1301.out] at ho90))
                       have n0_:=Sd.mk (Kd.R_below (Kd.Rz HO_5.out) hb)
                       have n1_:=Sd.mk (Kd.N_elder' (Kd.Nz HO_6.out) (Kd.N_base ho90) hb)
                       have n2_:=Sd.mk (Kd.V_elder' (Kd.Vz HO1279.out) (Kd.N_base ho90) hb)
                       have n3_:=Sd.mk (Kd.V_elder' (Kd.Vz HO1297.out) (Kd.N_base ho90) hb)
                       have n4_:=Sd.mk (Kd.R_below (Kd.Rz HO1289.out) hb)
                       have n5_:=Sd.mk (Kd.R_below (Kd.Rz HO1300.out) hb)
                       have n6_:=Sd.mk (Kd.V_elder' (Kd.Vz HO1308.out) (Kd.N_base ho90) hb)
                       have n7_:=Sd.mk (Kd.V_elder' (Kd.Vz HO1322.out) (Kd.N_base ho90) hb)
                       have n8_:=Sd.mk (Kd.N_elder' (Kd.Nz HO1314.out) (Kd.N_base ho90) hb)
                       have n9_:=Sd.mk (Kd.N_lower ho90 (keep_size (w:=w) (g:=g) (row:=none) kz))
                       have n10_:=Sd.mk (IsS73.below iz hb)
                       have n11_:=Sd.mk (KeepBut.trans kz (KeepBut.of_below hb g none) (.inl rfl))
                       have n12_:=Sd.mk (below_step (bi) hb)
                       clear HO_5
                       clear HO_6
                       clear HO1279
                       clear HO1297
                       clear HO1289
                       clear HO1300
                       clear HO1308
                       clear HO1322
                       clear HO1314
                       clear HI0
                       clear HK
                       clear HB
                       have HO_5:=n0_
                       have HO_6:=n1_
                       have HO1279:=n2_
                       have HO1297:=n3_
                       have HO1289:=n4_
                       have HO1300:=n5_
                       have HO1308:=n6_
                       have HO1322:=n7_
                       have HO1314:=n8_
                       have HO1303:=n9_
                       have HI0:=n10_
                       have HK:=n11_
                       have HB:=n12_
                       clear n0_ n1_ n2_ n3_ n4_ n5_ n6_ n7_ n8_ n9_ n10_ n11_ n12_
                       clear hb ho90
                       refine hK.out _ _ trivial (fun hHeld=>?_)
                       clear hK K
                       refine norm_ (a':=?_) ?_ ?_
                       rotate_left
                       ·show Act.put _ (some 87) _=_
                        simp only[Act.put,s1,s2,s3,i64_w,i32_w]
                        rfl
                       refine one_ (i:=4) (N:=some 91) #[T,T,T,T,T,T,T,F,T,T,T,F,F] rfl rfl (one_of HT_.out (by kernel_rfl)) (by decide) (fun K hK=>?_)
                       refine Kd.N_append_rows_step (Kd.slice 3 (Kd.int .i64)) w.heap.size (by rfl) (.tmp 87) (.tmp 90) 52 22 (.slice none 0 0) 24 rfl Try.underlying52 info22 rfl (by decide) (by omega) v1302 y1301 y1304 _ _ _ (fun k_=>some k_≠(.slice Ao70 x5_1.length co70:Value).ownBlock∧some k_≠(.slice Ao80 y1287.length co80:Value).ownBlock∧some k_≠(v1299:Value).ownBlock∧some k_≠(v1313:Value).ownBlock∧k_≠g) (fun k_=>((fun k_=>some k_≠(.slice Ao70 x5_1.length co70:Value).ownBlock∧some k_≠(.slice Ao80 y1287.length co80:Value).ownBlock∧some k_≠(v1299:Value).ownBlock∧some k_≠(v1313:Value).ownBlock∧k_≠g)) k_∧some k_≠(v1302:Value).ownBlock) rfl rfl ?aO ?aR (fun _ hk=>hk) ?aF (Below.refl _ _) ?aS ?aL ?_
                       (case aR=>exact(by skip;exact Kd.V_F (Kd.V_mono (ok':=(fun k_=>((fun k_=>some k_≠(.slice Ao70 x5_1.length co70:Value).ownBlock∧some k_≠(.slice Ao80 y1287.length co80:Value).ownBlock∧some k_≠(v1299:Value).ownBlock∧some k_≠(v1313:Value).ownBlock∧k_≠g)) k_∧some k_≠(v1302:Value).ownBlock)) (HO1308.out) (fun k_ hk=>⟨⟨hk.1.1.1.1,⟨hk.1.1.1.2.2.1,⟨hk.1.1.2,⟨hk.1.2,hk.1.1.1.2.2.2⟩⟩⟩⟩,hk.2⟩))))
                       (case aF=>exact(fun k_ hk=>⟨Kd.fresh' (Kd.R_lt (Kd.Rz HO_5.out)) k_ hk,Kd.fresh' (Kd.R_lt (Kd.Rz HO1289.out)) k_ hk,Kd.fresh' (Kd.R_lt (Kd.Rz HO1300.out)) k_ hk,Kd.fresh' (Kd.N_lt (Kd.Nz HO1314.out)) k_ hk,IsS73.fresh iz k_ hk⟩))
                       (case aO=>exact(Kd.Nz <| Kd.N_mono HO1303.out (fun _ hk=>⟨hk.1,⟨hk.2.2.1,⟨hk.2.2.2.1,⟨hk.2.2.2.2.1,hk.2.2.2.2.2⟩⟩⟩⟩)))
                       (case aS=>exact(keep_size (w:=w) (g:=g) (row:=none) kz))
                       (case aL=>have:=LMc63.out;omega)
                       intro v1310 w91 ho hb hg hat
                       rw[← Ny1309.out] at ho
                       have n0_:=Sd.mk (Kd.R_over' (Kd.Rz HO_5.out) (Kd.N_typed (Kd.Nz HO1303.out)) (by decide) hg)
                       have n1_:=Sd.mk (Kd.N_afterv (ok:=(fun k_=>some k_≠(.slice Ao70 x5_1.length co70:Value).ownBlock∧some k_≠(.slice Ao80 y1287.length co80:Value).ownBlock∧some k_≠(v1299:Value).ownBlock∧some k_≠(v1313:Value).ownBlock∧k_≠g)) (Kd.Nz <| Kd.N_mono HO_6.out (fun _ hk=>⟨⟨hk.1.1.1.1,⟨hk.1.1.1.2.2.1,⟨hk.1.1.2,⟨hk.1.2,hk.1.1.1.2.2.2⟩⟩⟩⟩,hk.2⟩)) hg hat)
                       have n2_:=Sd.mk (IsS73.grown iz hg (IsS73.own_neN HI0.out HO1303.out (by decide)))
                       have n3_:=Sd.mk (Kd.V_afterv (ok:=(fun k_=>some k_≠(.slice Ao84 x6_1.length co84:Value).ownBlock∧some k_≠(.slice Ao80 y1287.length co80:Value).ownBlock∧some k_≠(v1299:Value).ownBlock∧some k_≠(v1313:Value).ownBlock∧k_≠g)) (Kd.Vz <| Kd.V_mono HO1279.out (fun _ hk=>⟨⟨hk.1.1.1.1,⟨hk.1.1.1.2.2.1,⟨hk.1.1.2,⟨hk.1.2,hk.1.1.1.2.2.2⟩⟩⟩⟩,hk.2⟩)) hg hat)
                       have n4_:=Sd.mk (Kd.V_afterv (ok:=(fun k_=>some k_≠(.slice Ao84 x6_1.length co84:Value).ownBlock∧some k_≠(.slice Ao80 y1287.length co80:Value).ownBlock∧some k_≠(v1299:Value).ownBlock∧some k_≠(v1313:Value).ownBlock∧k_≠g)) (Kd.Vz <| Kd.V_mono HO1297.out (fun _ hk=>⟨⟨hk.1.1.1.1,⟨hk.1.1.1.2.2.1,⟨hk.1.1.2,⟨hk.1.2,hk.1.1.1.2.2.2⟩⟩⟩⟩,hk.2⟩)) hg hat)
                       have n5_:=Sd.mk (Kd.R_over' (Kd.Rz HO1289.out) (Kd.N_typed (Kd.Nz HO1303.out)) (by decide) hg)
                       have n6_:=Sd.mk (Kd.R_over' (Kd.Rz HO1300.out) (Kd.N_typed (Kd.Nz HO1303.out)) (by decide) hg)
                       have n7_:=Sd.mk (Kd.V_afterv (ok:=(fun k_=>some k_≠(.slice Ao70 x5_1.length co70:Value).ownBlock∧some k_≠(.slice Ao80 y1287.length co80:Value).ownBlock∧some k_≠(v1299:Value).ownBlock∧some k_≠(v1313:Value).ownBlock∧k_≠g)) (Kd.Vz <| Kd.V_mono HO1308.out (fun _ hk=>⟨⟨hk.1.1.1.1,⟨hk.1.1.1.2.2.1,⟨hk.1.1.2,⟨hk.1.2,hk.1.1.1.2.2.2⟩⟩⟩⟩,hk.2⟩)) hg hat)
                       have n8_:=Sd.mk (Kd.V_afterv (ok:=(fun k_=>some k_≠(.slice Ao70 x5_1.length co70:Value).ownBlock∧some k_≠(.slice Ao80 y1287.length co80:Value).ownBlock∧some k_≠(v1299:Value).ownBlock∧some k_≠(v1313:Value).ownBlock∧k_≠g)) (Kd.Vz <| Kd.V_mono HO1322.out (fun _ hk=>⟨⟨hk.1.1.1.1,⟨hk.1.1.1.2.2.1,⟨hk.1.1.2,⟨hk.1.2,hk.1.1.1.2.2.2⟩⟩⟩⟩,hk.2⟩)) hg hat)
                       have n9_:=Sd.mk (Kd.N_afterv (ok:=(fun k_=>some k_≠(.slice Ao70 x5_1.length co70:Value).ownBlock∧some k_≠(.slice Ao84 x6_1.length co84:Value).ownBlock∧some k_≠(.slice Ao80 y1287.length co80:Value).ownBlock∧some k_≠(v1299:Value).ownBlock∧k_≠g)) (Kd.Nz HO1314.out) hg hat)
                       have n10_:=Sd.mk (below_weaken (bi) HL.out hb)
                       have n11_:=Sd.mk (KeepBut.trans kz (KeepBut.of_grown hg g) (Kd.N_base2 HO1303.out))
                       have n12_:=Sd.mk (ho)
                       clear HO_5
                       clear HO_6
                       clear HI0
                       clear HO1279
                       clear HO1297
                       clear HO1289
                       clear HO1300
                       clear HO1308
                       clear HO1322
                       clear HO1314
                       clear HB
                       clear HK
                       clear HO1303
                       have HO_5:=n0_
                       have HO_6:=n1_
                       have HI0:=n2_
                       have HO1279:=n3_
                       have HO1297:=n4_
                       have HO1289:=n5_
                       have HO1300:=n6_
                       have HO1308:=n7_
                       have HO1322:=n8_
                       have HO1314:=n9_
                       have HB:=n10_
                       have HK:=n11_
                       have HO1311:=n12_
                       clear n0_ n1_ n2_ n3_ n4_ n5_ n6_ n7_ n8_ n9_ n10_ n11_ n12_
                       clear ho hb hg hat
                       refine hK.out _ _ trivial (fun hHeld=>?_)
                       clear hK K
                       refine norm_ (a':=?_) ?_ ?_
                       rotate_left
                       ·show Act.put _ (some 91) _=_
                        simp only[Act.put,s1,s2,s3,i64_w,i32_w]
                        rfl
                       exact norm_ (by simp only[putAll,Act.put,List.setIfInBounds_toArray,List.set_cons_zero,List.set_cons_succ]) (hCont (v1302,v1310,v1313) _ ⟨(Kd.Vz <| Kd.V_mono HO1279.out (fun _ hk=>⟨hk.1.2.1,⟨hk.1.2.2.1,⟨hk.2,⟨hk.1.2.2.2.1,⟨hk.1.1,hk.1.2.2.2.2⟩⟩⟩⟩⟩)),(Kd.Rz <| Kd.R_mono HO1289.out (fun _ hk=>⟨hk.2,hk.1.1⟩)),(Kd.Vz <| Kd.V_mono HO1297.out (fun _ hk=>⟨hk.1.2.1,⟨hk.1.2.2.1,⟨hk.2,⟨hk.1.2.2.2.1,⟨hk.1.1,hk.1.2.2.2.2⟩⟩⟩⟩⟩)),(Kd.Rz <| Kd.R_mono HO1300.out (fun _ hk=>⟨hk.2.2,hk.1⟩)),(Kd.Vz <| Kd.V_mono HO1308.out (fun _ hk=>⟨hk.1.2.1,⟨hk.1.2.2.1,⟨hk.2,⟨hk.1.2.2.2.1,⟨hk.1.1,hk.1.2.2.2.2⟩⟩⟩⟩⟩)),(Kd.Nz <| Kd.N_mono HO1311.out (fun _ hk=>⟨hk.2.1,⟨hk.2.2.1,⟨hk.2.2.2.1,⟨hk.1,hk.2.2.2.2⟩⟩⟩⟩)),(Kd.Nz <| Kd.N_mono HO1314.out (fun _ hk=>⟨hk.1.2.2.1,⟨hk.1.2.2.2.1,⟨hk.2,⟨hk.1.1,⟨hk.1.2.1,hk.1.2.2.2.2⟩⟩⟩⟩⟩)),(Kd.Vz <| Kd.V_mono HO1322.out (fun _ hk=>⟨hk.1.2.1,⟨hk.1.2.2.1,⟨hk.2,⟨hk.1.2.2.2.1,⟨hk.1.1,hk.1.2.2.2.2⟩⟩⟩⟩⟩)),(Kd.Rz <| Kd.R_mono HO_5.out (fun _ hk=>⟨hk.1.2,hk.2⟩)),(Kd.Nz <| Kd.N_mono HO_6.out (fun _ hk=>⟨hk.1.2.1,⟨hk.1.2.2.1,⟨hk.2,⟨hk.1.2.2.2.1,⟨hk.1.1,hk.1.2.2.2.2⟩⟩⟩⟩⟩)),iz,kz,(bi)⟩)
                     rintro⟨v1302,v1310,v1313⟩ w92 ⟨h0_,h1_,h2_,h3_,h4_,h5_,h6_,h7_,h8_,h9_,h10_,h11_,h12_⟩
                     have n0_:Sd (Kd.V (Kd.int .i64) 3 w92 w.heap.size (fun k_=>some k_≠(.slice Ao80 y1287.length co80:Value).ownBlock∧some k_≠(v1299:Value).ownBlock∧some k_≠(v1310:Value).ownBlock∧some k_≠(v1313:Value).ownBlock∧some k_≠(.slice Ao84 x6_1.length co84:Value).ownBlock∧k_≠g) (.slice Ao70 y1275.length co70) y1275):=⟨h0_⟩
                     have n1_:Sd (Kd.R (Kd.int .i64) 3 w92 w.heap.size (fun k_=>some k_≠(v1299:Value).ownBlock∧some k_≠(.slice Ao70 x5_1.length co70:Value).ownBlock) (.slice Ao80 y1287.length co80) y1287):=⟨h1_⟩
                     have n2_:Sd (Kd.V (Kd.int .i64) 3 w92 w.heap.size (fun k_=>some k_≠(.slice Ao80 y1287.length co80:Value).ownBlock∧some k_≠(v1299:Value).ownBlock∧some k_≠(v1310:Value).ownBlock∧some k_≠(v1313:Value).ownBlock∧some k_≠(.slice Ao84 x6_1.length co84:Value).ownBlock∧k_≠g) (.slice A71 y1293.length c71) y1293):=⟨h2_⟩
                     have n3_:Sd (Kd.R (Kd.int .i64) 3 w92 w.heap.size (fun k_=>some k_≠(.slice Ao80 y1287.length co80:Value).ownBlock∧some k_≠(.slice Ao70 x5_1.length co70:Value).ownBlock) v1299 y1298):=⟨h3_⟩
                     have n4_:Sd (Kd.V (Kd.slice 3 (Kd.int .i64)) 22 w92 w.heap.size (fun k_=>some k_≠(.slice Ao80 y1287.length co80:Value).ownBlock∧some k_≠(v1299:Value).ownBlock∧some k_≠(v1310:Value).ownBlock∧some k_≠(v1313:Value).ownBlock∧some k_≠(.slice Ao70 x5_1.length co70:Value).ownBlock∧k_≠g) (.slice Ao84 y1304.length co84) y1304):=⟨h4_⟩
                     have n5_:Sd (Kd.N (Kd.slice 3 (Kd.int .i64)) 22 w92 w.heap.size (fun k_=>some k_≠(.slice Ao80 y1287.length co80:Value).ownBlock∧some k_≠(v1299:Value).ownBlock∧some k_≠(v1313:Value).ownBlock∧some k_≠(.slice Ao70 x5_1.length co70:Value).ownBlock∧k_≠g) v1310 y1309):=⟨h5_⟩
                     have n6_:Sd (Kd.N (Kd.slice 3 (Kd.int .i64)) 22 w92 w.heap.size (fun k_=>some k_≠(.slice Ao80 y1287.length co80:Value).ownBlock∧some k_≠(v1299:Value).ownBlock∧some k_≠(v1310:Value).ownBlock∧some k_≠(.slice Ao70 x5_1.length co70:Value).ownBlock∧some k_≠(.slice Ao84 x6_1.length co84:Value).ownBlock∧k_≠g) v1313 y1312):=⟨h6_⟩
                     have n7_:Sd (Kd.V (Kd.slice 3 (Kd.int .i64)) 22 w92 w.heap.size (fun k_=>some k_≠(.slice Ao80 y1287.length co80:Value).ownBlock∧some k_≠(v1299:Value).ownBlock∧some k_≠(v1310:Value).ownBlock∧some k_≠(v1313:Value).ownBlock∧some k_≠(.slice Ao70 x5_1.length co70:Value).ownBlock∧k_≠g) (.slice A85 y1318.length c85) y1318):=⟨h7_⟩
                     have n8_:Sd (Kd.R (Kd.int .i64) 3 w92 w.heap.size (fun k_=>some k_≠(.slice Ao80 y1287.length co80:Value).ownBlock∧some k_≠(v1299:Value).ownBlock) (.slice Ao70 x5_1.length co70) x5_1):=⟨h8_⟩
                     have n9_:Sd (Kd.N (Kd.slice 3 (Kd.int .i64)) 22 w92 w.heap.size (fun k_=>some k_≠(.slice Ao80 y1287.length co80:Value).ownBlock∧some k_≠(v1299:Value).ownBlock∧some k_≠(v1310:Value).ownBlock∧some k_≠(v1313:Value).ownBlock∧some k_≠(.slice Ao70 x5_1.length co70:Value).ownBlock∧k_≠g) (.slice Ao84 x6_1.length co84) x6_1):=⟨h9_⟩
                     have n10_:Sd (IsS73 w0 w92 g s0_0 t1286):=⟨h10_⟩
                     have n11_:Sd (KeepBut w w92 g none):=⟨h11_⟩
                     have n12_:Sd (Below w0.heap.size w0 w92):=⟨h12_⟩
                     clear HO_5
                     clear HO_6
                     clear HO_8
                     clear HO1279
                     clear HO1297
                     clear HO1289
                     clear HO1300
                     clear HI0
                     clear HK
                     clear HB
                     clear h0_ h1_ h2_ h3_ h4_ h5_ h6_ h7_ h8_ h9_ h10_ h11_ h12_
                     have HO1279:=n0_
                     have HO1289:=n1_
                     have HO1297:=n2_
                     have HO1300:=n3_
                     have HO1308:=n4_
                     have HO1311:=n5_
                     have HO1314:=n6_
                     have HO1322:=n7_
                     have HO_5:=n8_
                     have HO_6:=n9_
                     have HI0:=n10_
                     have HK:=n11_
                     have HB:=n12_
                     clear n0_ n1_ n2_ n3_ n4_ n5_ n6_ n7_ n8_ n9_ n10_ n11_ n12_
                     have hHeld:=trivial
                     obtain⟨Ao94,co94,eo94⟩:=Kd.N_slice HO1314.out
                     (first|subst eo94|(injection eo94 with f1_ f2_ f3_;have f4_:=f1_.symm;have f5_:=f3_.symm;clear f1_ f2_ f3_;subst f4_;subst f5_))
                     refine norm_ (a':=?_) ?_ ?_
                     rotate_left
                     ·simp only[putAll,Act.put,List.setIfInBounds_toArray,List.set_cons_zero,List.set_cons_succ]
                      rfl
                     refine one_ (i:=7) (N:=some 94) #[T,T,T,T,T,T,T,T,T,T,T,F,F] rfl rfl (one_of HT_.out (by kernel_rfl)) (by decide) (fun K hK=>?_)
                     refine Kd.N_append_rows_step (Kd.slice 3 (Kd.int .i64)) w.heap.size (by rfl) (.tmp 91) (.tmp 93) 52 22 (.slice none 0 0) 24 rfl Try.underlying52 info22 rfl (by decide) (by omega) v1310 y1309 y1312 _ _ _ (fun k_=>some k_≠(.slice Ao70 x5_1.length co70:Value).ownBlock∧some k_≠(.slice Ao80 y1287.length co80:Value).ownBlock∧some k_≠(v1299:Value).ownBlock∧k_≠g) (fun k_=>((fun k_=>some k_≠(.slice Ao70 x5_1.length co70:Value).ownBlock∧some k_≠(.slice Ao80 y1287.length co80:Value).ownBlock∧some k_≠(v1299:Value).ownBlock∧k_≠g)) k_∧some k_≠(v1310:Value).ownBlock) rfl rfl ?aO ?aR (fun _ hk=>hk) ?aF (Below.refl _ _) ?aS ?aL ?_
                     (case aR=>exact(by skip;exact Kd.N_F (Kd.N_mono (ok':=(fun k_=>((fun k_=>some k_≠(.slice Ao70 x5_1.length co70:Value).ownBlock∧some k_≠(.slice Ao80 y1287.length co80:Value).ownBlock∧some k_≠(v1299:Value).ownBlock∧k_≠g)) k_∧some k_≠(v1310:Value).ownBlock)) (HO1314.out) (fun k_ hk=>⟨⟨hk.2.2.2.1,⟨hk.1,⟨hk.2.1,hk.2.2.2.2.2⟩⟩⟩,hk.2.2.1⟩))))
                     (case aF=>exact(fun k_ hk=>⟨Kd.fresh' (Kd.R_lt (Kd.Rz HO_5.out)) k_ hk,Kd.fresh' (Kd.R_lt (Kd.Rz HO1289.out)) k_ hk,Kd.fresh' (Kd.R_lt (Kd.Rz HO1300.out)) k_ hk,IsS73.fresh iz k_ hk⟩))
                     (case aO=>exact(Kd.Nz <| Kd.N_mono HO1311.out (fun _ hk=>⟨hk.2.2.2.1,⟨hk.1,⟨hk.2.1,hk.2.2.2.2⟩⟩⟩)))
                     (case aS=>exact(keep_size (w:=w) (g:=g) (row:=none) kz))
                     (case aL=>have:=LMc64.out;omega)
                     intro v1316 w93 ho hb hg hat
                     rw[← Ny1315.out] at ho
                     have n0_:=Sd.mk (Kd.R_over' (Kd.Rz HO_5.out) (Kd.N_typed (Kd.Nz HO1311.out)) (by decide) hg)
                     have n1_:=Sd.mk (Kd.N_afterv (ok:=(fun k_=>some k_≠(.slice Ao70 x5_1.length co70:Value).ownBlock∧some k_≠(.slice Ao80 y1287.length co80:Value).ownBlock∧some k_≠(v1299:Value).ownBlock∧some k_≠(.slice Ao94 y1312.length co94:Value).ownBlock∧k_≠g)) (Kd.Nz <| Kd.N_mono HO_6.out (fun _ hk=>⟨⟨hk.2.2.2.2.1,⟨hk.1,⟨hk.2.1,⟨hk.2.2.2.1,hk.2.2.2.2.2⟩⟩⟩⟩,hk.2.2.1⟩)) hg hat)
                     have n2_:=Sd.mk (IsS73.grown iz hg (IsS73.own_neN HI0.out HO1311.out (by decide)))
                     have n3_:=Sd.mk (Kd.V_afterv (ok:=(fun k_=>some k_≠(.slice Ao84 x6_1.length co84:Value).ownBlock∧some k_≠(.slice Ao80 y1287.length co80:Value).ownBlock∧some k_≠(v1299:Value).ownBlock∧some k_≠(.slice Ao94 y1312.length co94:Value).ownBlock∧k_≠g)) (Kd.Vz <| Kd.V_mono HO1279.out (fun _ hk=>⟨⟨hk.2.2.2.2.1,⟨hk.1,⟨hk.2.1,⟨hk.2.2.2.1,hk.2.2.2.2.2⟩⟩⟩⟩,hk.2.2.1⟩)) hg hat)
                     have n4_:=Sd.mk (Kd.V_afterv (ok:=(fun k_=>some k_≠(.slice Ao84 x6_1.length co84:Value).ownBlock∧some k_≠(.slice Ao80 y1287.length co80:Value).ownBlock∧some k_≠(v1299:Value).ownBlock∧some k_≠(.slice Ao94 y1312.length co94:Value).ownBlock∧k_≠g)) (Kd.Vz <| Kd.V_mono HO1297.out (fun _ hk=>⟨⟨hk.2.2.2.2.1,⟨hk.1,⟨hk.2.1,⟨hk.2.2.2.1,hk.2.2.2.2.2⟩⟩⟩⟩,hk.2.2.1⟩)) hg hat)
                     have n5_:=Sd.mk (Kd.R_over' (Kd.Rz HO1289.out) (Kd.N_typed (Kd.Nz HO1311.out)) (by decide) hg)
                     have n6_:=Sd.mk (Kd.R_over' (Kd.Rz HO1300.out) (Kd.N_typed (Kd.Nz HO1311.out)) (by decide) hg)
                     have n7_:=Sd.mk (Kd.V_afterv (ok:=(fun k_=>some k_≠(.slice Ao70 x5_1.length co70:Value).ownBlock∧some k_≠(.slice Ao80 y1287.length co80:Value).ownBlock∧some k_≠(v1299:Value).ownBlock∧some k_≠(.slice Ao94 y1312.length co94:Value).ownBlock∧k_≠g)) (Kd.Vz <| Kd.V_mono HO1308.out (fun _ hk=>⟨⟨hk.2.2.2.2.1,⟨hk.1,⟨hk.2.1,⟨hk.2.2.2.1,hk.2.2.2.2.2⟩⟩⟩⟩,hk.2.2.1⟩)) hg hat)
                     have n8_:=Sd.mk (Kd.V_afterv (ok:=(fun k_=>some k_≠(.slice Ao70 x5_1.length co70:Value).ownBlock∧some k_≠(.slice Ao80 y1287.length co80:Value).ownBlock∧some k_≠(v1299:Value).ownBlock∧some k_≠(.slice Ao94 y1312.length co94:Value).ownBlock∧k_≠g)) (Kd.Vz <| Kd.V_mono HO1322.out (fun _ hk=>⟨⟨hk.2.2.2.2.1,⟨hk.1,⟨hk.2.1,⟨hk.2.2.2.1,hk.2.2.2.2.2⟩⟩⟩⟩,hk.2.2.1⟩)) hg hat)
                     have n9_:=Sd.mk (Kd.N_afterv (ok:=(fun k_=>some k_≠(.slice Ao70 x5_1.length co70:Value).ownBlock∧some k_≠(.slice Ao84 x6_1.length co84:Value).ownBlock∧some k_≠(.slice Ao80 y1287.length co80:Value).ownBlock∧some k_≠(v1299:Value).ownBlock∧k_≠g)) (Kd.Nz <| Kd.N_mono HO1314.out (fun _ hk=>⟨⟨hk.2.2.2.1,⟨hk.2.2.2.2.1,⟨hk.1,⟨hk.2.1,hk.2.2.2.2.2⟩⟩⟩⟩,hk.2.2.1⟩)) hg hat)
                     have n10_:=Sd.mk (below_weaken (bi) HL.out hb)
                     have n11_:=Sd.mk (KeepBut.trans kz (KeepBut.of_grown hg g) (Kd.N_base2 HO1311.out))
                     have n12_:=Sd.mk (ho)
                     clear HO_5
                     clear HO_6
                     clear HI0
                     clear HO1279
                     clear HO1297
                     clear HO1289
                     clear HO1300
                     clear HO1308
                     clear HO1322
                     clear HO1314
                     clear HB
                     clear HK
                     clear HO1311
                     have HO_5:=n0_
                     have HO_6:=n1_
                     have HI0:=n2_
                     have HO1279:=n3_
                     have HO1297:=n4_
                     have HO1289:=n5_
                     have HO1300:=n6_
                     have HO1308:=n7_
                     have HO1322:=n8_
                     have HO1314:=n9_
                     have HB:=n10_
                     have HK:=n11_
                     have HO1317:=n12_
                     clear n0_ n1_ n2_ n3_ n4_ n5_ n6_ n7_ n8_ n9_ n10_ n11_ n12_
                     clear ho hb hg hat
                     refine hK.out _ _ trivial (fun hHeld=>?_)
                     clear hK K
                     refine norm_ (a':=?_) ?_ ?_
                     rotate_left
                     ·show Act.put _ (some 94) _=_
                      simp only[Act.put,s1,s2,s3,i64_w,i32_w]
                      rfl
                     refine one_ (i:=11) (N:=some 98) #[T,T,T,T,T,T,T,T,T,T,T,T,F] rfl rfl (one_of HT_.out (by kernel_rfl)) (by decide) (fun K hK=>?_)
                     refine Kd.N_append_rows_step (Kd.slice 3 (Kd.int .i64)) w.heap.size (by rfl) (.tmp 94) (.tmp 97) 52 22 (.slice none 0 0) 24 rfl Try.underlying52 info22 rfl (by decide) (by omega) v1316 y1315 y1318 _ _ _ (fun k_=>some k_≠(.slice Ao70 x5_1.length co70:Value).ownBlock∧some k_≠(.slice Ao80 y1287.length co80:Value).ownBlock∧some k_≠(v1299:Value).ownBlock∧k_≠g) (fun k_=>((fun k_=>some k_≠(.slice Ao70 x5_1.length co70:Value).ownBlock∧some k_≠(.slice Ao80 y1287.length co80:Value).ownBlock∧some k_≠(v1299:Value).ownBlock∧k_≠g)) k_∧some k_≠(v1316:Value).ownBlock) rfl rfl ?aO ?aR (fun _ hk=>hk) ?aF (Below.refl _ _) ?aS ?aL ?_
                     (case aR=>exact(by skip;exact Kd.V_F (Kd.V_mono (ok':=(fun k_=>((fun k_=>some k_≠(.slice Ao70 x5_1.length co70:Value).ownBlock∧some k_≠(.slice Ao80 y1287.length co80:Value).ownBlock∧some k_≠(v1299:Value).ownBlock∧k_≠g)) k_∧some k_≠(v1316:Value).ownBlock)) (HO1322.out) (fun k_ hk=>⟨⟨hk.1.1,⟨hk.1.2.1,⟨hk.1.2.2.1,hk.1.2.2.2.2⟩⟩⟩,hk.2⟩))))
                     (case aF=>exact(fun k_ hk=>⟨Kd.fresh' (Kd.R_lt (Kd.Rz HO_5.out)) k_ hk,Kd.fresh' (Kd.R_lt (Kd.Rz HO1289.out)) k_ hk,Kd.fresh' (Kd.R_lt (Kd.Rz HO1300.out)) k_ hk,IsS73.fresh iz k_ hk⟩))
                     (case aO=>exact(Kd.Nz HO1317.out))
                     (case aS=>exact(keep_size (w:=w) (g:=g) (row:=none) kz))
                     (case aL=>have:=LMc67.out;omega)
                     intro v1324 w95 ho hb hg hat
                     rw[← Ny1323.out] at ho
                     have n0_:=Sd.mk (Kd.R_over' (Kd.Rz HO_5.out) (Kd.N_typed (Kd.Nz HO1317.out)) (by decide) hg)
                     have n1_:=Sd.mk (Kd.N_afterv (ok:=(fun k_=>some k_≠(.slice Ao70 x5_1.length co70:Value).ownBlock∧some k_≠(.slice Ao80 y1287.length co80:Value).ownBlock∧some k_≠(v1299:Value).ownBlock∧some k_≠(.slice Ao94 y1312.length co94:Value).ownBlock∧k_≠g)) (Kd.Nz HO_6.out) hg hat)
                     have n2_:=Sd.mk (IsS73.grown iz hg (IsS73.own_neN HI0.out HO1317.out (by decide)))
                     have n3_:=Sd.mk (Kd.V_afterv (ok:=(fun k_=>some k_≠(.slice Ao84 x6_1.length co84:Value).ownBlock∧some k_≠(.slice Ao80 y1287.length co80:Value).ownBlock∧some k_≠(v1299:Value).ownBlock∧some k_≠(.slice Ao94 y1312.length co94:Value).ownBlock∧k_≠g)) (Kd.Vz HO1279.out) hg hat)
                     have n4_:=Sd.mk (Kd.V_afterv (ok:=(fun k_=>some k_≠(.slice Ao84 x6_1.length co84:Value).ownBlock∧some k_≠(.slice Ao80 y1287.length co80:Value).ownBlock∧some k_≠(v1299:Value).ownBlock∧some k_≠(.slice Ao94 y1312.length co94:Value).ownBlock∧k_≠g)) (Kd.Vz HO1297.out) hg hat)
                     have n5_:=Sd.mk (Kd.R_over' (Kd.Rz HO1289.out) (Kd.N_typed (Kd.Nz HO1317.out)) (by decide) hg)
                     have n6_:=Sd.mk (Kd.R_over' (Kd.Rz HO1300.out) (Kd.N_typed (Kd.Nz HO1317.out)) (by decide) hg)
                     have n7_:=Sd.mk (Kd.V_afterv (ok:=(fun k_=>some k_≠(.slice Ao70 x5_1.length co70:Value).ownBlock∧some k_≠(.slice Ao80 y1287.length co80:Value).ownBlock∧some k_≠(v1299:Value).ownBlock∧some k_≠(.slice Ao94 y1312.length co94:Value).ownBlock∧k_≠g)) (Kd.Vz HO1308.out) hg hat)
                     have n8_:=Sd.mk (Kd.V_afterv (ok:=(fun k_=>some k_≠(.slice Ao70 x5_1.length co70:Value).ownBlock∧some k_≠(.slice Ao80 y1287.length co80:Value).ownBlock∧some k_≠(v1299:Value).ownBlock∧some k_≠(.slice Ao94 y1312.length co94:Value).ownBlock∧k_≠g)) (Kd.Vz HO1322.out) hg hat)
                     have n9_:=Sd.mk (Kd.N_afterv (ok:=(fun k_=>some k_≠(.slice Ao70 x5_1.length co70:Value).ownBlock∧some k_≠(.slice Ao84 x6_1.length co84:Value).ownBlock∧some k_≠(.slice Ao80 y1287.length co80:Value).ownBlock∧some k_≠(v1299:Value).ownBlock∧k_≠g)) (Kd.Nz HO1314.out) hg hat)
                     have n10_:=Sd.mk (below_weaken (bi) HL.out hb)
                     have n11_:=Sd.mk (KeepBut.trans kz (KeepBut.of_grown hg g) (Kd.N_base2 HO1317.out))
                     have n12_:=Sd.mk (ho)
                     clear HO_5
                     clear HO_6
                     clear HI0
                     clear HO1279
                     clear HO1297
                     clear HO1289
                     clear HO1300
                     clear HO1308
                     clear HO1322
                     clear HO1314
                     clear HB
                     clear HK
                     clear HO1317
                     have HO_5:=n0_
                     have HO_6:=n1_
                     have HI0:=n2_
                     have HO1279:=n3_
                     have HO1297:=n4_
                     have HO1289:=n5_
                     have HO1300:=n6_
                     have HO1308:=n7_
                     have HO1322:=n8_
                     have HO1314:=n9_
                     have HB:=n10_
                     have HK:=n11_
                     have HO1325:=n12_
                     clear n0_ n1_ n2_ n3_ n4_ n5_ n6_ n7_ n8_ n9_ n10_ n11_ n12_
                     clear ho hb hg hat
                     refine hK.out _ _ trivial (fun hHeld=>?_)
                     clear hK K
                     refine norm_ (a':=?_) ?_ ?_
                     rotate_left
                     ·show Act.put _ (some 98) _=_
                      simp only[Act.put,s1,s2,s3,i64_w,i32_w]
                      rfl
                     refine pq 12 (some 6) HT_.out rfl rfl ?_
                     refine done_ (done_of HT_.out (by kernel_rfl)) ?_
                     try go_wp2
                     go_roundg kj36
                     case measure=>have:=HK1.out;have:=HJ15.out;have:=HJ24.out;have:=HJ36.out;omega
                     case rel=>exact⟨(y1298),(y1323),(wrap64 (x7_1-1)),(t1286),(by first|rfl|(simp;done)|(simp[*];done)),H',⟨by have:=HK1.out;have:=HJ15.out;have:=HJ24.out;have:=HJ36.out;omega⟩,⟨Kd.Rz <| Kd.R_mono HO1300.out (fun _ hk=>trivial)⟩,⟨Kd.Nz <| Kd.N_mono HO1325.out (fun _ hk=>⟨hk.2.2.1,hk.2.2.2⟩)⟩,⟨iz⟩,⟨by repeat (first|(with_reducible first|exact HK.out|apply KeepBut.set_|apply keep_drewN|apply keep_drew|apply keep_alloc)|exact HK.out)⟩,⟨bi⟩⟩
                    ·rw[if_neg c67] at H
                     exact absurd H (by simp)
                   ·rw[if_neg c64] at H
                    exact absurd H (by simp)
                  ·rw[if_neg c63] at H
                   exact absurd H (by simp)
                 ·rw[if_neg c62] at H
                  exact absurd H (by simp)
                ·rw[if_neg c60] at H
                 exact absurd H (by simp)
               ·rw[if_neg c57] at H
                exact absurd H (by simp)
              ·rw[if_neg c54] at H
               exact absurd H (by simp)
             ·rw[if_neg c53] at H
              exact absurd H (by simp)
            ·rw[if_neg c52] at H
             exact absurd H (by simp)
    ·rw[if_neg c14] at H
     have c14b0:decide (0<x7_1)=false:=decide_eq_false c14
     clear c14
     replace H:=Option.bind_eq_some_iff.mp H
     obtain⟨t1252,A960,H⟩:=H
     replace H:(some (t1252,x1001_1))=some (r1,r2):=H
     have A96:=Sd.mk A960
     clear A960
     simp only[Option.some.injEq,Prod.mk.injEq] at H
     obtain⟨rfl,rfl⟩:=H
     obtain⟨Ao97,co97,eo97⟩:=Kd.R_slice HO_5.out
     subst eo97
     obtain⟨Ao98,co98,eo98⟩:=Kd.N_slice HO_6.out
     subst eo98
     go_wp2_with (first|((with_reducible refine gate_callee (f:=54) rfl ?_);refine goesL_ (some 101) rfl rfl Try.func54 (by kernel_rfl) rfl #[.slice Ao97 x5_1.length co97,.slice Ao98 x6_1.length co98] rfl az ?_;(with_reducible refine(spec_l1Make.calls k1 _ _ x5_1 _ _ x6_1 t1252 _ ?side1 ?side2 ?side3 ?side4 A96.out).mono ?_);(case side1=>exact Kd.Cz (Kd.R_reads' HO_5.out).2.2);(case side2=>exact(Kd.R_reads' HO_5.out).2.1);(case side3=>exact Kd.Cz (Kd.N_reads' HO_6.out).2.2);(case side4=>exact(Kd.N_reads' HO_6.out).2.1);rintro e w99 ⟨v1253,rfl,ho0,hb⟩;refine⟨_,rfl,?_⟩;replace HO_6:=Sd.mk (Kd.N_elder' (Kd.Nz HO_6.out) (Kd.R_base ho0) hb);have HO1254:=Sd.mk (Kd.R_lower (Kd.R_new' ho0 (Kd.R_lt (Kd.Rz HO_5.out))) (keep_size (w:=w) (g:=g) (row:=none) kz));replace HO_5:=Sd.mk (Kd.R_elder' (Kd.Rz HO_5.out) (Kd.R_base ho0) hb);replace HK:=Sd.mk (KeepBut.trans kz (KeepBut.of_below hb g none) (.inl rfl));replace HB:=Sd.mk (below_step (bi) hb);replace HI0:=Sd.mk (IsS73.below iz hb);(try clear hb);(try clear hb2);(try clear hk);(try clear hi);(try clear ho0)))
     go_ret
     exact⟨_,by first|rfl|(simp[errW_none,errW_some]<;>rfl)|(simp[*,errW_none,errW_some]<;>rfl),Kd.Rz <| Kd.R_mono HO1254.out (fun _ hk=>trivial),iz,bi,by repeat (first|(with_reducible first|exact HK.out|apply KeepBut.set_|apply keep_drewN|apply keep_drew|apply keep_alloc)|exact HK.out)⟩
end Go.Proofs.Ytfblcanijhnhmaa.P