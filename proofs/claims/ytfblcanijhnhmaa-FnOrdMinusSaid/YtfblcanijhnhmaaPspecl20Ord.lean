/- One Go function comes to what its Lean function tells. -/
import Derived.Test.YtfblcanijhnhmaaP0
import Derived.Test.YtfblcanijhnhmaaPspecl20Raw
import Derived.Test.YtfblcanijhnhmaaPspecl20Rdodd
import Derived.Test.YtfblcanijhnhmaaPspecl20Rdpick
namespace Go.Proofs.Ytfblcanijhnhmaa.P
open Go.RowKit YtfblcanijhnhmaaW.PrintWords YtfblcanijhnhmaaW.PrintLast YtfblcanijhnhmaaW.PrintMore
set_option linter.unusedVariables false
set_option linter.unusedSimpArgs false
/-! ### spec_l20Ord: function 67 -/
mutual
def spec_l20Ord.j1:Nat→Int→List Int→List Int→Int→Option (List Int × Int)
 | 0,_,_,_,_=>none
 | k+1,x1,x5,x1000,x1001=>(spec_l20Rd_odd.f k x1000 x1001 x1).bind fun bt1336=>(if bt1336.1=true then((spec_l20Rd_pick.f k x1000 bt1336.2 5).bind fun bt1338=>(if bt1338.1=0 then(some ((([]:List Int)),bt1338.2)) else(if bt1338.1=1 then((some (([]:List Int):List Int)).bind fun y1343=>(if y1343.length+x5.length<17592186044416 then((some (y1343++x5:List Int)).bind fun y1346=>(if y1346.length<17592186044416 then(some ((y1346++[0]),bt1338.2)) else(none))) else(none))) else(if bt1338.1=2 then(some ((([2,1,0,1,1,1,0]:List Int)),bt1338.2)) else(if bt1338.1=3 then(some ((([1,0,0]:List Int)),bt1338.2)) else(some ((([1,10000,0]:List Int)),bt1338.2))))))) else(some (x5,bt1336.2)))
def spec_l20Ord.l0:Nat→Int→List Int→Int→List Int→Int→Option (List Int × Int)
 | 0,_,_,_,_,_=>none
 | k+1,x1,x5,x6,x1000,x1001=>if x6<4 then(if(x5.length:Int)>24 then((spec_l20Raw.f k x1000 x1001 2).bind fun bt1332=>(spec_l20Ord.l0 k x1 bt1332.1 (wrap64 (x6+1)) x1000 bt1332.2)) else(spec_l20Ord.j1 k x1 x5 x1000 x1001)) else(spec_l20Ord.j1 k x1 x5 x1000 x1001)
end
def spec_l20Ord.f (k:Nat)(s0_0:List Int)(s0_1:Int)(a1:Int):Option (List Int × Int):=(spec_l20Raw.f k s0_0 s0_1 3).bind fun bt1328=>(spec_l20Ord.l0 k a1 bt1328.1 0 s0_0 bt1328.2)
theorem spec_l20Ord.mono_l:∀ k,(∀ y0 y1 y2 y3,LeO (spec_l20Ord.j1 k y0 y1 y2 y3) (spec_l20Ord.j1 (k+1) y0 y1 y2 y3))∧(∀ y0 y1 y2 y3 y4,LeO (spec_l20Ord.l0 k y0 y1 y2 y3 y4) (spec_l20Ord.l0 (k+1) y0 y1 y2 y3 y4))
 | 0=>⟨fun _ _ _ _ r h=>by simp[spec_l20Ord.j1] at h,fun _ _ _ _ _ r h=>by simp[spec_l20Ord.l0] at h⟩
 | k+1=>by
  obtain⟨ih0,ih1⟩:=spec_l20Ord.mono_l k
  refine⟨?_,?_⟩
  ·intro y0 y1 y2 y3
   unfold spec_l20Ord.j1
   repeat' first|(with_reducible first|exact ih0 _ _ _ _|exact spec_l20Rd_odd.mono _ _ _ _|exact spec_l20Rd_pick.mono _ _ _ _|exact LeO.refl _|exact LeO.none _|refine LeO.ite ?_ ?_|refine LeO.bind ?_ (fun _=>?_))|exact ih0 _ _ _ _|exact spec_l20Rd_odd.mono _ _ _ _|exact spec_l20Rd_pick.mono _ _ _ _|exact LeO.none _|refine LeO.ite ?_ ?_|refine LeO.bind ?_ (fun _=>?_)
  ·intro y0 y1 y2 y3 y4
   unfold spec_l20Ord.l0
   repeat' first|(with_reducible first|exact ih0 _ _ _ _|exact ih1 _ _ _ _ _|exact spec_l20Raw.mono _ _ _ _|exact LeO.refl _|exact LeO.none _|refine LeO.ite ?_ ?_|refine LeO.bind ?_ (fun _=>?_))|exact ih0 _ _ _ _|exact ih1 _ _ _ _ _|exact spec_l20Raw.mono _ _ _ _|exact LeO.none _|refine LeO.ite ?_ ?_|refine LeO.bind ?_ (fun _=>?_)
theorem spec_l20Ord.mono:∀ a0 a1 a2 k,LeO (spec_l20Ord.f k a0 a1 a2) (spec_l20Ord.f (k+1) a0 a1 a2):=by
 intro a0 a1 a2 k
 obtain⟨ih0,ih1⟩:=spec_l20Ord.mono_l k
 unfold spec_l20Ord.f
 repeat' first|(with_reducible first|exact ih0 _ _ _ _|exact ih1 _ _ _ _ _|exact spec_l20Raw.mono _ _ _ _|exact LeO.refl _|exact LeO.none _|refine LeO.ite ?_ ?_|refine LeO.bind ?_ (fun _=>?_))|exact ih0 _ _ _ _|exact ih1 _ _ _ _ _|exact spec_l20Raw.mono _ _ _ _|exact LeO.none _|refine LeO.ite ?_ ?_|refine LeO.bind ?_ (fun _=>?_)
set_option maxHeartbeats 8000000 in
set_option maxRecDepth 100000 in
theorem spec_l20Ord.calls (k:Nat)(g:Nat)(s0_0:List Int)(s0_1:Int)(a1:Int)(r1:List Int)(r2:Int)(w0 w:World)(hI:IsS73 w0 w g s0_0 s0_1)(hB:Below w0.heap.size w0 w)(h:spec_l20Ord.f k s0_0 s0_1 a1=some (r1,r2)) :
  Calls Try.prog 67 #[.pointer (some ⟨g,0,none⟩),.int .i64 a1] w fun e w'=>∃ v0_:Value,e=.returned (v0_)∧Kd.R (Kd.int .i64) 3 w' w.heap.size (fun _=>True) v0_ r1∧IsS73 w0 w' g s0_0 r2∧Below w0.heap.size w0 w'∧KeepBut w w' g none:=by
 have HI0:=Sd.mk hI
 have HK:=Sd.mk (KeepBut.refl w g none)
 have HL:=Sd.mk hB.size
 clear hI
 have HW0:=Sd.mk hB.size
 have HB:=Sd.mk hB
 clear hB
 have H:((spec_l20Raw.f k s0_0 s0_1 3).bind fun bt1328=>(spec_l20Ord.l0 k a1 bt1328.1 0 s0_0 bt1328.2))=some (r1,r2):=h
 clear h
 replace H:=Option.bind_eq_some_iff.mp H
 obtain⟨⟨t1328,t1331⟩,A30,H⟩:=H
 replace H:(spec_l20Ord.l0 k a1 t1328 0 s0_0 t1331)=some (r1,r2):=H
 have A3:=Sd.mk A30
 clear A30
 have HC4:=Sd.mk H
 clear H
 go_enter Try.func67,Try.ntmps67
 go_upto_block 0 with (first|((with_reducible refine gate_callee (f:=75) rfl ?_);refine goesL_ (some 8) rfl rfl Try.func75 (by kernel_rfl) rfl #[.pointer (some ⟨g,0,none⟩),.int .i64 3] rfl az ?_;(with_reducible refine(spec_l20Raw.calls k g s0_0 s0_1 3 t1328 t1331 w0 _ ?side1 ?side2 A3.out).mono ?_);(case side1=>exact iz);(case side2=>exact bi);rintro e w5 ⟨v1329,rfl,ho0,hi,hb,hk⟩;refine⟨_,rfl,?_⟩;have HO1330:=Sd.mk (Kd.R_lower ho0 (keep_size (w:=w) (g:=g) (row:=none) kz));replace HK:=Sd.mk (KeepBut.trans kz hk (.inl rfl));replace HB:=Sd.mk (hb);replace HI0:=Sd.mk (hi);(try clear hb);(try clear hb2);(try clear hk);(try clear hi);(try clear ho0)))
 (try simp only[Act.put,List.setIfInBounds_toArray,List.set_cons_zero,List.set_cons_succ])
 go_cut [5] (fun v5 wc=>∃ (kq:Nat) (x5_3:List Int) (x1001_3:Int),Sd (spec_l20Ord.j1 kq a1 x5_3 s0_0 x1001_3=some (r1,r2))∧Sd (kq≤k)∧Sd (Kd.R (Kd.int .i64) 3 wc w.heap.size (fun _=>True) v5 x5_3)∧Sd (IsS73 w0 wc g s0_0 x1001_3)∧Sd (KeepBut w wc g none)∧Sd (Below w0.heap.size w0 wc))
 case first =>
  have H:=HC4.out
  clear HC4
  have H':=Sd.mk H
  clear H
  go_wp2
  go_loopg [5,6] k (fun kq v5 v6 w'=>∃ (x5_1:List Int) (x6_1:Int) (x1001_1:Int),v6=.int .i64 x6_1∧Sd (spec_l20Ord.l0 kq a1 x5_1 x6_1 s0_0 x1001_1=some (r1,r2))∧Sd (kq≤k)∧Sd (Kd.R (Kd.int .i64) 3 w' w.heap.size (fun _=>True) v5 x5_1)∧Sd (IsS73 w0 w' g s0_0 x1001_1)∧Sd (KeepBut w w' g none)∧Sd (Below w0.heap.size w0 w'))
  case atStart=>exact⟨(t1328),(0),(t1331),(by first|rfl|(simp;done)|(simp[*];done)),H',⟨Nat.le_refl _⟩,⟨by(with_reducible repeat (first|apply Kd.R_alloc|apply Kd.R_drewN|apply Kd.R_drew));exact HO1330.out⟩,⟨iz⟩,⟨by repeat (first|(with_reducible first|exact HK.out|apply KeepBut.set_|apply keep_drewN|apply keep_drew|apply keep_alloc)|exact HK.out)⟩,⟨bi⟩⟩
  case round =>
   clear H'
   try clear p2
   obtain⟨x5_1,x6_1,x1001_1,rfl,HA,HK1,HO_5,HI0,HK,HB⟩:=hrel
   cases gk with
   | zero=>exact absurd HA.out (by simp[spec_l20Ord.l0])
   | succ k1 =>
    have H:=HA.out
    clear HA
    simp only[spec_l20Ord.l0] at H
    by_cases c6:x6_1<4
    ·rw[if_pos c6] at H
     have c6b0:decide (x6_1<4)=true:=decide_eq_true c6
     clear c6
     (first|rw[c6b0]|(simp only[i64_w,i32_w];rw[c6b0])|skip)
     by_cases c7:(x5_1.length:Int)>24
     ·rw[if_pos c7] at H
      have c7b0:decide (24<(x5_1.length:Int))=true:=decide_eq_true c7
      have c7b1:decide (24<x5_1.length)=true:=decide_eq_true (by omega)
      clear c7
      replace H:=Option.bind_eq_some_iff.mp H
      obtain⟨⟨t1332,t1335⟩,A80,H⟩:=H
      replace H:(spec_l20Ord.l0 k1 a1 t1332 (wrap64 (x6_1+1)) s0_0 t1335)=some (r1,r2):=H
      have A8:=Sd.mk A80
      clear A80
      have H':=Sd.mk H
      clear H
      obtain⟨Ao9,co9,eo9⟩:=Kd.R_slice HO_5.out
      subst eo9
      go_wp2_with (first|((with_reducible refine gate_callee (f:=75) rfl ?_);refine goesL_ (some 19) rfl rfl Try.func75 (by kernel_rfl) rfl #[.pointer (some ⟨g,0,none⟩),.int .i64 2] rfl az ?_;(with_reducible refine(spec_l20Raw.calls k1 g s0_0 x1001_1 2 t1332 t1335 w0 _ ?side1 ?side2 A8.out).mono ?_);(case side1=>exact iz);(case side2=>exact bi);rintro e w10 ⟨v1333,rfl,ho0,hi,hb,hk⟩;refine⟨_,rfl,?_⟩;have HO1334:=Sd.mk (Kd.R_lower (Kd.R_new' ho0 (Kd.R_lt (Kd.Rz HO_5.out))) (keep_size (w:=w) (g:=g) (row:=none) kz));replace HO_5:=Sd.mk (Kd.R_mono (Kd.R_told (Kd.R_oldK (IsS73.apart (show IsS73 w0 _ g s0_0 x1001_1 from iz) (Kd.Rz HO_5.out) (by decide)) hk) (Kd.R_base ho0)) (fun _ h_=>h_.1));replace HK:=Sd.mk (KeepBut.trans kz hk (.inl rfl));replace HB:=Sd.mk (hb);replace HI0:=Sd.mk (hi);(try clear hb);(try clear hb2);(try clear hk);(try clear hi);(try clear ho0)))
      go_roundg k1
      case measure=>have:=HK1.out;omega
      case rel=>exact⟨(t1332),(wrap64 (x6_1+1)),(t1335),(by first|rfl|(simp;done)|(simp[*];done)),H',⟨by have:=HK1.out;omega⟩,⟨Kd.Rz <| Kd.R_mono HO1334.out (fun _ hk=>trivial)⟩,⟨iz⟩,⟨by repeat (first|(with_reducible first|exact HK.out|apply KeepBut.set_|apply keep_drewN|apply keep_drew|apply keep_alloc)|exact HK.out)⟩,⟨bi⟩⟩
     ·rw[if_neg c7] at H
      have c7b0:decide (24<(x5_1.length:Int))=false:=decide_eq_false c7
      have c7b1:decide (24<x5_1.length)=false:=decide_eq_false (by omega)
      clear c7
      have H':=Sd.mk H
      clear H
      obtain⟨Ao11,co11,eo11⟩:=Kd.R_slice HO_5.out
      subst eo11
      go_wp2
      go_meet
      case rel=>exact⟨_,(x5_1),(x1001_1),H',⟨by have:=HK1.out;first|omega|exact Nat.le_refl _⟩,⟨by(with_reducible repeat (first|apply Kd.R_alloc|apply Kd.R_drewN|apply Kd.R_drew));exact HO_5.out⟩,⟨iz⟩,⟨by repeat (first|(with_reducible first|exact HK.out|apply KeepBut.set_|apply keep_drewN|apply keep_drew|apply keep_alloc)|exact HK.out)⟩,⟨bi⟩⟩
    ·rw[if_neg c6] at H
     have c6b0:decide (x6_1<4)=false:=decide_eq_false c6
     clear c6
     (first|rw[c6b0]|(simp only[i64_w,i32_w];rw[c6b0])|skip)
     have H':=Sd.mk H
     clear H
     go_wp2
     go_meet
     case rel=>exact⟨_,(x5_1),(x1001_1),H',⟨by have:=HK1.out;first|omega|exact Nat.le_refl _⟩,⟨by(with_reducible repeat (first|apply Kd.R_alloc|apply Kd.R_drewN|apply Kd.R_drew));exact HO_5.out⟩,⟨iz⟩,⟨by repeat (first|(with_reducible first|exact HK.out|apply KeepBut.set_|apply keep_drewN|apply keep_drew|apply keep_alloc)|exact HK.out)⟩,⟨bi⟩⟩
 case rest =>
  clear HC4
  try clear p2
  try clear c6
  try clear c6b0
  try clear p6
  try clear c7
  try clear c7b0
  try clear c7b1
  try clear p2
  obtain⟨kq,x5_3,x1001_3,HA,HJ3,HO_5,HI0,HK,HB⟩:=hcut
  cases kq with
  | zero=>exact absurd HA.out (by simp[spec_l20Ord.j1])
  | succ kj3 =>
   have H:=HA.out
   clear HA
   simp only[spec_l20Ord.j1] at H
   replace H:=Option.bind_eq_some_iff.mp H
   obtain⟨⟨t1336,t1337⟩,A120,H⟩:=H
   replace H:(if t1336=true then((spec_l20Rd_pick.f kj3 s0_0 t1337 5).bind fun bt1338=>(if bt1338.1=0 then(some ((([]:List Int)),bt1338.2)) else(if bt1338.1=1 then((some (([]:List Int):List Int)).bind fun y1343=>(if y1343.length+x5_3.length<17592186044416 then((some (y1343++x5_3:List Int)).bind fun y1346=>(if y1346.length<17592186044416 then(some ((y1346++[0]),bt1338.2)) else(none))) else(none))) else(if bt1338.1=2 then(some ((([2,1,0,1,1,1,0]:List Int)),bt1338.2)) else(if bt1338.1=3 then(some ((([1,0,0]:List Int)),bt1338.2)) else(some ((([1,10000,0]:List Int)),bt1338.2))))))) else(some (x5_3,t1337)))=some (r1,r2):=H
   have A12:=Sd.mk A120
   clear A120
   by_cases c13:t1336=true
   ·subst c13
    have H1:((spec_l20Rd_pick.f kj3 s0_0 t1337 5).bind fun bt1338=>(if bt1338.1=0 then(some ((([]:List Int)),bt1338.2)) else(if bt1338.1=1 then((some (([]:List Int):List Int)).bind fun y1343=>(if y1343.length+x5_3.length<17592186044416 then((some (y1343++x5_3:List Int)).bind fun y1346=>(if y1346.length<17592186044416 then(some ((y1346++[0]),bt1338.2)) else(none))) else(none))) else(if bt1338.1=2 then(some ((([2,1,0,1,1,1,0]:List Int)),bt1338.2)) else(if bt1338.1=3 then(some ((([1,0,0]:List Int)),bt1338.2)) else(some ((([1,10000,0]:List Int)),bt1338.2)))))))=some (r1,r2):=by rw[if_pos rfl] at H;exact H
    clear H
    have H:=H1
    clear H1
    replace H:=Option.bind_eq_some_iff.mp H
    obtain⟨⟨t1338,t1339⟩,A140,H⟩:=H
    replace H:(if t1338=0 then(some ((([]:List Int)),t1339)) else(if t1338=1 then((some (([]:List Int):List Int)).bind fun y1343=>(if y1343.length+x5_3.length<17592186044416 then((some (y1343++x5_3:List Int)).bind fun y1346=>(if y1346.length<17592186044416 then(some ((y1346++[0]),t1339)) else(none))) else(none))) else(if t1338=2 then(some ((([2,1,0,1,1,1,0]:List Int)),t1339)) else(if t1338=3 then(some ((([1,0,0]:List Int)),t1339)) else(some ((([1,10000,0]:List Int)),t1339))))))=some (r1,r2):=H
    have A14:=Sd.mk A140
    clear A140
    by_cases c15:t1338=0
    ·rw[if_pos c15] at H
     have c15b0:(t1338 == 0)=true:=beq_iff_eq.mpr c15
     have c15b1:(t1338 != 0)=false:=bne_eq_false_iff_eq.mpr c15
     clear c15
     obtain⟨y1340,hy1340⟩:∃ y_:List Int,y_=(([]:List Int)):=⟨_,rfl⟩
     replace H:(some (y1340,t1339))=some (r1,r2):=hz hy1340 H
     have Ny1340:=Sd.mk hy1340
     clear hy1340
     simp only[Option.some.injEq,Prod.mk.injEq] at H
     obtain⟨rfl,rfl⟩:=H
     go_wp2_with (first|((with_reducible refine gate_callee (f:=76) rfl ?_);refine goesL_ (some 22) rfl rfl Try.func76 (by kernel_rfl) rfl #[.pointer (some ⟨g,0,none⟩),.int .i64 a1] rfl az ?_;(with_reducible refine(spec_l20Rd_odd.calls kj3 g s0_0 x1001_3 a1 true t1337 w0 _ ?side1 ?side2 A12.out).mono ?_);(case side1=>exact iz);(case side2=>exact bi);rintro e w16 ⟨rfl,hi,hb,hk⟩;refine⟨_,rfl,?_⟩;replace HO_5:=Sd.mk (Kd.R_mono (Kd.R_keep (IsS73.apart (show IsS73 w0 _ g s0_0 x1001_3 from iz) (Kd.Rz HO_5.out) (by decide)) hk (fun _ h=>h.2)) (fun _ h=>h.1));replace HK:=Sd.mk (KeepBut.trans kz hk (.inl rfl));replace HB:=Sd.mk (hb);replace HI0:=Sd.mk (hi);(try clear hb);(try clear hb2);(try clear hk);(try clear hi))|((with_reducible refine gate_callee (f:=66) rfl ?_);refine goesL_ (some 24) rfl rfl Try.func66 (by kernel_rfl) rfl #[.pointer (some ⟨g,0,none⟩),.int .i64 5] rfl az ?_;(with_reducible refine(spec_l20Rd_pick.calls kj3 g s0_0 t1337 5 t1338 t1339 w0 _ ?side1 ?side2 A14.out).mono ?_);(case side1=>exact iz);(case side2=>exact bi);rintro e w17 ⟨rfl,hi,hb,hk⟩;refine⟨_,rfl,?_⟩;replace HO_5:=Sd.mk (Kd.R_mono (Kd.R_keep (IsS73.apart (show IsS73 w0 _ g s0_0 t1337 from iz) (Kd.Rz HO_5.out) (by decide)) hk (fun _ h=>h.2)) (fun _ h=>h.1));replace HK:=Sd.mk (KeepBut.trans kz hk (.inl rfl));replace HB:=Sd.mk (hb);replace HI0:=Sd.mk (hi);(try clear hb);(try clear hb2);(try clear hk);(try clear hi))|((with_reducible refine gate_dst (N:=28) rfl ?_);refine Kd.R_lit (Kd.int .i64) _ 3 ?hg (N:=28) ?hd (xs:=([]:List Int)) (inner:=[]) (ok:=fun _=>True) (okp:=fun _=>True) ?hr ?hp (fun _ hk=>hk) trivial (Below.refl _ _) (Nat.le_refl _) (by simp) ?_;(case hd=>rfl);(case hg=>rfl);(case hr=>first|(go_simp;done)|(go_simp;rfl));(case hp=>exact(Reps.none _ _));intro v1341 w18 ho19 hb hg_ hnew_;clear hg_ hnew_;(first|rw[← Ny1340.out] at ho19|(simp only[Int.reduceToNat] at ho19;rw[← Ny1340.out] at ho19));have HO1342:=Sd.mk (Kd.R_lower (Kd.R_new' ho19 (Kd.R_lt (Kd.Rz HO_5.out))) (keep_size (w:=w) (g:=g) (row:=none) kz));replace HO_5:=Sd.mk (Kd.R_elder' (Kd.Rz HO_5.out) (Kd.R_base ho19) hb);replace HK:=Sd.mk (KeepBut.trans kz (KeepBut.of_below hb g none) (.inl rfl));replace HB:=Sd.mk (below_step (bi) hb);replace HI0:=Sd.mk (IsS73.below iz hb);clear hb ho19))
     go_ret
     exact⟨_,by first|rfl|(simp[errW_none,errW_some]<;>rfl)|(simp[*,errW_none,errW_some]<;>rfl),Kd.Rz <| Kd.R_mono HO1342.out (fun _ hk=>trivial),iz,bi,by repeat (first|(with_reducible first|exact HK.out|apply KeepBut.set_|apply keep_drewN|apply keep_drew|apply keep_alloc)|exact HK.out)⟩
    ·rw[if_neg c15] at H
     have c15b0:(t1338 == 0)=false:=beq_eq_false_iff_ne.mpr c15
     have c15b1:(t1338 != 0)=true:=bne_iff_ne.mpr c15
     by_cases c20:t1338=1
     ·rw[if_pos c20] at H
      have c20b0:(t1338 == 1)=true:=beq_iff_eq.mpr c20
      have c20b1:(t1338 != 1)=false:=bne_eq_false_iff_eq.mpr c20
      clear c20
      obtain⟨y1343,hy1343⟩:∃ y_:List Int,y_=(([]:List Int)):=⟨_,rfl⟩
      replace H:(if y1343.length+x5_3.length<17592186044416 then((some (y1343++x5_3:List Int)).bind fun y1346=>(if y1346.length<17592186044416 then(some ((y1346++[0]),t1339)) else(none))) else(none))=some (r1,r2):=hz hy1343 H
      have Ny1343:=Sd.mk hy1343
      clear hy1343
      by_cases c21:y1343.length+x5_3.length<17592186044416
      ·rw[if_pos c21] at H
       have LMc21:=Sd.mk c21
       clear c21
       obtain⟨y1346,hy1346⟩:∃ y_:List Int,y_=(y1343++x5_3):=⟨_,rfl⟩
       replace H:(if y1346.length<17592186044416 then(some ((y1346++[0]),t1339)) else(none))=some (r1,r2):=hz hy1346 H
       have Ny1346:=Sd.mk hy1346
       clear hy1346
       by_cases c22:y1346.length<17592186044416
       ·rw[if_pos c22] at H
        have LMc22:=Sd.mk c22
        clear c22
        obtain⟨y1349,hy1349⟩:∃ y_:List Int,y_=(y1346++[0]):=⟨_,rfl⟩
        replace H:(some (y1349,t1339))=some (r1,r2):=hz hy1349 H
        have Ny1349:=Sd.mk hy1349
        clear hy1349
        simp only[Option.some.injEq,Prod.mk.injEq] at H
        obtain⟨rfl,rfl⟩:=H
        go_wp2_with (first|((with_reducible refine gate_callee (f:=76) rfl ?_);refine goesL_ (some 22) rfl rfl Try.func76 (by kernel_rfl) rfl #[.pointer (some ⟨g,0,none⟩),.int .i64 a1] rfl az ?_;(with_reducible refine(spec_l20Rd_odd.calls kj3 g s0_0 x1001_3 a1 true t1337 w0 _ ?side1 ?side2 A12.out).mono ?_);(case side1=>exact iz);(case side2=>exact bi);rintro e w23 ⟨rfl,hi,hb,hk⟩;refine⟨_,rfl,?_⟩;replace HO_5:=Sd.mk (Kd.R_mono (Kd.R_keep (IsS73.apart (show IsS73 w0 _ g s0_0 x1001_3 from iz) (Kd.Rz HO_5.out) (by decide)) hk (fun _ h=>h.2)) (fun _ h=>h.1));replace HK:=Sd.mk (KeepBut.trans kz hk (.inl rfl));replace HB:=Sd.mk (hb);replace HI0:=Sd.mk (hi);(try clear hb);(try clear hb2);(try clear hk);(try clear hi))|((with_reducible refine gate_callee (f:=66) rfl ?_);refine goesL_ (some 24) rfl rfl Try.func66 (by kernel_rfl) rfl #[.pointer (some ⟨g,0,none⟩),.int .i64 5] rfl az ?_;(with_reducible refine(spec_l20Rd_pick.calls kj3 g s0_0 t1337 5 t1338 t1339 w0 _ ?side1 ?side2 A14.out).mono ?_);(case side1=>exact iz);(case side2=>exact bi);rintro e w24 ⟨rfl,hi,hb,hk⟩;refine⟨_,rfl,?_⟩;replace HO_5:=Sd.mk (Kd.R_mono (Kd.R_keep (IsS73.apart (show IsS73 w0 _ g s0_0 t1337 from iz) (Kd.Rz HO_5.out) (by decide)) hk (fun _ h=>h.2)) (fun _ h=>h.1));replace HK:=Sd.mk (KeepBut.trans kz hk (.inl rfl));replace HB:=Sd.mk (hb);replace HI0:=Sd.mk (hi);(try clear hb);(try clear hb2);(try clear hk);(try clear hi))|((with_reducible refine gate_dst (N:=31) rfl ?_);refine Kd.R_lit (Kd.int .i64) _ 3 ?hg (N:=31) ?hd (xs:=([]:List Int)) (inner:=[]) (ok:=fun _=>True) (okp:=fun _=>True) ?hr ?hp (fun _ hk=>hk) trivial (Below.refl _ _) (Nat.le_refl _) (by simp) ?_;(case hd=>rfl);(case hg=>rfl);(case hr=>first|(go_simp;done)|(go_simp;rfl));(case hp=>exact(Reps.none _ _));intro v1344 w25 ho26 hb hg_ hnew_;clear hg_ hnew_;(first|rw[← Ny1343.out] at ho26|(simp only[Int.reduceToNat] at ho26;rw[← Ny1343.out] at ho26));have HO1345:=Sd.mk (Kd.R_lower (Kd.R_new' ho26 (Kd.R_lt (Kd.Rz HO_5.out))) (keep_size (w:=w) (g:=g) (row:=none) kz));replace HO_5:=Sd.mk (Kd.R_elder' (Kd.Rz HO_5.out) (Kd.R_base ho26) hb);replace HK:=Sd.mk (KeepBut.trans kz (KeepBut.of_below hb g none) (.inl rfl));replace HB:=Sd.mk (below_step (bi) hb);replace HI0:=Sd.mk (IsS73.below iz hb);clear hb ho26;obtain⟨Ao28,co28,eo28⟩:=Kd.R_slice HO_5.out;subst eo28)|((with_reducible refine gate_builtin (b:=.append) (xs:=#[.tmp 31,.tmp 32]) rfl ?_);at_builtin;refine Kd.R_append_rows (Kd.int .i64) w.heap.size rfl (.tmp 31) (.tmp 32) 22 3 (.int .i64 0) 8 rfl Try.underlying22 info3 rfl (by decide) (by omega) v1344 y1343 x5_3 _ _ _ (fun k_=>some k_≠(.slice Ao28 x5_3.length co28:Value).ownBlock) (fun _=>False) rfl rfl ?aO ?aR (fun _ _ h=>h) (fun _ h=>h.elim) ?aF (Below.refl _ _) ?aS ?aL ?_;(case aR=>repeat (first|exact(Kd.R_reads' HO_5.out).2.2|(with_reducible refine Kd.C_alloc ?_ _)|(with_reducible refine Kd.C_drewN ?_ _)|(with_reducible refine Kd.C_drew ?_)));(case aF=>exact(fun k_ hk=>Kd.fresh' (Kd.R_lt (Kd.Rz HO_5.out)) k_ hk));(case aO=>exact(Kd.Rz <| Kd.R_mono HO1345.out (fun _ hk=>hk.2)));(case aS=>exact(keep_size (w:=w) (g:=g) (row:=none) kz));(case aL=>have:=LMc21.out;omega);intro v1347 w27 ho hb hg hat;rw[← Ny1346.out] at ho;replace HO_5:=Sd.mk (Kd.R_after (ok:=(fun _=>True)) (Kd.Rz HO_5.out) hg hat);replace HB:=Sd.mk (below_weaken (bi) HL.out hb);replace HI0:=Sd.mk (IsS73.grown iz hg (IsS73.own_ne HI0.out HO1345.out (by decide)));replace HK:=Sd.mk (KeepBut.trans kz (KeepBut.of_grown hg g) (Kd.R_base2 HO1345.out));have HO1348:=Sd.mk (ho);clear HO1345;clear ho hb hg hat)|((with_reducible refine gate_builtin (b:=.append) (xs:=#[.tmp 33,.tmp 34]) rfl ?_);at_builtin;refine Kd.R_append (Kd.int .i64) w.heap.size rfl (.tmp 33) (.tmp 34) 22 3 (.int .i64 0) 8 rfl Try.underlying22 info3 rfl (by decide) (by omega) v1347 y1346 0 [.int .i64 0] (fun k_=>some k_≠(.slice Ao28 x5_3.length co28:Value).ownBlock) (fun _=>False) rfl rfl ?aP (fun _ hk=>hk.elim) ?aF ?aO (Below.refl _ _) ?aS ?aL ?_;(case aP=>exact rfl);(case aF=>exact(fun k_ hk=>Kd.fresh' (Kd.R_lt (Kd.Rz HO_5.out)) k_ hk));(case aO=>exact(Kd.Rz HO1348.out));(case aS=>exact(keep_size (w:=w) (g:=g) (row:=none) kz));(case aL=>have:=LMc22.out;omega);intro v1350 w29 ho hb hg hat;rw[← Ny1349.out] at ho;replace HO_5:=Sd.mk (Kd.R_after (ok:=(fun _=>True)) (Kd.Rz HO_5.out) hg hat);replace HB:=Sd.mk (below_weaken (bi) HL.out hb);replace HI0:=Sd.mk (IsS73.grown iz hg (IsS73.own_ne HI0.out HO1348.out (by decide)));replace HK:=Sd.mk (KeepBut.trans kz (KeepBut.of_grown hg g) (Kd.R_base2 HO1348.out));have HO1351:=Sd.mk (ho);clear HO1348;clear ho hb hg hat))
        go_ret
        exact⟨_,by first|rfl|(simp[errW_none,errW_some]<;>rfl)|(simp[*,errW_none,errW_some]<;>rfl),Kd.Rz <| Kd.R_mono HO1351.out (fun _ hk=>trivial),iz,bi,by repeat (first|(with_reducible first|exact HK.out|apply KeepBut.set_|apply keep_drewN|apply keep_drew|apply keep_alloc)|exact HK.out)⟩
       ·rw[if_neg c22] at H
        exact absurd H (by simp)
      ·rw[if_neg c21] at H
       exact absurd H (by simp)
     ·rw[if_neg c20] at H
      have c20b0:(t1338 == 1)=false:=beq_eq_false_iff_ne.mpr c20
      have c20b1:(t1338 != 1)=true:=bne_iff_ne.mpr c20
      by_cases c30:t1338=2
      ·rw[if_pos c30] at H
       have c30b0:(t1338 == 2)=true:=beq_iff_eq.mpr c30
       have c30b1:(t1338 != 2)=false:=bne_eq_false_iff_eq.mpr c30
       clear c30
       obtain⟨y1352,hy1352⟩:∃ y_:List Int,y_=(([2,1,0,1,1,1,0]:List Int)):=⟨_,rfl⟩
       replace H:(some (y1352,t1339))=some (r1,r2):=hz hy1352 H
       have Ny1352:=Sd.mk hy1352
       clear hy1352
       simp only[Option.some.injEq,Prod.mk.injEq] at H
       obtain⟨rfl,rfl⟩:=H
       go_wp2_with (first|((with_reducible refine gate_callee (f:=76) rfl ?_);refine goesL_ (some 22) rfl rfl Try.func76 (by kernel_rfl) rfl #[.pointer (some ⟨g,0,none⟩),.int .i64 a1] rfl az ?_;(with_reducible refine(spec_l20Rd_odd.calls kj3 g s0_0 x1001_3 a1 true t1337 w0 _ ?side1 ?side2 A12.out).mono ?_);(case side1=>exact iz);(case side2=>exact bi);rintro e w31 ⟨rfl,hi,hb,hk⟩;refine⟨_,rfl,?_⟩;replace HO_5:=Sd.mk (Kd.R_mono (Kd.R_keep (IsS73.apart (show IsS73 w0 _ g s0_0 x1001_3 from iz) (Kd.Rz HO_5.out) (by decide)) hk (fun _ h=>h.2)) (fun _ h=>h.1));replace HK:=Sd.mk (KeepBut.trans kz hk (.inl rfl));replace HB:=Sd.mk (hb);replace HI0:=Sd.mk (hi);(try clear hb);(try clear hb2);(try clear hk);(try clear hi))|((with_reducible refine gate_callee (f:=66) rfl ?_);refine goesL_ (some 24) rfl rfl Try.func66 (by kernel_rfl) rfl #[.pointer (some ⟨g,0,none⟩),.int .i64 5] rfl az ?_;(with_reducible refine(spec_l20Rd_pick.calls kj3 g s0_0 t1337 5 t1338 t1339 w0 _ ?side1 ?side2 A14.out).mono ?_);(case side1=>exact iz);(case side2=>exact bi);rintro e w32 ⟨rfl,hi,hb,hk⟩;refine⟨_,rfl,?_⟩;replace HO_5:=Sd.mk (Kd.R_mono (Kd.R_keep (IsS73.apart (show IsS73 w0 _ g s0_0 t1337 from iz) (Kd.Rz HO_5.out) (by decide)) hk (fun _ h=>h.2)) (fun _ h=>h.1));replace HK:=Sd.mk (KeepBut.trans kz hk (.inl rfl));replace HB:=Sd.mk (hb);replace HI0:=Sd.mk (hi);(try clear hb);(try clear hb2);(try clear hk);(try clear hi))|((with_reducible refine gate_dst (N:=38) rfl ?_);refine Kd.R_lit (Kd.int .i64) _ 3 ?hg (N:=38) ?hd (xs:=([2,1,0,1,1,1,0]:List Int)) (inner:=[.int .i64 2,.int .i64 1,.int .i64 0,.int .i64 1,.int .i64 1,.int .i64 1,.int .i64 0]) (ok:=fun _=>True) (okp:=fun _=>True) ?hr ?hp (fun _ hk=>hk) trivial (Below.refl _ _) (Nat.le_refl _) (by simp) ?_;(case hd=>rfl);(case hg=>rfl);(case hr=>first|(go_simp;done)|(go_simp;rfl));(case hp=>exact(Reps.one (show Kd.M (Kd.int .i64) _ _ _ 2 [.int .i64 2] from rfl) (Reps.one (show Kd.M (Kd.int .i64) _ _ _ 1 [.int .i64 1] from rfl) (Reps.one (show Kd.M (Kd.int .i64) _ _ _ 0 [.int .i64 0] from rfl) (Reps.one (show Kd.M (Kd.int .i64) _ _ _ 1 [.int .i64 1] from rfl) (Reps.one (show Kd.M (Kd.int .i64) _ _ _ 1 [.int .i64 1] from rfl) (Reps.one (show Kd.M (Kd.int .i64) _ _ _ 1 [.int .i64 1] from rfl) (Reps.one (show Kd.M (Kd.int .i64) _ _ _ 0 [.int .i64 0] from rfl) (Reps.none _ _)))))))));intro v1353 w33 ho34 hb hg_ hnew_;clear hg_ hnew_;(first|rw[← Ny1352.out] at ho34|(simp only[Int.reduceToNat] at ho34;rw[← Ny1352.out] at ho34));have HO1354:=Sd.mk (Kd.R_lower (Kd.R_new' ho34 (Kd.R_lt (Kd.Rz HO_5.out))) (keep_size (w:=w) (g:=g) (row:=none) kz));replace HO_5:=Sd.mk (Kd.R_elder' (Kd.Rz HO_5.out) (Kd.R_base ho34) hb);replace HK:=Sd.mk (KeepBut.trans kz (KeepBut.of_below hb g none) (.inl rfl));replace HB:=Sd.mk (below_step (bi) hb);replace HI0:=Sd.mk (IsS73.below iz hb);clear hb ho34))
       go_ret
       exact⟨_,by first|rfl|(simp[errW_none,errW_some]<;>rfl)|(simp[*,errW_none,errW_some]<;>rfl),Kd.Rz <| Kd.R_mono HO1354.out (fun _ hk=>trivial),iz,bi,by repeat (first|(with_reducible first|exact HK.out|apply KeepBut.set_|apply keep_drewN|apply keep_drew|apply keep_alloc)|exact HK.out)⟩
      ·rw[if_neg c30] at H
       have c30b0:(t1338 == 2)=false:=beq_eq_false_iff_ne.mpr c30
       have c30b1:(t1338 != 2)=true:=bne_iff_ne.mpr c30
       by_cases c35:t1338=3
       ·rw[if_pos c35] at H
        have c35b0:(t1338 == 3)=true:=beq_iff_eq.mpr c35
        have c35b1:(t1338 != 3)=false:=bne_eq_false_iff_eq.mpr c35
        clear c35
        obtain⟨y1355,hy1355⟩:∃ y_:List Int,y_=(([1,0,0]:List Int)):=⟨_,rfl⟩
        replace H:(some (y1355,t1339))=some (r1,r2):=hz hy1355 H
        have Ny1355:=Sd.mk hy1355
        clear hy1355
        simp only[Option.some.injEq,Prod.mk.injEq] at H
        obtain⟨rfl,rfl⟩:=H
        go_wp2_with (first|((with_reducible refine gate_callee (f:=76) rfl ?_);refine goesL_ (some 22) rfl rfl Try.func76 (by kernel_rfl) rfl #[.pointer (some ⟨g,0,none⟩),.int .i64 a1] rfl az ?_;(with_reducible refine(spec_l20Rd_odd.calls kj3 g s0_0 x1001_3 a1 true t1337 w0 _ ?side1 ?side2 A12.out).mono ?_);(case side1=>exact iz);(case side2=>exact bi);rintro e w36 ⟨rfl,hi,hb,hk⟩;refine⟨_,rfl,?_⟩;replace HO_5:=Sd.mk (Kd.R_mono (Kd.R_keep (IsS73.apart (show IsS73 w0 _ g s0_0 x1001_3 from iz) (Kd.Rz HO_5.out) (by decide)) hk (fun _ h=>h.2)) (fun _ h=>h.1));replace HK:=Sd.mk (KeepBut.trans kz hk (.inl rfl));replace HB:=Sd.mk (hb);replace HI0:=Sd.mk (hi);(try clear hb);(try clear hb2);(try clear hk);(try clear hi))|((with_reducible refine gate_callee (f:=66) rfl ?_);refine goesL_ (some 24) rfl rfl Try.func66 (by kernel_rfl) rfl #[.pointer (some ⟨g,0,none⟩),.int .i64 5] rfl az ?_;(with_reducible refine(spec_l20Rd_pick.calls kj3 g s0_0 t1337 5 t1338 t1339 w0 _ ?side1 ?side2 A14.out).mono ?_);(case side1=>exact iz);(case side2=>exact bi);rintro e w37 ⟨rfl,hi,hb,hk⟩;refine⟨_,rfl,?_⟩;replace HO_5:=Sd.mk (Kd.R_mono (Kd.R_keep (IsS73.apart (show IsS73 w0 _ g s0_0 t1337 from iz) (Kd.Rz HO_5.out) (by decide)) hk (fun _ h=>h.2)) (fun _ h=>h.1));replace HK:=Sd.mk (KeepBut.trans kz hk (.inl rfl));replace HB:=Sd.mk (hb);replace HI0:=Sd.mk (hi);(try clear hb);(try clear hb2);(try clear hk);(try clear hi))|((with_reducible refine gate_dst (N:=41) rfl ?_);refine Kd.R_lit (Kd.int .i64) _ 3 ?hg (N:=41) ?hd (xs:=([1,0,0]:List Int)) (inner:=[.int .i64 1,.int .i64 0,.int .i64 0]) (ok:=fun _=>True) (okp:=fun _=>True) ?hr ?hp (fun _ hk=>hk) trivial (Below.refl _ _) (Nat.le_refl _) (by simp) ?_;(case hd=>rfl);(case hg=>rfl);(case hr=>first|(go_simp;done)|(go_simp;rfl));(case hp=>exact(Reps.one (show Kd.M (Kd.int .i64) _ _ _ 1 [.int .i64 1] from rfl) (Reps.one (show Kd.M (Kd.int .i64) _ _ _ 0 [.int .i64 0] from rfl) (Reps.one (show Kd.M (Kd.int .i64) _ _ _ 0 [.int .i64 0] from rfl) (Reps.none _ _)))));intro v1356 w38 ho39 hb hg_ hnew_;clear hg_ hnew_;(first|rw[← Ny1355.out] at ho39|(simp only[Int.reduceToNat] at ho39;rw[← Ny1355.out] at ho39));have HO1357:=Sd.mk (Kd.R_lower (Kd.R_new' ho39 (Kd.R_lt (Kd.Rz HO_5.out))) (keep_size (w:=w) (g:=g) (row:=none) kz));replace HO_5:=Sd.mk (Kd.R_elder' (Kd.Rz HO_5.out) (Kd.R_base ho39) hb);replace HK:=Sd.mk (KeepBut.trans kz (KeepBut.of_below hb g none) (.inl rfl));replace HB:=Sd.mk (below_step (bi) hb);replace HI0:=Sd.mk (IsS73.below iz hb);clear hb ho39))
        go_ret
        exact⟨_,by first|rfl|(simp[errW_none,errW_some]<;>rfl)|(simp[*,errW_none,errW_some]<;>rfl),Kd.Rz <| Kd.R_mono HO1357.out (fun _ hk=>trivial),iz,bi,by repeat (first|(with_reducible first|exact HK.out|apply KeepBut.set_|apply keep_drewN|apply keep_drew|apply keep_alloc)|exact HK.out)⟩
       ·rw[if_neg c35] at H
        have c35b0:(t1338 == 3)=false:=beq_eq_false_iff_ne.mpr c35
        have c35b1:(t1338 != 3)=true:=bne_iff_ne.mpr c35
        obtain⟨y1358,hy1358⟩:∃ y_:List Int,y_=(([1,10000,0]:List Int)):=⟨_,rfl⟩
        replace H:(some (y1358,t1339))=some (r1,r2):=hz hy1358 H
        have Ny1358:=Sd.mk hy1358
        clear hy1358
        simp only[Option.some.injEq,Prod.mk.injEq] at H
        obtain⟨rfl,rfl⟩:=H
        go_wp2_with (first|((with_reducible refine gate_callee (f:=76) rfl ?_);refine goesL_ (some 22) rfl rfl Try.func76 (by kernel_rfl) rfl #[.pointer (some ⟨g,0,none⟩),.int .i64 a1] rfl az ?_;(with_reducible refine(spec_l20Rd_odd.calls kj3 g s0_0 x1001_3 a1 true t1337 w0 _ ?side1 ?side2 A12.out).mono ?_);(case side1=>exact iz);(case side2=>exact bi);rintro e w40 ⟨rfl,hi,hb,hk⟩;refine⟨_,rfl,?_⟩;replace HO_5:=Sd.mk (Kd.R_mono (Kd.R_keep (IsS73.apart (show IsS73 w0 _ g s0_0 x1001_3 from iz) (Kd.Rz HO_5.out) (by decide)) hk (fun _ h=>h.2)) (fun _ h=>h.1));replace HK:=Sd.mk (KeepBut.trans kz hk (.inl rfl));replace HB:=Sd.mk (hb);replace HI0:=Sd.mk (hi);(try clear hb);(try clear hb2);(try clear hk);(try clear hi))|((with_reducible refine gate_callee (f:=66) rfl ?_);refine goesL_ (some 24) rfl rfl Try.func66 (by kernel_rfl) rfl #[.pointer (some ⟨g,0,none⟩),.int .i64 5] rfl az ?_;(with_reducible refine(spec_l20Rd_pick.calls kj3 g s0_0 t1337 5 t1338 t1339 w0 _ ?side1 ?side2 A14.out).mono ?_);(case side1=>exact iz);(case side2=>exact bi);rintro e w41 ⟨rfl,hi,hb,hk⟩;refine⟨_,rfl,?_⟩;replace HO_5:=Sd.mk (Kd.R_mono (Kd.R_keep (IsS73.apart (show IsS73 w0 _ g s0_0 t1337 from iz) (Kd.Rz HO_5.out) (by decide)) hk (fun _ h=>h.2)) (fun _ h=>h.1));replace HK:=Sd.mk (KeepBut.trans kz hk (.inl rfl));replace HB:=Sd.mk (hb);replace HI0:=Sd.mk (hi);(try clear hb);(try clear hb2);(try clear hk);(try clear hi))|((with_reducible refine gate_dst (N:=25) rfl ?_);refine Kd.R_lit (Kd.int .i64) _ 3 ?hg (N:=25) ?hd (xs:=([1,10000,0]:List Int)) (inner:=[.int .i64 1,.int .i64 10000,.int .i64 0]) (ok:=fun _=>True) (okp:=fun _=>True) ?hr ?hp (fun _ hk=>hk) trivial (Below.refl _ _) (Nat.le_refl _) (by simp) ?_;(case hd=>rfl);(case hg=>rfl);(case hr=>first|(go_simp;done)|(go_simp;rfl));(case hp=>exact(Reps.one (show Kd.M (Kd.int .i64) _ _ _ 1 [.int .i64 1] from rfl) (Reps.one (show Kd.M (Kd.int .i64) _ _ _ 10000 [.int .i64 10000] from rfl) (Reps.one (show Kd.M (Kd.int .i64) _ _ _ 0 [.int .i64 0] from rfl) (Reps.none _ _)))));intro v1359 w42 ho43 hb hg_ hnew_;clear hg_ hnew_;(first|rw[← Ny1358.out] at ho43|(simp only[Int.reduceToNat] at ho43;rw[← Ny1358.out] at ho43));have HO1360:=Sd.mk (Kd.R_lower (Kd.R_new' ho43 (Kd.R_lt (Kd.Rz HO_5.out))) (keep_size (w:=w) (g:=g) (row:=none) kz));replace HO_5:=Sd.mk (Kd.R_elder' (Kd.Rz HO_5.out) (Kd.R_base ho43) hb);replace HK:=Sd.mk (KeepBut.trans kz (KeepBut.of_below hb g none) (.inl rfl));replace HB:=Sd.mk (below_step (bi) hb);replace HI0:=Sd.mk (IsS73.below iz hb);clear hb ho43))
        go_ret
        exact⟨_,by first|rfl|(simp[errW_none,errW_some]<;>rfl)|(simp[*,errW_none,errW_some]<;>rfl),Kd.Rz <| Kd.R_mono HO1360.out (fun _ hk=>trivial),iz,bi,by repeat (first|(with_reducible first|exact HK.out|apply KeepBut.set_|apply keep_drewN|apply keep_drew|apply keep_alloc)|exact HK.out)⟩
   ·replace c13:=Bool.eq_false_iff.mpr c13
    subst c13
    have H1:(some (x5_3,t1337))=some (r1,r2):=by rw[if_neg (show ¬ (false=true) by decide)] at H;exact H
    clear H
    have H:=H1
    clear H1
    simp only[Option.some.injEq,Prod.mk.injEq] at H
    obtain⟨rfl,rfl⟩:=H
    go_wp2_with (first|((with_reducible refine gate_callee (f:=76) rfl ?_);refine goesL_ (some 22) rfl rfl Try.func76 (by kernel_rfl) rfl #[.pointer (some ⟨g,0,none⟩),.int .i64 a1] rfl az ?_;(with_reducible refine(spec_l20Rd_odd.calls kj3 g s0_0 x1001_3 a1 false t1337 w0 _ ?side1 ?side2 A12.out).mono ?_);(case side1=>exact iz);(case side2=>exact bi);rintro e w44 ⟨rfl,hi,hb,hk⟩;refine⟨_,rfl,?_⟩;replace HO_5:=Sd.mk (Kd.R_mono (Kd.R_keep (IsS73.apart (show IsS73 w0 _ g s0_0 x1001_3 from iz) (Kd.Rz HO_5.out) (by decide)) hk (fun _ h=>h.2)) (fun _ h=>h.1));replace HK:=Sd.mk (KeepBut.trans kz hk (.inl rfl));replace HB:=Sd.mk (hb);replace HI0:=Sd.mk (hi);(try clear hb);(try clear hb2);(try clear hk);(try clear hi)))
    go_ret
    exact⟨_,by first|rfl|(simp[errW_none,errW_some]<;>rfl)|(simp[*,errW_none,errW_some]<;>rfl),by(with_reducible repeat (first|apply Kd.R_alloc|apply Kd.R_drewN|apply Kd.R_drew));exact HO_5.out,iz,bi,by repeat (first|(with_reducible first|exact HK.out|apply KeepBut.set_|apply keep_drewN|apply keep_drew|apply keep_alloc)|exact HK.out)⟩
end Go.Proofs.Ytfblcanijhnhmaa.P