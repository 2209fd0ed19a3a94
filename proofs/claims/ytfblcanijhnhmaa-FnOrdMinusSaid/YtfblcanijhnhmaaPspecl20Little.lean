/- One Go function comes to what its Lean function tells. -/
import Derived.Test.YtfblcanijhnhmaaP0
import Derived.Test.YtfblcanijhnhmaaPspecl20Ord
import Derived.Test.YtfblcanijhnhmaaPspecl20Raw
import Derived.Test.YtfblcanijhnhmaaPspecl20Rdodd
import Derived.Test.YtfblcanijhnhmaaPspecl20Rdpick
namespace Go.Proofs.Ytfblcanijhnhmaa.P
open Go.RowKit YtfblcanijhnhmaaW.PrintWords YtfblcanijhnhmaaW.PrintLast YtfblcanijhnhmaaW.PrintMore
set_option linter.unusedVariables false
set_option linter.unusedSimpArgs false
/-! ### spec_l20Little: function 68 -/
def spec_l20Little.l0:Nat→List Int→Int→List Int→Int→Option (List Int × Int)
 | 0,_,_,_,_=>none
 | k+1,x5,x6,x1000,x1001=>if x6<4 then(if(x5.length:Int)>16 then((spec_l20Raw.f k x1000 x1001 1).bind fun bt1371=>(spec_l20Little.l0 k bt1371.1 (wrap64 (x6+1)) x1000 bt1371.2)) else(some (x5,x1001))) else(some (x5,x1001))
def spec_l20Little.f (k:Nat)(s0_0:List Int)(s0_1:Int)(a1:Int):Option (List Int × Int):=(spec_l20Rd_odd.f k s0_0 s0_1 a1).bind fun bt1361=>(if bt1361.1=true then((spec_l20Ord.f k s0_0 bt1361.2 1).bind fun bt1363=>(some (bt1363.1,bt1363.2))) else((spec_l20Raw.f k s0_0 bt1361.2 2).bind fun bt1367=>(spec_l20Little.l0 k bt1367.1 0 s0_0 bt1367.2)))
theorem spec_l20Little.mono_l:∀ k,(∀ y0 y1 y2 y3,LeO (spec_l20Little.l0 k y0 y1 y2 y3) (spec_l20Little.l0 (k+1) y0 y1 y2 y3))
 | 0=>fun _ _ _ _ r h=>by simp[spec_l20Little.l0] at h
 | k+1=>by
  have ih0:=spec_l20Little.mono_l k
  ·intro y0 y1 y2 y3
   unfold spec_l20Little.l0
   repeat' first|(with_reducible first|exact ih0 _ _ _ _|exact spec_l20Raw.mono _ _ _ _|exact LeO.refl _|exact LeO.none _|refine LeO.ite ?_ ?_|refine LeO.bind ?_ (fun _=>?_))|exact ih0 _ _ _ _|exact spec_l20Raw.mono _ _ _ _|exact LeO.none _|refine LeO.ite ?_ ?_|refine LeO.bind ?_ (fun _=>?_)
theorem spec_l20Little.mono:∀ a0 a1 a2 k,LeO (spec_l20Little.f k a0 a1 a2) (spec_l20Little.f (k+1) a0 a1 a2):=by
 intro a0 a1 a2 k
 have ih0:=spec_l20Little.mono_l k
 unfold spec_l20Little.f
 repeat' first|(with_reducible first|exact ih0 _ _ _ _|exact spec_l20Ord.mono _ _ _ _|exact spec_l20Raw.mono _ _ _ _|exact spec_l20Rd_odd.mono _ _ _ _|exact LeO.refl _|exact LeO.none _|refine LeO.ite ?_ ?_|refine LeO.bind ?_ (fun _=>?_))|exact ih0 _ _ _ _|exact spec_l20Ord.mono _ _ _ _|exact spec_l20Raw.mono _ _ _ _|exact spec_l20Rd_odd.mono _ _ _ _|exact LeO.none _|refine LeO.ite ?_ ?_|refine LeO.bind ?_ (fun _=>?_)
set_option maxHeartbeats 8000000 in
set_option maxRecDepth 100000 in
theorem spec_l20Little.calls (k:Nat)(g:Nat)(s0_0:List Int)(s0_1:Int)(a1:Int)(r1:List Int)(r2:Int)(w0 w:World)(hI:IsS73 w0 w g s0_0 s0_1)(hB:Below w0.heap.size w0 w)(h:spec_l20Little.f k s0_0 s0_1 a1=some (r1,r2)) :
  Calls Try.prog 68 #[.pointer (some ⟨g,0,none⟩),.int .i64 a1] w fun e w'=>∃ v0_:Value,e=.returned (v0_)∧Kd.R (Kd.int .i64) 3 w' w.heap.size (fun _=>True) v0_ r1∧IsS73 w0 w' g s0_0 r2∧Below w0.heap.size w0 w'∧KeepBut w w' g none:=by
 have HI0:=Sd.mk hI
 have HK:=Sd.mk (KeepBut.refl w g none)
 have HL:=Sd.mk hB.size
 clear hI
 have HW0:=Sd.mk hB.size
 have HB:=Sd.mk hB
 clear hB
 have H:((spec_l20Rd_odd.f k s0_0 s0_1 a1).bind fun bt1361=>(if bt1361.1=true then((spec_l20Ord.f k s0_0 bt1361.2 1).bind fun bt1363=>(some (bt1363.1,bt1363.2))) else((spec_l20Raw.f k s0_0 bt1361.2 2).bind fun bt1367=>(spec_l20Little.l0 k bt1367.1 0 s0_0 bt1367.2))))=some (r1,r2):=h
 clear h
 replace H:=Option.bind_eq_some_iff.mp H
 obtain⟨⟨t1361,t1362⟩,A30,H⟩:=H
 replace H:(if t1361=true then((spec_l20Ord.f k s0_0 t1362 1).bind fun bt1363=>(some (bt1363.1,bt1363.2))) else((spec_l20Raw.f k s0_0 t1362 2).bind fun bt1367=>(spec_l20Little.l0 k bt1367.1 0 s0_0 bt1367.2)))=some (r1,r2):=H
 have A3:=Sd.mk A30
 clear A30
 by_cases c4:t1361=true
 ·subst c4
  have H1:((spec_l20Ord.f k s0_0 t1362 1).bind fun bt1363=>(some (bt1363.1,bt1363.2)))=some (r1,r2):=by rw[if_pos rfl] at H;exact H
  clear H
  have H:=H1
  clear H1
  replace H:=Option.bind_eq_some_iff.mp H
  obtain⟨⟨t1363,t1366⟩,A50,H⟩:=H
  replace H:(some (t1363,t1366))=some (r1,r2):=H
  have A5:=Sd.mk A50
  clear A50
  simp only[Option.some.injEq,Prod.mk.injEq] at H
  obtain⟨rfl,rfl⟩:=H
  go_enter Try.func68,Try.ntmps68
  go_wp2_with (first|((with_reducible refine gate_callee (f:=76) rfl ?_);refine goesL_ (some 9) rfl rfl Try.func76 (by kernel_rfl) rfl #[.pointer (some ⟨g,0,none⟩),.int .i64 a1] rfl az ?_;(with_reducible refine(spec_l20Rd_odd.calls k g s0_0 s0_1 a1 true t1362 w0 _ ?side1 ?side2 A3.out).mono ?_);(case side1=>exact iz);(case side2=>exact bi);rintro e w6 ⟨rfl,hi,hb,hk⟩;refine⟨_,rfl,?_⟩;replace HK:=Sd.mk (KeepBut.trans kz hk (.inl rfl));replace HB:=Sd.mk (hb);replace HI0:=Sd.mk (hi);(try clear hb);(try clear hb2);(try clear hk);(try clear hi))|((with_reducible refine gate_callee (f:=67) rfl ?_);refine goesL_ (some 11) rfl rfl Try.func67 (by kernel_rfl) rfl #[.pointer (some ⟨g,0,none⟩),.int .i64 1] rfl az ?_;(with_reducible refine(spec_l20Ord.calls k g s0_0 t1362 1 t1363 t1366 w0 _ ?side1 ?side2 A5.out).mono ?_);(case side1=>exact iz);(case side2=>exact bi);rintro e w7 ⟨v1364,rfl,ho0,hi,hb,hk⟩;refine⟨_,rfl,?_⟩;have HO1365:=Sd.mk (Kd.R_lower ho0 (keep_size (w:=w) (g:=g) (row:=none) kz));replace HK:=Sd.mk (KeepBut.trans kz hk (.inl rfl));replace HB:=Sd.mk (hb);replace HI0:=Sd.mk (hi);(try clear hb);(try clear hb2);(try clear hk);(try clear hi);(try clear ho0)))
  go_ret
  exact⟨_,by first|rfl|(simp[errW_none,errW_some]<;>rfl)|(simp[*,errW_none,errW_some]<;>rfl),by(with_reducible repeat (first|apply Kd.R_alloc|apply Kd.R_drewN|apply Kd.R_drew));exact HO1365.out,iz,bi,by repeat (first|(with_reducible first|exact HK.out|apply KeepBut.set_|apply keep_drewN|apply keep_drew|apply keep_alloc)|exact HK.out)⟩
 ·replace c4:=Bool.eq_false_iff.mpr c4
  subst c4
  have H1:((spec_l20Raw.f k s0_0 t1362 2).bind fun bt1367=>(spec_l20Little.l0 k bt1367.1 0 s0_0 bt1367.2))=some (r1,r2):=by rw[if_neg (show ¬ (false=true) by decide)] at H;exact H
  clear H
  have H:=H1
  clear H1
  replace H:=Option.bind_eq_some_iff.mp H
  obtain⟨⟨t1367,t1370⟩,A80,H⟩:=H
  replace H:(spec_l20Little.l0 k t1367 0 s0_0 t1370)=some (r1,r2):=H
  have A8:=Sd.mk A80
  clear A80
  have H':=Sd.mk H
  clear H
  go_enter Try.func68,Try.ntmps68
  go_wp2_with (first|((with_reducible refine gate_callee (f:=76) rfl ?_);refine goesL_ (some 9) rfl rfl Try.func76 (by kernel_rfl) rfl #[.pointer (some ⟨g,0,none⟩),.int .i64 a1] rfl az ?_;(with_reducible refine(spec_l20Rd_odd.calls k g s0_0 s0_1 a1 false t1362 w0 _ ?side1 ?side2 A3.out).mono ?_);(case side1=>exact iz);(case side2=>exact bi);rintro e w9 ⟨rfl,hi,hb,hk⟩;refine⟨_,rfl,?_⟩;replace HK:=Sd.mk (KeepBut.trans kz hk (.inl rfl));replace HB:=Sd.mk (hb);replace HI0:=Sd.mk (hi);(try clear hb);(try clear hb2);(try clear hk);(try clear hi))|((with_reducible refine gate_callee (f:=75) rfl ?_);refine goesL_ (some 13) rfl rfl Try.func75 (by kernel_rfl) rfl #[.pointer (some ⟨g,0,none⟩),.int .i64 2] rfl az ?_;(with_reducible refine(spec_l20Raw.calls k g s0_0 t1362 2 t1367 t1370 w0 _ ?side1 ?side2 A8.out).mono ?_);(case side1=>exact iz);(case side2=>exact bi);rintro e w10 ⟨v1368,rfl,ho0,hi,hb,hk⟩;refine⟨_,rfl,?_⟩;have HO1369:=Sd.mk (Kd.R_lower ho0 (keep_size (w:=w) (g:=g) (row:=none) kz));replace HK:=Sd.mk (KeepBut.trans kz hk (.inl rfl));replace HB:=Sd.mk (hb);replace HI0:=Sd.mk (hi);(try clear hb);(try clear hb2);(try clear hk);(try clear hi);(try clear ho0)))
  go_loopg [5,6] k (fun kq v5 v6 w'=>∃ (x5_1:List Int) (x6_1:Int) (x1001_1:Int),v6=.int .i64 x6_1∧Sd (spec_l20Little.l0 kq x5_1 x6_1 s0_0 x1001_1=some (r1,r2))∧Sd (kq≤k)∧Sd (Kd.R (Kd.int .i64) 3 w' w.heap.size (fun _=>True) v5 x5_1)∧Sd (IsS73 w0 w' g s0_0 x1001_1)∧Sd (KeepBut w w' g none)∧Sd (Below w0.heap.size w0 w'))
  case atStart=>exact⟨(t1367),(0),(t1370),(by first|rfl|(simp;done)|(simp[*];done)),H',⟨Nat.le_refl _⟩,⟨by(with_reducible repeat (first|apply Kd.R_alloc|apply Kd.R_drewN|apply Kd.R_drew));exact HO1369.out⟩,⟨iz⟩,⟨by repeat (first|(with_reducible first|exact HK.out|apply KeepBut.set_|apply keep_drewN|apply keep_drew|apply keep_alloc)|exact HK.out)⟩,⟨bi⟩⟩
  case round =>
   clear H'
   try clear p2
   try clear c4
   try clear c6
   try clear c7
   obtain⟨x5_1,x6_1,x1001_1,rfl,HA,HK1,HO_5,HI0,HK,HB⟩:=hrel
   cases gk with
   | zero=>exact absurd HA.out (by simp[spec_l20Little.l0])
   | succ k1 =>
    have H:=HA.out
    clear HA
    simp only[spec_l20Little.l0] at H
    by_cases c11:x6_1<4
    ·rw[if_pos c11] at H
     have c11b0:decide (x6_1<4)=true:=decide_eq_true c11
     clear c11
     by_cases c12:(x5_1.length:Int)>16
     ·rw[if_pos c12] at H
      have c12b0:decide (16<(x5_1.length:Int))=true:=decide_eq_true c12
      have c12b1:decide (16<x5_1.length)=true:=decide_eq_true (by omega)
      clear c12
      replace H:=Option.bind_eq_some_iff.mp H
      obtain⟨⟨t1371,t1374⟩,A130,H⟩:=H
      replace H:(spec_l20Little.l0 k1 t1371 (wrap64 (x6_1+1)) s0_0 t1374)=some (r1,r2):=H
      have A13:=Sd.mk A130
      clear A130
      have H':=Sd.mk H
      clear H
      obtain⟨Ao14,co14,eo14⟩:=Kd.R_slice HO_5.out
      subst eo14
      go_wp2_with (first|((with_reducible refine gate_callee (f:=75) rfl ?_);refine goesL_ (some 24) rfl rfl Try.func75 (by kernel_rfl) rfl #[.pointer (some ⟨g,0,none⟩),.int .i64 1] rfl az ?_;(with_reducible refine(spec_l20Raw.calls k1 g s0_0 x1001_1 1 t1371 t1374 w0 _ ?side1 ?side2 A13.out).mono ?_);(case side1=>exact iz);(case side2=>exact bi);rintro e w15 ⟨v1372,rfl,ho0,hi,hb,hk⟩;refine⟨_,rfl,?_⟩;have HO1373:=Sd.mk (Kd.R_lower (Kd.R_new' ho0 (Kd.R_lt (Kd.Rz HO_5.out))) (keep_size (w:=w) (g:=g) (row:=none) kz));replace HO_5:=Sd.mk (Kd.R_mono (Kd.R_told (Kd.R_oldK (IsS73.apart (show IsS73 w0 _ g s0_0 x1001_1 from iz) (Kd.Rz HO_5.out) (by decide)) hk) (Kd.R_base ho0)) (fun _ h_=>h_.1));replace HK:=Sd.mk (KeepBut.trans kz hk (.inl rfl));replace HB:=Sd.mk (hb);replace HI0:=Sd.mk (hi);(try clear hb);(try clear hb2);(try clear hk);(try clear hi);(try clear ho0)))
      go_roundg k1
      case measure=>have:=HK1.out;omega
      case rel=>exact⟨(t1371),(wrap64 (x6_1+1)),(t1374),(by first|rfl|(simp;done)|(simp[*];done)),H',⟨by have:=HK1.out;omega⟩,⟨Kd.Rz <| Kd.R_mono HO1373.out (fun _ hk=>trivial)⟩,⟨iz⟩,⟨by repeat (first|(with_reducible first|exact HK.out|apply KeepBut.set_|apply keep_drewN|apply keep_drew|apply keep_alloc)|exact HK.out)⟩,⟨bi⟩⟩
     ·rw[if_neg c12] at H
      have c12b0:decide (16<(x5_1.length:Int))=false:=decide_eq_false c12
      have c12b1:decide (16<x5_1.length)=false:=decide_eq_false (by omega)
      clear c12
      simp only[Option.some.injEq,Prod.mk.injEq] at H
      obtain⟨rfl,rfl⟩:=H
      obtain⟨Ao16,co16,eo16⟩:=Kd.R_slice HO_5.out
      subst eo16
      go_wp2
      go_ret
      exact⟨_,by first|rfl|(simp[errW_none,errW_some]<;>rfl)|(simp[*,errW_none,errW_some]<;>rfl),by(with_reducible repeat (first|apply Kd.R_alloc|apply Kd.R_drewN|apply Kd.R_drew));exact HO_5.out,iz,bi,by repeat (first|(with_reducible first|exact HK.out|apply KeepBut.set_|apply keep_drewN|apply keep_drew|apply keep_alloc)|exact HK.out)⟩
    ·rw[if_neg c11] at H
     have c11b0:decide (x6_1<4)=false:=decide_eq_false c11
     clear c11
     simp only[Option.some.injEq,Prod.mk.injEq] at H
     obtain⟨rfl,rfl⟩:=H
     go_wp2
     go_ret
     exact⟨_,by first|rfl|(simp[errW_none,errW_some]<;>rfl)|(simp[*,errW_none,errW_some]<;>rfl),by(with_reducible repeat (first|apply Kd.R_alloc|apply Kd.R_drewN|apply Kd.R_drew));exact HO_5.out,iz,bi,by repeat (first|(with_reducible first|exact HK.out|apply KeepBut.set_|apply keep_drewN|apply keep_drew|apply keep_alloc)|exact HK.out)⟩
end Go.Proofs.Ytfblcanijhnhmaa.P