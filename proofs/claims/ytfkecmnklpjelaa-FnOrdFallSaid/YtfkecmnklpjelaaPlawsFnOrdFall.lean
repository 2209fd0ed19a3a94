/- One Go function comes to what its Lean function tells. -/
import Derived.Test.YtfkecmnklpjelaaP0
import Derived.Test.YtfkecmnklpjelaaPimplOrdCompare
import Derived.Test.YtfkecmnklpjelaaPimplOrdFall
import Derived.Test.YtfkecmnklpjelaaPlawsalive
import Derived.Test.YtfkecmnklpjelaaPlawssameLists
import Derived.Test.YtfkecmnklpjelaaPspecDrawOrdFall
import Derived.Test.YtfkecmnklpjelaaPspecOrdFall
namespace Go.Proofs.Ytfkecmnklpjelaa.P
open Go.RowKit YtfkecmnklpjelaaW.PrintWords YtfkecmnklpjelaaW.PrintLast YtfkecmnklpjelaaW.PrintMore
set_option linter.unusedVariables false
set_option linter.unusedSimpArgs false
/-! ### laws_FnOrdFall: function 4 -/
mutual
def laws_FnOrdFall.j0:Nat→List Int→List Int→List (List Int)→Bool→Bool→Option (Bool)
 | 0,_,_,_,_,_=>none
 | k+1,x3,x4,x5,x6,x39=>if x39=true then(some false) else(laws_FnOrdFall.l0 k x4 x5 x6 x3 0)
def laws_FnOrdFall.l0:Nat→List Int→List (List Int)→Bool→List Int→Int→Option (Bool)
 | 0,_,_,_,_,_=>none
 | k+1,x4,x5,x6,x9,x10=>if x10<(x5.length:Int) then(if 0≤x10 then((impl_OrdCompare.f k (rd_L1 x5 x10) x9).bind fun t638=>(if t638=(-1) then(laws_FnOrdFall.l0 k x4 x5 x6 (rd_L1 x5 x10) (wrap64 (x10+1))) else(some false))) else(none)) else(if(x5.length:Int)≤(x4.length:Int) then(if x6=true then((laws_alive.f k).bind fun t640=>(some t640)) else(if(x5.length:Int)=0 then((laws_alive.f k).bind fun t641=>(some t641)) else(some false))) else(some false))
end
def laws_FnOrdFall.f (k:Nat)(l0:List Int):Option (Bool):=if(l0.length:Int)>1048576 then(some true) else((spec_DrawOrdFall.f k l0).bind fun bt622=>((impl_OrdFall.f k bt622.1 bt622.2).bind fun bt628=>((spec_OrdFall.f k bt622.1 bt622.2).bind fun bt632=>((laws_sameLists.f k bt628.1 bt632.1).bind fun t636=>(if t636=true then(laws_FnOrdFall.j0 k bt622.1 bt622.2 bt628.1 bt628.2 (bt628.2 != bt632.2)) else(laws_FnOrdFall.j0 k bt622.1 bt622.2 bt628.1 bt628.2 true))))))
theorem laws_FnOrdFall.mono_l:∀ k,(∀ y0 y1 y2 y3 y4,LeO (laws_FnOrdFall.j0 k y0 y1 y2 y3 y4) (laws_FnOrdFall.j0 (k+1) y0 y1 y2 y3 y4))∧(∀ y0 y1 y2 y3 y4,LeO (laws_FnOrdFall.l0 k y0 y1 y2 y3 y4) (laws_FnOrdFall.l0 (k+1) y0 y1 y2 y3 y4))
 | 0=>⟨fun _ _ _ _ _ r h=>by simp[laws_FnOrdFall.j0] at h,fun _ _ _ _ _ r h=>by simp[laws_FnOrdFall.l0] at h⟩
 | k+1=>by
  obtain⟨ih0,ih1⟩:=laws_FnOrdFall.mono_l k
  refine⟨?_,?_⟩
  ·intro y0 y1 y2 y3 y4
   unfold laws_FnOrdFall.j0
   repeat' first|(with_reducible first|exact ih0 _ _ _ _ _|exact ih1 _ _ _ _ _|exact LeO.refl _|exact LeO.none _|refine LeO.ite ?_ ?_|refine LeO.bind ?_ (fun _=>?_))|exact ih0 _ _ _ _ _|exact ih1 _ _ _ _ _|exact LeO.none _|refine LeO.ite ?_ ?_|refine LeO.bind ?_ (fun _=>?_)
  ·intro y0 y1 y2 y3 y4
   unfold laws_FnOrdFall.l0
   repeat' first|(with_reducible first|exact ih1 _ _ _ _ _|exact impl_OrdCompare.mono _ _ _|exact laws_alive.mono _|exact LeO.refl _|exact LeO.none _|refine LeO.ite ?_ ?_|refine LeO.bind ?_ (fun _=>?_))|exact ih1 _ _ _ _ _|exact impl_OrdCompare.mono _ _ _|exact laws_alive.mono _|exact LeO.none _|refine LeO.ite ?_ ?_|refine LeO.bind ?_ (fun _=>?_)
theorem laws_FnOrdFall.mono:∀ a0 k,LeO (laws_FnOrdFall.f k a0) (laws_FnOrdFall.f (k+1) a0):=by
 intro a0 k
 obtain⟨ih0,ih1⟩:=laws_FnOrdFall.mono_l k
 unfold laws_FnOrdFall.f
 repeat' first|(with_reducible first|exact ih0 _ _ _ _ _|exact ih1 _ _ _ _ _|exact impl_OrdFall.mono _ _ _|exact laws_sameLists.mono _ _ _|exact spec_DrawOrdFall.mono _ _|exact spec_OrdFall.mono _ _ _|exact LeO.refl _|exact LeO.none _|refine LeO.ite ?_ ?_|refine LeO.bind ?_ (fun _=>?_))|exact ih0 _ _ _ _ _|exact ih1 _ _ _ _ _|exact impl_OrdFall.mono _ _ _|exact laws_sameLists.mono _ _ _|exact spec_DrawOrdFall.mono _ _|exact spec_OrdFall.mono _ _ _|exact LeO.none _|refine LeO.ite ?_ ?_|refine LeO.bind ?_ (fun _=>?_)
set_option maxHeartbeats 8000000 in
set_option maxRecDepth 100000 in
theorem laws_FnOrdFall.calls (k:Nat)(A0:Option Addr)(c0:Nat)(l0:List Int)(r:Bool)(w:World)(hr0:Kd.C (Kd.int .u8) w A0 l0.length l0)(hc0:l0.length≤c0)(h:laws_FnOrdFall.f k l0=some r) :
  Calls Try.prog 4 #[.slice A0 l0.length c0] w fun e w'=>e=.returned (.bool r)∧Below w.heap.size w w':=by
 have HR0:=Aside0.mk hr0
 have HC0:=Aside0.mk hc0
 clear hr0 hc0
 have HB:=Aside0.mk (Below.refl w.heap.size w)
 have H:(if(l0.length:Int)>1048576 then(some true) else((spec_DrawOrdFall.f k l0).bind fun bt622=>((impl_OrdFall.f k bt622.1 bt622.2).bind fun bt628=>((spec_OrdFall.f k bt622.1 bt622.2).bind fun bt632=>((laws_sameLists.f k bt628.1 bt632.1).bind fun t636=>(if t636=true then(laws_FnOrdFall.j0 k bt622.1 bt622.2 bt628.1 bt628.2 (bt628.2 != bt632.2)) else(laws_FnOrdFall.j0 k bt622.1 bt622.2 bt628.1 bt628.2 true)))))))=some r:=h
 clear h
 by_cases c2:(l0.length:Int)>1048576
 ·rw[if_pos c2] at H
  have c2b0:decide (1048576<(l0.length:Int))=true:=decide_eq_true c2
  have c2b1:decide (1048576<l0.length)=true:=decide_eq_true (by omega)
  clear c2
  obtain rfl:=Option.some.inj H
  go_enter Try.func4,Try.ntmps4
  go_wp2
  go_ret
  exact⟨by first|rfl|(simp[errW_none,errW_some]<;>rfl)|(simp[*,errW_none,errW_some]<;>rfl),bz⟩
 ·rw[if_neg c2] at H
  have c2b0:decide (1048576<(l0.length:Int))=false:=decide_eq_false c2
  have c2b1:decide (1048576<l0.length)=false:=decide_eq_false (by omega)
  clear c2
  replace H:=Option.bind_eq_some_iff.mp H
  obtain⟨⟨t622,t623⟩,A30,H⟩:=H
  replace H:((impl_OrdFall.f k t622 t623).bind fun bt628=>((spec_OrdFall.f k t622 t623).bind fun bt632=>((laws_sameLists.f k bt628.1 bt632.1).bind fun t636=>(if t636=true then(laws_FnOrdFall.j0 k t622 t623 bt628.1 bt628.2 (bt628.2 != bt632.2)) else(laws_FnOrdFall.j0 k t622 t623 bt628.1 bt628.2 true)))))=some r:=H
  have A3:=Aside0.mk A30
  clear A30
  replace H:=Option.bind_eq_some_iff.mp H
  obtain⟨⟨t628,t631⟩,A40,H⟩:=H
  replace H:((spec_OrdFall.f k t622 t623).bind fun bt632=>((laws_sameLists.f k t628 bt632.1).bind fun t636=>(if t636=true then(laws_FnOrdFall.j0 k t622 t623 t628 t631 (t631 != bt632.2)) else(laws_FnOrdFall.j0 k t622 t623 t628 t631 true))))=some r:=H
  have A4:=Aside0.mk A40
  clear A40
  replace H:=Option.bind_eq_some_iff.mp H
  obtain⟨⟨t632,t635⟩,A50,H⟩:=H
  replace H:((laws_sameLists.f k t628 t632).bind fun t636=>(if t636=true then(laws_FnOrdFall.j0 k t622 t623 t628 t631 (t631 != t635)) else(laws_FnOrdFall.j0 k t622 t623 t628 t631 true)))=some r:=H
  have A5:=Aside0.mk A50
  clear A50
  have HC6:=Aside0.mk H
  clear H
  go_enter Try.func4,Try.ntmps4
  go_upto_region 6 with (first|((with_reducible refine gate_callee (f:=13) rfl ?_);refine goesL_ (some 16) rfl rfl Try.func13 (by kernel_rfl) rfl #[.slice A0 l0.length c0] rfl az ?_;(with_reducible refine(spec_DrawOrdFall.calls k _ _ l0 t622 t623 _ ?side1 ?side2 A3.out).mono ?_);(case side1=>exact Kd.Cz HR0.out);(case side2=>exact HC0.out);rintro e w7 ⟨v624,v626,rfl,ho0,ho1,hb⟩;refine⟨_,rfl,?_⟩;have HO625:=Aside0.mk (Kd.R_lower ho0 (below_size bz));have HO627:=Aside0.mk (Kd.R_lower ho1 (below_size bz));replace HB:=Aside0.mk (below_step bz hb);(try clear hb);(try clear hb2);(try clear hk);(try clear hi);(try clear ho0);(try clear ho1);obtain⟨Ao8,co8,eo8⟩:=Kd.R_slice HO625.out;subst eo8;obtain⟨Ao9,co9,eo9⟩:=Kd.R_slice HO627.out;subst eo9)|((with_reducible refine gate_callee (f:=7) rfl ?_);refine goesL_ (some 22) rfl rfl Try.func7 (by kernel_rfl) rfl #[.slice Ao8 t622.length co8,.slice Ao9 t623.length co9] rfl az ?_;(with_reducible refine(impl_OrdFall.calls k _ _ t622 _ _ t623 t628 t631 _ ?side1 ?side2 ?side3 ?side4 A4.out).mono ?_);(case side1=>exact Kd.Cz (Kd.R_reads' HO625.out).2.2);(case side2=>exact(Kd.R_reads' HO625.out).2.1);(case side3=>exact Kd.Cz (Kd.R_reads' HO627.out).2.2);(case side4=>exact(Kd.R_reads' HO627.out).2.1);rintro e w10 ⟨v629,rfl,ho0,hb⟩;refine⟨_,rfl,?_⟩;have HO630:=Aside0.mk (Kd.N_lower (Kd.N_mono (ok':=fun k_=>some k_≠(.slice Ao8 t622.length co8:Value).ownBlock∧some k_≠(.slice Ao9 t623.length co9:Value).ownBlock) ho0 (fun k_ hk_=>⟨(Kd.fresh' (Kd.R_lt (Kd.Rz HO625.out)) k_ hk_),(Kd.fresh' (Kd.R_lt (Kd.Rz HO627.out)) k_ hk_)⟩)) (below_size bz));replace HO625:=Aside0.mk (Kd.R_below (Kd.Rz HO625.out) hb);replace HO627:=Aside0.mk (Kd.R_below (Kd.Rz HO627.out) hb);replace HB:=Aside0.mk (below_step bz hb);(try clear hb);(try clear hb2);(try clear hk);(try clear hi);(try clear ho0))|((with_reducible refine gate_callee (f:=5) rfl ?_);refine goesL_ (some 28) rfl rfl Try.func5 (by kernel_rfl) rfl #[.slice Ao8 t622.length co8,.slice Ao9 t623.length co9] rfl az ?_;(with_reducible refine(spec_OrdFall.calls k (fun k_=>some k_=(.slice Ao8 t622.length co8:Value).ownBlock) _ _ t622 _ _ t623 t632 t635 _ ?side1 ?side2 ?side3 A5.out).mono ?_);(case side1=>exact Kd.R_V (Kd.R_tight rfl (Kd.R_apart' (HO625.out) (Kd.N_typed HO630.out) (by decide))));(case side2=>exact Kd.Cz (Kd.R_reads' HO627.out).2.2);(case side3=>exact(Kd.R_reads' HO627.out).2.1);rintro e w11 ⟨v633,rfl,ho0,hb⟩;refine⟨_,rfl,?_⟩;have HO634:=Aside0.mk (Kd.N_lower (Kd.N_mono (ok':=fun k_=>some k_≠(.slice Ao9 t623.length co9:Value).ownBlock∧some k_≠(v629:Value).ownBlock) ho0 (fun k_ hk_=>⟨Or.elim hk_ (fun hs_=>((Kd.R_apart' (HO625.out) (Kd.N_typed HO630.out) (by decide)).1 k_ hs_.symm).1) (fun hn_=>(Kd.fresh' (Kd.R_lt (Kd.Rz HO627.out)) k_ hn_)),Or.elim hk_ (fun hs_=>((Kd.R_apart' (HO625.out) (Kd.N_typed HO630.out) (by decide)).1 k_ hs_.symm).2) (fun hn_=>(Kd.fresh' (Kd.N_lt (Kd.Nz HO630.out)) k_ hn_))⟩)) (below_size bz));replace HO625:=Aside0.mk (Kd.R_below (Kd.Rz HO625.out) hb);replace HO627:=Aside0.mk (Kd.R_below (Kd.Rz HO627.out) hb);replace HO630:=Aside0.mk (Kd.N_elder' (Kd.Nz HO630.out) (Kd.N_base ho0) hb);replace HB:=Aside0.mk (below_step bz hb);(try clear hb);(try clear hb2);(try clear hk);(try clear hi);(try clear ho0)))
  (try simp only[Act.put,List.setIfInBounds_toArray,List.set_cons_zero,List.set_cons_succ])
  go_cut [39] (fun v39 wc=>∃ (kq:Nat) (x39_5:Bool),v39=.bool x39_5∧Aside0 (laws_FnOrdFall.j0 kq t622 t623 t628 t631 x39_5=some r)∧Aside0 (kq≤k)∧Aside0 (Kd.R (Kd.int .i64) 3 wc w.heap.size (fun k_=>some k_≠((.slice Ao9 t623.length co9):Value).ownBlock) (.slice Ao8 t622.length co8) t622)∧Aside0 (Kd.R (Kd.int .i64) 3 wc w.heap.size (fun k_=>some k_≠((.slice Ao8 t622.length co8):Value).ownBlock) (.slice Ao9 t623.length co9) t623)∧Aside0 (Kd.N (Kd.slice 3 (Kd.int .i64)) 22 wc w.heap.size (fun k_=>some k_≠((.slice Ao8 t622.length co8):Value).ownBlock∧some k_≠((.slice Ao9 t623.length co9):Value).ownBlock) v629 t628)∧Aside0 (Below w.heap.size w wc))
  case first =>
   have H:=HC6.out
   clear HC6
   replace H:=Option.bind_eq_some_iff.mp H
   obtain⟨t636,A120,H⟩:=H
   replace H:(if t636=true then(laws_FnOrdFall.j0 k t622 t623 t628 t631 (t631 != t635)) else(laws_FnOrdFall.j0 k t622 t623 t628 t631 true))=some r:=H
   have A12:=Aside0.mk A120
   clear A120
   by_cases c13:t636=true
   ·subst c13
    have H1:(laws_FnOrdFall.j0 k t622 t623 t628 t631 (t631 != t635))=some r:=by rw[if_pos rfl] at H;exact H
    clear H
    have H:=H1
    clear H1
    have H':=Aside0.mk H
    clear H
    obtain⟨Ao14,co14,eo14⟩:=Kd.N_slice HO630.out
    subst eo14
    obtain⟨Ao15,co15,eo15⟩:=Kd.N_slice HO634.out
    subst eo15
    go_wp2_with (first|((with_reducible refine gate_callee (f:=14) rfl ?_);refine goesL_ (some 33) rfl rfl Try.func14 (by kernel_rfl) rfl #[.slice Ao14 t628.length co14,.slice Ao15 t632.length co15] rfl az ?_;(with_reducible refine(laws_sameLists.calls k _ _ t628 _ _ t632 true _ ?side1 ?side2 ?side3 ?side4 A12.out).mono ?_);(case side1=>exact Kd.Cz (Kd.N_reads' HO630.out).2.2);(case side2=>exact(Kd.N_reads' HO630.out).2.1);(case side3=>exact Kd.Cz (Kd.N_reads' HO634.out).2.2);(case side4=>exact(Kd.N_reads' HO634.out).2.1);rintro e w' ⟨rfl,⟨nd,rfl⟩⟩;refine⟨_,rfl,?_⟩))
    go_meet
    case rel=>exact⟨_,((t631 != t635)),(by first|rfl|(simp;done)|(simp[*];done)),H',⟨by first|omega|exact Nat.le_refl _⟩,⟨by(with_reducible repeat (first|apply Kd.R_alloc|apply Kd.R_drewN|apply Kd.R_drew));exact HO625.out⟩,⟨by(with_reducible repeat (first|apply Kd.R_alloc|apply Kd.R_drewN|apply Kd.R_drew));exact HO627.out⟩,⟨Kd.Nz <| Kd.N_mono HO630.out (fun _ hk=>⟨hk.1.1,hk.1.2⟩)⟩,⟨bz⟩⟩
   ·replace c13:=Bool.eq_false_iff.mpr c13
    subst c13
    have H1:(laws_FnOrdFall.j0 k t622 t623 t628 t631 true)=some r:=by rw[if_neg (show ¬ (false=true) by decide)] at H;exact H
    clear H
    have H:=H1
    clear H1
    have H':=Aside0.mk H
    clear H
    obtain⟨Ao16,co16,eo16⟩:=Kd.N_slice HO630.out
    subst eo16
    obtain⟨Ao17,co17,eo17⟩:=Kd.N_slice HO634.out
    subst eo17
    go_wp2_with (first|((with_reducible refine gate_callee (f:=14) rfl ?_);refine goesL_ (some 33) rfl rfl Try.func14 (by kernel_rfl) rfl #[.slice Ao16 t628.length co16,.slice Ao17 t632.length co17] rfl az ?_;(with_reducible refine(laws_sameLists.calls k _ _ t628 _ _ t632 false _ ?side1 ?side2 ?side3 ?side4 A12.out).mono ?_);(case side1=>exact Kd.Cz (Kd.N_reads' HO630.out).2.2);(case side2=>exact(Kd.N_reads' HO630.out).2.1);(case side3=>exact Kd.Cz (Kd.N_reads' HO634.out).2.2);(case side4=>exact(Kd.N_reads' HO634.out).2.1);rintro e w' ⟨rfl,⟨nd,rfl⟩⟩;refine⟨_,rfl,?_⟩))
    go_meet
    case rel=>exact⟨_,(true),(by first|rfl|(simp;done)|(simp[*];done)),H',⟨by first|omega|exact Nat.le_refl _⟩,⟨by(with_reducible repeat (first|apply Kd.R_alloc|apply Kd.R_drewN|apply Kd.R_drew));exact HO625.out⟩,⟨by(with_reducible repeat (first|apply Kd.R_alloc|apply Kd.R_drewN|apply Kd.R_drew));exact HO627.out⟩,⟨Kd.Nz <| Kd.N_mono HO630.out (fun _ hk=>⟨hk.1.1,hk.1.2⟩)⟩,⟨bz⟩⟩
  case rest =>
   clear HC6
   try clear c1
   try clear c2
   try clear c2b0
   try clear c2b1
   try clear p2
   try clear c4
   try clear c5
   try clear c7
   try clear c13
   try clear c14
   obtain⟨kq,x39_5,rfl,HA,HJ5,HO_3,HO_4,HO_5,HB⟩:=hcut
   cases kq with
   | zero=>exact absurd HA.out (by simp[laws_FnOrdFall.j0])
   | succ kj5 =>
    have H:=HA.out
    clear HA
    simp only[laws_FnOrdFall.j0] at H
    by_cases c18:x39_5=true
    ·subst c18
     have H1:(some false)=some r:=by rw[if_pos rfl] at H;exact H
     clear H
     have H:=H1
     clear H1
     obtain rfl:=Option.some.inj H
     go_wp2
     go_ret
     exact⟨by first|rfl|(simp[errW_none,errW_some]<;>rfl)|(simp[*,errW_none,errW_some]<;>rfl),bz⟩
    ·replace c18:=Bool.eq_false_iff.mpr c18
     subst c18
     have H1:(laws_FnOrdFall.l0 kj5 t623 t628 t631 t622 0)=some r:=by rw[if_neg (show ¬ (false=true) by decide)] at H;exact H
     clear H
     have H:=H1
     clear H1
     have H':=Aside0.mk H
     clear H
     go_wp2
     go_loopg [9,10] kj5 (fun kq v9 v10 w'=>∃ (x9_2:List Int) (x10_2:Int),v10=.int .i64 x10_2∧Aside0 (laws_FnOrdFall.l0 kq t623 t628 t631 x9_2 x10_2=some r)∧Aside0 (kq≤kj5)∧Aside0 (Kd.R (Kd.int .i64) 3 w' w.heap.size (fun _=>True) (.slice Ao9 t623.length co9) t623)∧Aside0 (Kd.N (Kd.slice 3 (Kd.int .i64)) 22 w' w.heap.size (fun k_=>some k_≠((.slice Ao9 t623.length co9):Value).ownBlock) v629 t628)∧Aside0 (Kd.V (Kd.int .i64) 3 w' w.heap.size (fun k_=>some k_≠((.slice Ao9 t623.length co9):Value).ownBlock∧some k_≠(v629:Value).ownBlock) v9 x9_2)∧Aside0 (Below w.heap.size w w'))
     case atStart=>exact⟨(t622),(0),(by first|rfl|(simp;done)|(simp[*];done)),H',⟨Nat.le_refl _⟩,⟨Kd.Rz <| Kd.R_mono HO_4.out (fun _ hk=>trivial)⟩,⟨Kd.Nz <| Kd.N_mono HO_5.out (fun _ hk=>hk.2)⟩,⟨Kd.R_V (by(with_reducible repeat (first|apply Kd.R_alloc|apply Kd.R_drewN|apply Kd.R_drew));exact(Kd.R_apart' HO_3.out (Kd.N_typed HO_5.out) (by decide)))⟩,⟨bz⟩⟩
     case round =>
      clear H'
      try clear c1
      try clear c2
      try clear c2b0
      try clear c2b1
      try clear p2
      try clear c4
      try clear c5
      try clear c7
      try clear c13
      try clear c14
      try clear c18
      try clear p2
      obtain⟨x9_2,x10_2,rfl,HA,HK2,HO_4,HO_5,HO_9,HB⟩:=hrel
      cases gk with
      | zero=>exact absurd HA.out (by simp[laws_FnOrdFall.l0])
      | succ k2 =>
       have H:=HA.out
       clear HA
       simp only[laws_FnOrdFall.l0] at H
       by_cases c19:x10_2<(t628.length:Int)
       ·rw[if_pos c19] at H
        have c19b0:decide (x10_2<(t628.length:Int))=true:=decide_eq_true c19
        clear c19
        by_cases c20:0≤x10_2
        ·rw[if_pos c20] at H
         have c20b0:decide (0≤x10_2)=true:=decide_eq_true c20
         clear c20
         replace H:=Option.bind_eq_some_iff.mp H
         obtain⟨t638,A210,H⟩:=H
         replace H:(if t638=(-1) then(laws_FnOrdFall.l0 k2 t623 t628 t631 (rd_L1 t628 x10_2) (wrap64 (x10_2+1))) else(some false))=some r:=H
         have A21:=Aside0.mk A210
         clear A210
         by_cases c22:t638=(-1)
         ·rw[if_pos c22] at H
          have c22b0:(t638 == (-1))=true:=beq_iff_eq.mpr c22
          have c22b1:(t638 != (-1))=false:=bne_eq_false_iff_eq.mpr c22
          clear c22
          have H':=Aside0.mk H
          clear H
          obtain⟨Ao23,co23,eo23⟩:=Kd.N_slice HO_5.out
          subst eo23
          have p637:0≤(x10_2:Int):=dz
          have q637:x10_2<(t628.length:Int):=dz
          obtain⟨ad637,A637_0,c637_0,e637,hx637_0,hl637_0,hi637_0⟩:=at_L1 (Kd.N_reads' HO_5.out).2.2 x10_2 p637 q637
          cases e637
          obtain⟨ce637,hce637,hMe637,hcc637⟩:=Kd.N_get HO_5.out [] x10_2 p637 (by first|exact q637|exact dz|(have e_:=(Kd.N_reads' HO_5.out).1;omega))
          obtain⟨ua637_0,uc637_0,rfl,ul637_0,ge637_0⟩:=Kd.FK_slice_open hMe637
          have hv637_0:=hcc637 0 _ rfl
          rw[Nat.add_zero,show ((Kd.slice 3 (Kd.int .i64))).sz=1 from rfl,Nat.mul_one] at hv637_0
          replace hv637_0:=Option.some.inj (hv637_0.symm.trans hx637_0)
          injection hv637_0 with hva_ hvn_ hvc_
          rw[hva_] at ge637_0
          rw[hvc_] at ul637_0
          have HL637_0:=Aside0.mk (show Kd.V (Kd.int .i64) 3 _ w.heap.size _ _ (rd_L1 t628 x10_2) from Kd.V_mk ul637_0 ge637_0)
          clear hva_ hvn_ hvc_ ge637_0 ul637_0
          clear hcc637 hce637
          have HR637_0:=Aside0.mk hi637_0
          have HC637_0:=Aside0.mk hl637_0
          clear hi637_0 hl637_0
          replace p637:=eq_true p637
          replace q637:=eq_true q637
          obtain⟨Ao24,co24,eo24⟩:=Kd.V_slice HO_9.out
          subst eo24
          go_wp2_with (first|((with_reducible refine gate_callee (f:=15) rfl ?_);refine goesL_ (some 52) rfl rfl Try.func15 (by kernel_rfl) rfl #[.slice A637_0 (rd_L1 t628 x10_2).length c637_0,.slice Ao24 x9_2.length co24] rfl az ?_;(with_reducible refine(impl_OrdCompare.calls k2 _ _ (rd_L1 t628 x10_2) _ _ x9_2 t638 _ ?side1 ?side2 ?side3 ?side4 A21.out).mono ?_);(case side1=>repeat (first|exact(by repeat (first|(with_reducible exact HR637_0.out)|(with_reducible refine Kd.C_alloc ?_ _)|(with_reducible refine Kd.C_drewN ?_ _)|(with_reducible refine Kd.C_drew ?_)|exact HR637_0.out))|(with_reducible refine Kd.C_alloc ?_ _)|(with_reducible refine Kd.C_drewN ?_ _)|(with_reducible refine Kd.C_drew ?_)));(case side2=>exact HC637_0.out);(case side3=>exact Kd.Cz (Kd.V_reads' HO_9.out).2.2);(case side4=>exact(Kd.V_reads' HO_9.out).2.1);rintro e w25 ⟨rfl,hb⟩;refine⟨_,rfl,?_⟩;replace HO_4:=Aside0.mk (Kd.R_below (Kd.Rz HO_4.out) hb);replace HO_5:=Aside0.mk (Kd.N_below (Kd.Nz HO_5.out) hb);replace HO_9:=Aside0.mk (Kd.V_below (Kd.Vz HO_9.out) hb);replace HL637_0:=Aside0.mk (Kd.V_below (Kd.Vz HL637_0.out) hb);replace HR637_0:=Aside0.mk (Kd.C_below (by repeat (first|(with_reducible exact HR637_0.out)|(with_reducible refine Kd.C_alloc ?_ _)|(with_reducible refine Kd.C_drewN ?_ _)|(with_reducible refine Kd.C_drew ?_)|exact HR637_0.out)) hb);replace HB:=Aside0.mk (below_step bz hb);(try clear hb);(try clear hb2);(try clear hk);(try clear hi);have p639:0≤(x10_2:Int):=dz;have q639:x10_2<(t628.length:Int):=dz;obtain⟨ad639,A639_0,c639_0,e639,hx639_0,hl639_0,hi639_0⟩:=at_L1 (Kd.N_reads' HO_5.out).2.2 x10_2 p639 q639;obtain rfl:ad637=ad639:=(by injection e639);obtain⟨ce639,hce639,hMe639,hcc639⟩:=Kd.N_get HO_5.out [] x10_2 p639 (by first|exact q639|exact dz|(have e_:=(Kd.N_reads' HO_5.out).1;omega));obtain⟨ua639_0,uc639_0,rfl,ul639_0,ge639_0⟩:=Kd.FK_slice_open hMe639;have hv639_0:=hcc639 0 _ rfl;rw[Nat.add_zero,show ((Kd.slice 3 (Kd.int .i64))).sz=1 from rfl,Nat.mul_one] at hv639_0;replace hv639_0:=Option.some.inj (hv639_0.symm.trans hx639_0);injection hv639_0 with hva_ hvn_ hvc_;rw[hva_] at ge639_0;rw[hvc_] at ul639_0;have HL639_0:=Aside0.mk (show Kd.V (Kd.int .i64) 3 _ w.heap.size _ _ (rd_L1 t628 x10_2) from Kd.V_mk ul639_0 ge639_0);clear hva_ hvn_ hvc_ ge639_0 ul639_0;clear hcc639 hce639;have HR639_0:=Aside0.mk hi639_0;have HC639_0:=Aside0.mk hl639_0;clear hi639_0 hl639_0;replace p639:=eq_true p639;replace q639:=eq_true q639))
          go_roundg k2
          case measure=>have:=HJ5.out;have:=HK2.out;omega
          case rel=>exact⟨(rd_L1 t628 x10_2),(wrap64 (x10_2+1)),(by first|rfl|(simp;done)|(simp[*];done)),H',⟨by have:=HJ5.out;have:=HK2.out;omega⟩,⟨by(with_reducible repeat (first|apply Kd.R_alloc|apply Kd.R_drewN|apply Kd.R_drew));exact HO_4.out⟩,⟨by(with_reducible repeat (first|apply Kd.N_alloc|apply Kd.N_drewN|apply Kd.N_drew));exact HO_5.out⟩,⟨by(with_reducible repeat (first|apply Kd.V_alloc|apply Kd.V_drewN|apply Kd.V_drew));exact HL639_0.out⟩,⟨bz⟩⟩
         ·rw[if_neg c22] at H
          have c22b0:(t638 == (-1))=false:=beq_eq_false_iff_ne.mpr c22
          have c22b1:(t638 != (-1))=true:=bne_iff_ne.mpr c22
          obtain rfl:=Option.some.inj H
          obtain⟨Ao26,co26,eo26⟩:=Kd.N_slice HO_5.out
          subst eo26
          have p637:0≤(x10_2:Int):=dz
          have q637:x10_2<(t628.length:Int):=dz
          obtain⟨ad637,A637_0,c637_0,e637,hx637_0,hl637_0,hi637_0⟩:=at_L1 (Kd.N_reads' HO_5.out).2.2 x10_2 p637 q637
          cases e637
          obtain⟨ce637,hce637,hMe637,hcc637⟩:=Kd.N_get HO_5.out [] x10_2 p637 (by first|exact q637|exact dz|(have e_:=(Kd.N_reads' HO_5.out).1;omega))
          obtain⟨ua637_0,uc637_0,rfl,ul637_0,ge637_0⟩:=Kd.FK_slice_open hMe637
          have hv637_0:=hcc637 0 _ rfl
          rw[Nat.add_zero,show ((Kd.slice 3 (Kd.int .i64))).sz=1 from rfl,Nat.mul_one] at hv637_0
          replace hv637_0:=Option.some.inj (hv637_0.symm.trans hx637_0)
          injection hv637_0 with hva_ hvn_ hvc_
          rw[hva_] at ge637_0
          rw[hvc_] at ul637_0
          have HL637_0:=Aside0.mk (show Kd.V (Kd.int .i64) 3 _ w.heap.size _ _ (rd_L1 t628 x10_2) from Kd.V_mk ul637_0 ge637_0)
          clear hva_ hvn_ hvc_ ge637_0 ul637_0
          clear hcc637 hce637
          have HR637_0:=Aside0.mk hi637_0
          have HC637_0:=Aside0.mk hl637_0
          clear hi637_0 hl637_0
          replace p637:=eq_true p637
          replace q637:=eq_true q637
          obtain⟨Ao27,co27,eo27⟩:=Kd.V_slice HO_9.out
          subst eo27
          go_wp2_with (first|((with_reducible refine gate_callee (f:=15) rfl ?_);refine goesL_ (some 52) rfl rfl Try.func15 (by kernel_rfl) rfl #[.slice A637_0 (rd_L1 t628 x10_2).length c637_0,.slice Ao27 x9_2.length co27] rfl az ?_;(with_reducible refine(impl_OrdCompare.calls k2 _ _ (rd_L1 t628 x10_2) _ _ x9_2 t638 _ ?side1 ?side2 ?side3 ?side4 A21.out).mono ?_);(case side1=>repeat (first|exact(by repeat (first|(with_reducible exact HR637_0.out)|(with_reducible refine Kd.C_alloc ?_ _)|(with_reducible refine Kd.C_drewN ?_ _)|(with_reducible refine Kd.C_drew ?_)|exact HR637_0.out))|(with_reducible refine Kd.C_alloc ?_ _)|(with_reducible refine Kd.C_drewN ?_ _)|(with_reducible refine Kd.C_drew ?_)));(case side2=>exact HC637_0.out);(case side3=>exact Kd.Cz (Kd.V_reads' HO_9.out).2.2);(case side4=>exact(Kd.V_reads' HO_9.out).2.1);rintro e w28 ⟨rfl,hb⟩;refine⟨_,rfl,?_⟩;replace HO_4:=Aside0.mk (Kd.R_below (Kd.Rz HO_4.out) hb);replace HO_5:=Aside0.mk (Kd.N_below (Kd.Nz HO_5.out) hb);replace HO_9:=Aside0.mk (Kd.V_below (Kd.Vz HO_9.out) hb);replace HL637_0:=Aside0.mk (Kd.V_below (Kd.Vz HL637_0.out) hb);replace HR637_0:=Aside0.mk (Kd.C_below (by repeat (first|(with_reducible exact HR637_0.out)|(with_reducible refine Kd.C_alloc ?_ _)|(with_reducible refine Kd.C_drewN ?_ _)|(with_reducible refine Kd.C_drew ?_)|exact HR637_0.out)) hb);replace HB:=Aside0.mk (below_step bz hb);(try clear hb);(try clear hb2);(try clear hk);(try clear hi)))
          go_ret
          exact⟨by first|rfl|(simp[errW_none,errW_some]<;>rfl)|(simp[*,errW_none,errW_some]<;>rfl),bz⟩
        ·rw[if_neg c20] at H
         exact absurd H (by simp)
       ·rw[if_neg c19] at H
        have c19b0:decide (x10_2<(t628.length:Int))=false:=decide_eq_false c19
        clear c19
        by_cases c29:(t628.length:Int)≤(t623.length:Int)
        ·rw[if_pos c29] at H
         have c29b0:decide ((t628.length:Int)≤(t623.length:Int))=true:=decide_eq_true c29
         have c29b1:decide (t628.length≤t623.length)=true:=decide_eq_true (Int.ofNat_le.mp c29)
         clear c29
         by_cases c30:t631=true
         ·subst c30
          have H1:((laws_alive.f k2).bind fun t640=>(some t640))=some r:=by rw[if_pos rfl] at H;exact H
          clear H
          have H:=H1
          clear H1
          replace H:=Option.bind_eq_some_iff.mp H
          obtain⟨t640,A310,H⟩:=H
          replace H:(some t640)=some r:=H
          have A31:=Aside0.mk A310
          clear A310
          obtain rfl:=Option.some.inj H
          obtain⟨Ao32,co32,eo32⟩:=Kd.N_slice HO_5.out
          subst eo32
          go_wp2_with (first|(go_at_call 16;(with_reducible refine(laws_alive.calls k2  t640 _ A31.out).mono ?_);rintro e w33 ⟨rfl,hb⟩;replace HO_4:=Aside0.mk (Kd.R_below (Kd.Rz HO_4.out) hb);replace HO_5:=Aside0.mk (Kd.N_below (Kd.Nz HO_5.out) hb);replace HO_9:=Aside0.mk (Kd.V_below (Kd.Vz HO_9.out) hb);replace HB:=Aside0.mk (below_step bz hb);(try clear hb);(try clear hb2);(try clear hk);(try clear hi)))
          go_ret
          exact⟨by first|rfl|(simp[errW_none,errW_some]<;>rfl)|(simp[*,errW_none,errW_some]<;>rfl),bz⟩
         ·replace c30:=Bool.eq_false_iff.mpr c30
          subst c30
          have H1:(if(t628.length:Int)=0 then((laws_alive.f k2).bind fun t641=>(some t641)) else(some false))=some r:=by rw[if_neg (show ¬ (false=true) by decide)] at H;exact H
          clear H
          have H:=H1
          clear H1
          by_cases c34:(t628.length:Int)=0
          ·rw[if_pos c34] at H
           have c34b0:((t628.length:Int) == 0)=true:=beq_iff_eq.mpr c34
           have c34b1:((t628.length:Int) != 0)=false:=bne_eq_false_iff_eq.mpr c34
           clear c34
           replace H:=Option.bind_eq_some_iff.mp H
           obtain⟨t641,A350,H⟩:=H
           replace H:(some t641)=some r:=H
           have A35:=Aside0.mk A350
           clear A350
           obtain rfl:=Option.some.inj H
           obtain⟨Ao36,co36,eo36⟩:=Kd.N_slice HO_5.out
           subst eo36
           go_wp2_with (first|(go_at_call 16;(with_reducible refine(laws_alive.calls k2  t641 _ A35.out).mono ?_);rintro e w37 ⟨rfl,hb⟩;replace HO_4:=Aside0.mk (Kd.R_below (Kd.Rz HO_4.out) hb);replace HO_5:=Aside0.mk (Kd.N_below (Kd.Nz HO_5.out) hb);replace HO_9:=Aside0.mk (Kd.V_below (Kd.Vz HO_9.out) hb);replace HB:=Aside0.mk (below_step bz hb);(try clear hb);(try clear hb2);(try clear hk);(try clear hi)))
           go_ret
           exact⟨by first|rfl|(simp[errW_none,errW_some]<;>rfl)|(simp[*,errW_none,errW_some]<;>rfl),bz⟩
          ·rw[if_neg c34] at H
           have c34b0:((t628.length:Int) == 0)=false:=beq_eq_false_iff_ne.mpr c34
           have c34b1:((t628.length:Int) != 0)=true:=bne_iff_ne.mpr c34
           have c34b2:¬ (t628=[]):=fun h_=>c34 (by rw[h_];rfl)
           obtain rfl:=Option.some.inj H
           obtain⟨Ao38,co38,eo38⟩:=Kd.N_slice HO_5.out
           subst eo38
           go_wp2
           go_ret
           exact⟨by first|rfl|(simp[errW_none,errW_some]<;>rfl)|(simp[*,errW_none,errW_some]<;>rfl),bz⟩
        ·rw[if_neg c29] at H
         have c29b0:decide ((t628.length:Int)≤(t623.length:Int))=false:=decide_eq_false c29
         have c29b1:decide (t628.length≤t623.length)=false:=decide_eq_false (fun h=>c29 (Int.ofNat_le.mpr h))
         clear c29
         obtain rfl:=Option.some.inj H
         obtain⟨Ao39,co39,eo39⟩:=Kd.N_slice HO_5.out
         subst eo39
         go_wp2
         go_ret
         exact⟨by first|rfl|(simp[errW_none,errW_some]<;>rfl)|(simp[*,errW_none,errW_some]<;>rfl),bz⟩
/-- THE ONE PURE STATEMENT of laws_FnOrdFall: yours. -/
def laws_FnOrdFall.Pure:Prop:=∀ (l0:List Int),l0.length≤maxLen→l0.length*1≤140737488351232→(∀ x ∈ l0,(Lit.int .u8 x).wf=true)→∃ k,laws_FnOrdFall.f k l0=some true
theorem laws_FnOrdFall.walk (P:laws_FnOrdFall.Pure)(a0:Option Addr)(len0 cap0:Nat)(z0:List Int)(w:World)(w0:(a0=none∧len0=0∧cap0=0∧z0=[])∨∃ x,a0=some x∧len0≤cap0∧cap0≤maxLen∧z0.length=cap0∧(∀ i,i<z0.length→w.cell? (x.add i)=some (.int .u8 (z0.getD i 0)))∧∀ n ∈ z0,(Lit.int .u8 n).wf=true)(y0:len0*1≤140737488351232) :
  Calls Try.prog 4 #[.slice a0 len0 cap0] w fun e w'=>e=.returned (.bool true)∧Below w.heap.size w w':=by
 obtain⟨l0,rfl,hr0,hm0,hw0,hc0⟩:=ReadsInt.ofRowC w0
 obtain⟨k,h⟩:=P l0 hm0 y0 hw0
 refine(laws_FnOrdFall.calls k _ _ l0 true w (Kd.C_of_reads (d:=(0:Int)) (h1:=fun _=>rfl) hr0) hc0 h).mono ?_
 rintro e w' ⟨rfl,hd⟩
 exact⟨rfl,hd⟩
end Go.Proofs.Ytfkecmnklpjelaa.P