/- One Go function comes to what its Lean function tells. -/
import Derived.Test.YtfkecmnklpjelaaP0
import Derived.Test.YtfkecmnklpjelaaPspecOrdStep
import Derived.Test.YtfkecmnklpjelaaPspecOrdValid
import Derived.Test.YtfkecmnklpjelaaPspecl1In
namespace Go.Proofs.Ytfkecmnklpjelaa.P
open Go.RowKit YtfkecmnklpjelaaW.PrintWords YtfkecmnklpjelaaW.PrintLast YtfkecmnklpjelaaW.PrintMore
set_option linter.unusedVariables false
set_option linter.unusedSimpArgs false
/-! ### spec_OrdFall: function 5 (by hand) -/
mutual
def spec_OrdFall.j0:Nat→List Int→List Int→List (List Int)→Bool→Option ((List (List Int)) × Bool)
 | 0,_,_,_,_=>none
 | k+1,x0,x1,x6,x19=>if x19=true then(some (x6,false)) else(spec_OrdFall.l0 k x0 x1 x6 0)
def spec_OrdFall.l0:Nat→List Int→List Int→List (List Int)→Int→Option ((List (List Int)) × Bool)
 | 0,_,_,_,_=>none
 | k+1,x0,x1,x6,x7=>if x7<(x1.length:Int) then(if 0≤x7 then((spec_l1In.f (rd x1 x7) 0 99).bind fun t278=>(if t278=true then(spec_OrdFall.l0 k x0 x1 x6 (wrap64 (x7+1))) else(some (x6,false)))) else(none)) else(spec_OrdFall.l1 k x0 x1 x6 0)
def spec_OrdFall.l1:Nat→List Int→List Int→List (List Int)→Int→Option ((List (List Int)) × Bool)
 | 0,_,_,_,_=>none
 | k+1,x0,x1,x6,x8=>if x8<(x1.length:Int) then(spec_OrdFall.j3 k x0 x1 x6 x8 (decide ((x0.length:Int)>1))) else(spec_OrdFall.j3 k x0 x1 x6 x8 false)
def spec_OrdFall.j3:Nat→List Int→List Int→List (List Int)→Int→Bool→Option ((List (List Int)) × Bool)
 | 0,_,_,_,_,_=>none
 | k+1,x0,x1,x6,x8,x42=>if x42=true then(if 0≤x8 then(if x8<(x1.length:Int) then((spec_OrdStep.f k x0 (rd x1 x8)).bind fun bt280=>(if bt280.2=true then(if x6.length<5864062014805 then(spec_OrdFall.l1 k bt280.1 x1 (x6++[bt280.1]) (wrap64 (x8+1))) else(none)) else(some ((([]:List (List Int))),false)))) else(none)) else(none)) else(some (x6,true))
end
def spec_OrdFall.f (k:Nat)(l0:List Int)(l1:List Int):Option ((List (List Int)) × Bool):=(some (([]:List (List Int)):List (List Int))).bind fun y273=>((spec_OrdValid.f k l0).bind fun t276=>(if t276=true then(spec_OrdFall.j0 k l0 l1 y273 (decide ((l1.length:Int)>3000))) else(spec_OrdFall.j0 k l0 l1 y273 true)))
theorem spec_OrdFall.mono_l:∀ k,(∀ y0 y1 y2 y3,LeO (spec_OrdFall.j0 k y0 y1 y2 y3) (spec_OrdFall.j0 (k+1) y0 y1 y2 y3))∧(∀ y0 y1 y2 y3,LeO (spec_OrdFall.l0 k y0 y1 y2 y3) (spec_OrdFall.l0 (k+1) y0 y1 y2 y3))∧(∀ y0 y1 y2 y3,LeO (spec_OrdFall.l1 k y0 y1 y2 y3) (spec_OrdFall.l1 (k+1) y0 y1 y2 y3))∧(∀ y0 y1 y2 y3 y4,LeO (spec_OrdFall.j3 k y0 y1 y2 y3 y4) (spec_OrdFall.j3 (k+1) y0 y1 y2 y3 y4))
 | 0=>⟨fun _ _ _ _ r h=>by simp[spec_OrdFall.j0] at h,fun _ _ _ _ r h=>by simp[spec_OrdFall.l0] at h,fun _ _ _ _ r h=>by simp[spec_OrdFall.l1] at h,fun _ _ _ _ _ r h=>by simp[spec_OrdFall.j3] at h⟩
 | k+1=>by
  obtain⟨ih0,ih1,ih2,ih3⟩:=spec_OrdFall.mono_l k
  refine⟨?_,?_,?_,?_⟩
  ·intro y0 y1 y2 y3
   unfold spec_OrdFall.j0
   repeat' first|(with_reducible first|exact ih0 _ _ _ _|exact ih1 _ _ _ _|exact LeO.refl _|exact LeO.none _|refine LeO.ite ?_ ?_|refine LeO.bind ?_ (fun _=>?_))|exact ih0 _ _ _ _|exact ih1 _ _ _ _|exact LeO.none _|refine LeO.ite ?_ ?_|refine LeO.bind ?_ (fun _=>?_)
  ·intro y0 y1 y2 y3
   unfold spec_OrdFall.l0
   repeat' first|(with_reducible first|exact ih1 _ _ _ _|exact ih2 _ _ _ _|exact LeO.refl _|exact LeO.none _|refine LeO.ite ?_ ?_|refine LeO.bind ?_ (fun _=>?_))|exact ih1 _ _ _ _|exact ih2 _ _ _ _|exact LeO.none _|refine LeO.ite ?_ ?_|refine LeO.bind ?_ (fun _=>?_)
  ·intro y0 y1 y2 y3
   unfold spec_OrdFall.l1
   repeat' first|(with_reducible first|exact ih2 _ _ _ _|exact ih3 _ _ _ _ _|exact LeO.refl _|exact LeO.none _|refine LeO.ite ?_ ?_|refine LeO.bind ?_ (fun _=>?_))|exact ih2 _ _ _ _|exact ih3 _ _ _ _ _|exact LeO.none _|refine LeO.ite ?_ ?_|refine LeO.bind ?_ (fun _=>?_)
  ·intro y0 y1 y2 y3 y4
   unfold spec_OrdFall.j3
   repeat' first|(with_reducible first|exact ih2 _ _ _ _|exact ih3 _ _ _ _ _|exact spec_OrdStep.mono _ _ _|exact LeO.refl _|exact LeO.none _|refine LeO.ite ?_ ?_|refine LeO.bind ?_ (fun _=>?_))|exact ih2 _ _ _ _|exact ih3 _ _ _ _ _|exact spec_OrdStep.mono _ _ _|exact LeO.none _|refine LeO.ite ?_ ?_|refine LeO.bind ?_ (fun _=>?_)
theorem spec_OrdFall.mono:∀ a0 a1 k,LeO (spec_OrdFall.f k a0 a1) (spec_OrdFall.f (k+1) a0 a1):=by
 intro a0 a1 k
 obtain⟨ih0,ih1,ih2,ih3⟩:=spec_OrdFall.mono_l k
 unfold spec_OrdFall.f
 repeat' first|(with_reducible first|exact ih0 _ _ _ _|exact ih1 _ _ _ _|exact ih2 _ _ _ _|exact ih3 _ _ _ _ _|exact spec_OrdValid.mono _ _|exact LeO.refl _|exact LeO.none _|refine LeO.ite ?_ ?_|refine LeO.bind ?_ (fun _=>?_))|exact ih0 _ _ _ _|exact ih1 _ _ _ _|exact ih2 _ _ _ _|exact ih3 _ _ _ _ _|exact spec_OrdValid.mono _ _|exact LeO.none _|refine LeO.ite ?_ ?_|refine LeO.bind ?_ (fun _=>?_)
set_option maxHeartbeats 8000000 in
set_option maxRecDepth 100000 in
theorem spec_OrdFall.calls0 (k:Nat)(P0_:Nat→Prop)(A0:Option Addr)(c0:Nat)(l0:List Int)(A1:Option Addr)(c1:Nat)(l1:List Int)(r1:List (List Int))(r2:Bool)(w:World)(hs0:Kd.V (Kd.int .i64) 3 w w.heap.size (fun k_=>P0_ k_) (.slice A0 l0.length c0) l0)(hr1:Kd.C (Kd.int .i64) w A1 l1.length l1)(hc1:l1.length≤c1)(h:spec_OrdFall.f k l0 l1=some (r1,r2)) :
  Calls Try.prog 5 #[.slice A0 l0.length c0,.slice A1 l1.length c1] w fun e w'=>∃ v0_:Value,e=.returned (.tuple #[v0_,.bool r2])∧Kd.S (Kd.slice 3 (Kd.int .i64)) 22 w' w.heap.size (fun k_=>(w.heap.size≤k_)) v0_ r1∧Below w.heap.size w w':=by
 have HO0:=Sd.mk (show Kd.V (Kd.int .i64) 3 w w.heap.size (fun k_=>(P0_ k_∨w.heap.size≤k_)) (.slice A0 l0.length c0) l0 from Kd.V_mono hs0 (fun k_ hk=>.inl hk))
 have HR1:=Sd.mk hr1
 have HC1:=Sd.mk hc1
 clear hr1 hc1
 have HB:=Sd.mk (Below.refl w.heap.size w)
 have H:((some (([]:List (List Int)):List (List Int))).bind fun y273=>((spec_OrdValid.f k l0).bind fun t276=>(if t276=true then(spec_OrdFall.j0 k l0 l1 y273 (decide ((l1.length:Int)>3000))) else(spec_OrdFall.j0 k l0 l1 y273 true))))=some (r1,r2):=h
 clear h
 obtain⟨y273,hy273⟩:∃ y_:List (List Int),y_=(([]:List (List Int))):=⟨_,rfl⟩
 replace H:((spec_OrdValid.f k l0).bind fun t276=>(if t276=true then(spec_OrdFall.j0 k l0 l1 y273 (decide ((l1.length:Int)>3000))) else(spec_OrdFall.j0 k l0 l1 y273 true)))=some (r1,r2):=hz hy273 H
 have Ny273:=Sd.mk hy273
 clear hy273
 have HC3:=Sd.mk H
 clear H
 go_enter Try.func5,Try.ntmps5
 go_upto_region 2 with (first|((with_reducible refine gate_dst (N:=11) rfl ?_);refine Kd.S_lit (Kd.slice 3 (Kd.int .i64)) _ 22 ?hg (N:=11) ?hd (xs:=([]:List (List Int))) (inner:=[]) (ok:=fun _=>True) (okp:=fun _=>True) ?hr ?hp (fun _ hk=>hk) trivial (Below.refl _ _) (Nat.le_refl _) (by simp) ?_;(case hd=>rfl);(case hg=>rfl);(case hr=>first|(go_simp;done)|(go_simp;rfl));(case hp=>exact(Reps.none _ _));intro v274 w4 ho5 hb hg_ hnew_;clear hg_ hnew_;(first|rw[← Ny273.out] at ho5|(simp only[Int.reduceToNat] at ho5;rw[← Ny273.out] at ho5));replace HO0:=Sd.mk (Kd.V_elder' (Kd.Vz HO0.out) (Kd.S_base ho5) hb);have HO275:=Sd.mk (Kd.S_lower (Kd.S_newM (M:=fun k_=>(w.heap.size≤k_)) ho5 (below_size bz) (fun k_ h_=>h_)) (below_size bz));replace HB:=Sd.mk (below_step bz hb);clear hb ho5))
 (try simp only[Act.put,List.setIfInBounds_toArray,List.set_cons_zero,List.set_cons_succ])
 go_cut [19] (fun v19 wc=>∃ (kq:Nat) (x19_2:Bool),v19=.bool x19_2∧Sd (spec_OrdFall.j0 kq l0 l1 y273 x19_2=some (r1,r2))∧Sd (kq≤k)∧Sd (Kd.V (Kd.int .i64) 3 wc w.heap.size (fun k_=>(P0_ k_∨w.heap.size≤k_)∧some k_≠(v274:Value).ownBlock) (.slice A0 l0.length c0) l0)∧Sd (Kd.S (Kd.slice 3 (Kd.int .i64)) 22 wc w.heap.size (fun k_=>(w.heap.size≤k_)) v274 y273)∧Sd (Below w.heap.size w wc))
 case first =>
  have H:=HC3.out
  clear HC3
  replace H:=Option.bind_eq_some_iff.mp H
  obtain⟨t276,A60,H⟩:=H
  replace H:(if t276=true then(spec_OrdFall.j0 k l0 l1 y273 (decide ((l1.length:Int)>3000))) else(spec_OrdFall.j0 k l0 l1 y273 true))=some (r1,r2):=H
  have A6:=Sd.mk A60
  clear A60
  by_cases c7:t276=true
  ·subst c7
   have H1:(spec_OrdFall.j0 k l0 l1 y273 (decide ((l1.length:Int)>3000)))=some (r1,r2):=by rw[if_pos rfl] at H;exact H
   clear H
   have H:=H1
   clear H1
   have H':=Sd.mk H
   clear H
   go_wp2_with (first|((with_reducible refine gate_callee (f:=17) rfl ?_);refine goesL_ (some 13) rfl rfl Try.func17 (by kernel_rfl) rfl #[.slice A0 l0.length c0] rfl az ?_;(with_reducible refine(spec_OrdValid.calls k _ _ l0 true _ ?side1 ?side2 A6.out).mono ?_);(case side1=>exact Kd.Cz (Kd.V_reads' HO0.out).2.2);(case side2=>exact(Kd.V_reads' HO0.out).2.1);rintro e w8 ⟨rfl,hb⟩;refine⟨_,rfl,?_⟩;replace HO0:=Sd.mk (Kd.V_below (Kd.Vz HO0.out) hb);replace HO275:=Sd.mk (Kd.S_below (by(with_reducible repeat (first|apply Kd.S_alloc|apply Kd.S_drewN|apply Kd.S_drew));exact HO275.out) hb);replace HB:=Sd.mk (below_step bz hb);(try clear hb);(try clear hb2);(try clear hk);(try clear hi)))
   go_meet
   case rel=>exact⟨_,(decide ((l1.length:Int)>3000)),(by first|rfl|(simp;done)|(simp[*];done)),H',⟨by first|omega|exact Nat.le_refl _⟩,⟨by(with_reducible repeat (first|apply Kd.V_alloc|apply Kd.V_drewN|apply Kd.V_drew));exact HO0.out⟩,⟨by(with_reducible repeat (first|apply Kd.S_alloc|apply Kd.S_drewN|apply Kd.S_drew));exact Kd.S_mono HO275.out (fun _ hk=>hk.1)⟩,⟨bz⟩⟩
  ·replace c7:=Bool.eq_false_iff.mpr c7
   subst c7
   have H1:(spec_OrdFall.j0 k l0 l1 y273 true)=some (r1,r2):=by rw[if_neg (show ¬ (false=true) by decide)] at H;exact H
   clear H
   have H:=H1
   clear H1
   have H':=Sd.mk H
   clear H
   go_wp2_with (first|((with_reducible refine gate_callee (f:=17) rfl ?_);refine goesL_ (some 13) rfl rfl Try.func17 (by kernel_rfl) rfl #[.slice A0 l0.length c0] rfl az ?_;(with_reducible refine(spec_OrdValid.calls k _ _ l0 false _ ?side1 ?side2 A6.out).mono ?_);(case side1=>exact Kd.Cz (Kd.V_reads' HO0.out).2.2);(case side2=>exact(Kd.V_reads' HO0.out).2.1);rintro e w9 ⟨rfl,hb⟩;refine⟨_,rfl,?_⟩;replace HO0:=Sd.mk (Kd.V_below (Kd.Vz HO0.out) hb);replace HO275:=Sd.mk (Kd.S_below (by(with_reducible repeat (first|apply Kd.S_alloc|apply Kd.S_drewN|apply Kd.S_drew));exact HO275.out) hb);replace HB:=Sd.mk (below_step bz hb);(try clear hb);(try clear hb2);(try clear hk);(try clear hi)))
   go_meet
   case rel=>exact⟨_,(true),(by first|rfl|(simp;done)|(simp[*];done)),H',⟨by first|omega|exact Nat.le_refl _⟩,⟨by(with_reducible repeat (first|apply Kd.V_alloc|apply Kd.V_drewN|apply Kd.V_drew));exact HO0.out⟩,⟨by(with_reducible repeat (first|apply Kd.S_alloc|apply Kd.S_drewN|apply Kd.S_drew));exact Kd.S_mono HO275.out (fun _ hk=>hk.1)⟩,⟨bz⟩⟩
 case rest =>
  clear HC3
  try clear c1
  try clear p2
  try clear c5
  try clear c7
  obtain⟨kq,x19_2,rfl,HA,HJ2,HO_0,HO_6,HB⟩:=hcut
  cases kq with
  | zero=>exact absurd HA.out (by simp[spec_OrdFall.j0])
  | succ kj2 =>
   have H:=HA.out
   clear HA
   simp only[spec_OrdFall.j0] at H
   by_cases c10:x19_2=true
   ·subst c10
    have H1:(some (y273,false))=some (r1,r2):=by rw[if_pos rfl] at H;exact H
    clear H
    have H:=H1
    clear H1
    simp only[Option.some.injEq,Prod.mk.injEq] at H
    obtain⟨rfl,rfl⟩:=H
    go_wp2
    go_ret2
    exact⟨_,by first|rfl|(simp[errW_none,errW_some]<;>rfl)|(simp[*,errW_none,errW_some]<;>rfl),by(with_reducible repeat (first|apply Kd.S_alloc|apply Kd.S_drewN|apply Kd.S_drew));exact HO_6.out,bz⟩
   ·replace c10:=Bool.eq_false_iff.mpr c10
    subst c10
    have H1:(spec_OrdFall.l0 kj2 l0 l1 y273 0)=some (r1,r2):=by rw[if_neg (show ¬ (false=true) by decide)] at H;exact H
    clear H
    have H:=H1
    clear H1
    have H':=Sd.mk H
    clear H
    go_wp2
    go_loopg [7] kj2 (fun kq v7 w'=>∃ (x7_2:Int),v7=.int .i64 x7_2∧Sd (spec_OrdFall.l0 kq l0 l1 y273 x7_2=some (r1,r2))∧Sd (kq≤kj2)∧Sd (Kd.V (Kd.int .i64) 3 w' w.heap.size (fun k_=>(P0_ k_∨w.heap.size≤k_)∧some k_≠(v274:Value).ownBlock) (.slice A0 l0.length c0) l0)∧Sd (Kd.S (Kd.slice 3 (Kd.int .i64)) 22 w' w.heap.size (fun k_=>(w.heap.size≤k_)) v274 y273)∧Sd (Below w.heap.size w w'))
    case atStart=>exact⟨(0),(by first|rfl|(simp;done)|(simp[*];done)),H',⟨Nat.le_refl _⟩,⟨by(with_reducible repeat (first|apply Kd.V_alloc|apply Kd.V_drewN|apply Kd.V_drew));exact HO_0.out⟩,⟨by(with_reducible repeat (first|apply Kd.S_alloc|apply Kd.S_drewN|apply Kd.S_drew));exact HO_6.out⟩,⟨bz⟩⟩
    case round =>
     clear H'
     try clear c1
     try clear p2
     try clear c5
     try clear c7
     try clear c10
     try clear p2
     obtain⟨x7_2,rfl,HA,HK2,HO_0,HO_6,HB⟩:=hrel
     cases gk with
     | zero=>exact absurd HA.out (by simp[spec_OrdFall.l0])
     | succ k2 =>
      have H:=HA.out
      clear HA
      simp only[spec_OrdFall.l0] at H
      by_cases c11:x7_2<(l1.length:Int)
      ·rw[if_pos c11] at H
       have c11b0:decide (x7_2<(l1.length:Int))=true:=decide_eq_true c11
       clear c11
       by_cases c12:0≤x7_2
       ·rw[if_pos c12] at H
        have c12b0:decide (0≤x7_2)=true:=decide_eq_true c12
        clear c12
        replace H:=Option.bind_eq_some_iff.mp H
        obtain⟨t278,A130,H⟩:=H
        replace H:(if t278=true then(spec_OrdFall.l0 k2 l0 l1 y273 (wrap64 (x7_2+1))) else(some (y273,false)))=some (r1,r2):=H
        have A13:=Sd.mk A130
        clear A130
        by_cases c14:t278=true
        ·subst c14
         have H1:(spec_OrdFall.l0 k2 l0 l1 y273 (wrap64 (x7_2+1)))=some (r1,r2):=by rw[if_pos rfl] at H;exact H
         clear H
         have H:=H1
         clear H1
         have H':=Sd.mk H
         clear H
         have p277:0≤(x7_2:Int):=dz
         have q277:x7_2<(l1.length:Int):=dz
         obtain⟨ad277,e277,hx277_0⟩:=Kd.at_int HR1.out x7_2 p277 q277
         cases e277
         replace hx277_0:=(HB.out.cell (World.block_lt_of_cell? w _ hx277_0)).trans hx277_0
         replace p277:=eq_true p277
         replace q277:=eq_true q277
         go_wp2_with (first|((with_reducible refine gate_callee (f:=18) rfl ?_);refine goesL_ (some 31) rfl rfl Try.func18 (by kernel_rfl) rfl #[.int .i64 (rd l1 x7_2),.int .i64 0,.int .i64 99] rfl az ?_;(with_reducible refine(spec_l1In.calls (rd l1 x7_2) 0 99 true _ A13.out).mono ?_);rintro e w' ⟨rfl,⟨nd,rfl⟩⟩;refine⟨_,rfl,?_⟩))
         go_roundg k2
         case measure=>have:=HJ2.out;have:=HK2.out;omega
         case rel=>exact⟨(wrap64 (x7_2+1)),(by first|rfl|(simp;done)|(simp[*];done)),H',⟨by have:=HJ2.out;have:=HK2.out;omega⟩,⟨by(with_reducible repeat (first|apply Kd.V_alloc|apply Kd.V_drewN|apply Kd.V_drew));exact HO_0.out⟩,⟨by(with_reducible repeat (first|apply Kd.S_alloc|apply Kd.S_drewN|apply Kd.S_drew));exact HO_6.out⟩,⟨bz⟩⟩
        ·replace c14:=Bool.eq_false_iff.mpr c14
         subst c14
         have H1:(some (y273,false))=some (r1,r2):=by rw[if_neg (show ¬ (false=true) by decide)] at H;exact H
         clear H
         have H:=H1
         clear H1
         simp only[Option.some.injEq,Prod.mk.injEq] at H
         obtain⟨rfl,rfl⟩:=H
         have p277:0≤(x7_2:Int):=dz
         have q277:x7_2<(l1.length:Int):=dz
         obtain⟨ad277,e277,hx277_0⟩:=Kd.at_int HR1.out x7_2 p277 q277
         cases e277
         replace hx277_0:=(HB.out.cell (World.block_lt_of_cell? w _ hx277_0)).trans hx277_0
         replace p277:=eq_true p277
         replace q277:=eq_true q277
         go_wp2_with (first|((with_reducible refine gate_callee (f:=18) rfl ?_);refine goesL_ (some 31) rfl rfl Try.func18 (by kernel_rfl) rfl #[.int .i64 (rd l1 x7_2),.int .i64 0,.int .i64 99] rfl az ?_;(with_reducible refine(spec_l1In.calls (rd l1 x7_2) 0 99 false _ A13.out).mono ?_);rintro e w' ⟨rfl,⟨nd,rfl⟩⟩;refine⟨_,rfl,?_⟩))
         go_ret2
         exact⟨_,by first|rfl|(simp[errW_none,errW_some]<;>rfl)|(simp[*,errW_none,errW_some]<;>rfl),by(with_reducible repeat (first|apply Kd.S_alloc|apply Kd.S_drewN|apply Kd.S_drew));exact HO_6.out,bz⟩
       ·rw[if_neg c12] at H
        exact absurd H (by simp)
      ·rw[if_neg c11] at H
       have c11b0:decide (x7_2<(l1.length:Int))=false:=decide_eq_false c11
       clear c11
       have H':=Sd.mk H
       clear H
       go_wp2
       go_loopg [0,6,8] k2 (fun kq v0 v6 v8 w'=>∃ (x0_3:List Int) (x6_3:List (List Int)) (x8_3:Int),v8=.int .i64 x8_3∧Sd (spec_OrdFall.l1 kq x0_3 l1 x6_3 x8_3=some (r1,r2))∧Sd (kq≤k2)∧Sd (Kd.V (Kd.int .i64) 3 w' w.heap.size (fun k_=>(P0_ k_∨w.heap.size≤k_)∧some k_≠(v6:Value).ownBlock) v0 x0_3)∧Sd (Kd.S (Kd.slice 3 (Kd.int .i64)) 22 w' w.heap.size (fun k_=>(w.heap.size≤k_)) v6 x6_3)∧Sd (Below w.heap.size w w'))
       case atStart=>exact⟨(l0),(y273),(0),(by first|rfl|(simp;done)|(simp[*];done)),H',⟨Nat.le_refl _⟩,⟨by(with_reducible repeat (first|apply Kd.V_alloc|apply Kd.V_drewN|apply Kd.V_drew));exact HO_0.out⟩,⟨by(with_reducible repeat (first|apply Kd.S_alloc|apply Kd.S_drewN|apply Kd.S_drew));exact HO_6.out⟩,⟨bz⟩⟩
       case round =>
        clear H'
        try clear c1
        try clear p2
        try clear q2
        try clear hx2
        try clear c5
        try clear p6
        try clear c7
        try clear c10
        try clear c11
        try clear c11b0
        try clear c12
        try clear c12b0
        try clear c14
        try clear hx277_0
        try clear p2
        try clear p277
        try clear q277
        obtain⟨x0_3,x6_3,x8_3,rfl,HA,HK3,HO_0,HO_6,HB⟩:=hrel
        cases gk with
        | zero=>exact absurd HA.out (by simp[spec_OrdFall.l1])
        | succ k3 =>
         have H:=HA.out
         clear HA
         simp only[spec_OrdFall.l1] at H
         have HC15:=Sd.mk H
         clear H
         go_upto_region 10 with (fail)
         go_cut [42] (fun v42 wc=>∃ (kq:Nat) (x42_14:Bool),v42=.bool x42_14∧Sd (spec_OrdFall.j3 kq x0_3 l1 x6_3 x8_3 x42_14=some (r1,r2))∧Sd (kq≤k3)∧Sd (Kd.V (Kd.int .i64) 3 wc w.heap.size (fun k_=>(P0_ k_∨w.heap.size≤k_)∧some k_≠(u6:Value).ownBlock) u0 x0_3)∧Sd (Kd.S (Kd.slice 3 (Kd.int .i64)) 22 wc w.heap.size (fun k_=>(w.heap.size≤k_)) u6 x6_3)∧Sd (Below w.heap.size w wc))
         case first =>
          have H:=HC15.out
          clear HC15
          by_cases c16:x8_3<(l1.length:Int)
          ·rw[if_pos c16] at H
           have c16b0:decide (x8_3<(l1.length:Int))=true:=decide_eq_true c16
           clear c16
           (first|rw[c16b0]|(simp only[i64_w,i32_w];rw[c16b0])|skip)
           have H':=Sd.mk H
           clear H
           obtain⟨Ao17,co17,eo17⟩:=Kd.V_slice HO_0.out
           subst eo17
           go_wp2
           go_meet
           case rel=>exact⟨_,(decide ((x0_3.length:Int)>1)),(by first|rfl|(simp;done)|(simp[*];done)),H',⟨by have:=HJ2.out;have:=HK2.out;have:=HK3.out;first|omega|exact Nat.le_refl _⟩,⟨by(with_reducible repeat (first|apply Kd.V_alloc|apply Kd.V_drewN|apply Kd.V_drew));exact HO_0.out⟩,⟨by(with_reducible repeat (first|apply Kd.S_alloc|apply Kd.S_drewN|apply Kd.S_drew));exact HO_6.out⟩,⟨bz⟩⟩
          ·rw[if_neg c16] at H
           have c16b0:decide (x8_3<(l1.length:Int))=false:=decide_eq_false c16
           clear c16
           (first|rw[c16b0]|(simp only[i64_w,i32_w];rw[c16b0])|skip)
           have H':=Sd.mk H
           clear H
           go_wp2
           go_meet
           case rel=>exact⟨_,(false),(by first|rfl|(simp;done)|(simp[*];done)),H',⟨by have:=HJ2.out;have:=HK2.out;have:=HK3.out;first|omega|exact Nat.le_refl _⟩,⟨by(with_reducible repeat (first|apply Kd.V_alloc|apply Kd.V_drewN|apply Kd.V_drew));exact HO_0.out⟩,⟨by(with_reducible repeat (first|apply Kd.S_alloc|apply Kd.S_drewN|apply Kd.S_drew));exact HO_6.out⟩,⟨bz⟩⟩
         case rest =>
          clear HC15
          try clear c1
          try clear p2
          try clear q2
          try clear hx2
          try clear c5
          try clear p6
          try clear c7
          try clear c10
          try clear c11
          try clear c11b0
          try clear c12
          try clear c12b0
          try clear c14
          try clear c16
          try clear c16b0
          try clear c17
          try clear hx277_0
          try clear p2
          try clear p277
          try clear p6
          try clear q2
          try clear q277
          obtain⟨kq,x42_14,rfl,HA,HJ14,HO_0,HO_6,HB⟩:=hcut
          cases kq with
          | zero=>exact absurd HA.out (by simp[spec_OrdFall.j3])
          | succ kj14 =>
           have H:=HA.out
           clear HA
           simp only[spec_OrdFall.j3] at H
           by_cases c18:x42_14=true
           ·subst c18
            have H1:(if 0≤x8_3 then(if x8_3<(l1.length:Int) then((spec_OrdStep.f kj14 x0_3 (rd l1 x8_3)).bind fun bt280=>(if bt280.2=true then(if x6_3.length<5864062014805 then(spec_OrdFall.l1 kj14 bt280.1 l1 (x6_3++[bt280.1]) (wrap64 (x8_3+1))) else(none)) else(some ((([]:List (List Int))),false)))) else(none)) else(none))=some (r1,r2):=by rw[if_pos rfl] at H;exact H
            clear H
            have H:=H1
            clear H1
            by_cases c19:0≤x8_3
            ·rw[if_pos c19] at H
             have c19b0:decide (0≤x8_3)=true:=decide_eq_true c19
             clear c19
             by_cases c20:x8_3<(l1.length:Int)
             ·rw[if_pos c20] at H
              have c20b0:decide (x8_3<(l1.length:Int))=true:=decide_eq_true c20
              clear c20
              replace H:=Option.bind_eq_some_iff.mp H
              obtain⟨⟨t280,t281⟩,A210,H⟩:=H
              replace H:(if t281=true then(if x6_3.length<5864062014805 then(spec_OrdFall.l1 kj14 t280 l1 (x6_3++[t280]) (wrap64 (x8_3+1))) else(none)) else(some ((([]:List (List Int))),false)))=some (r1,r2):=H
              have A21:=Sd.mk A210
              clear A210
              by_cases c22:t281=true
              ·subst c22
               have H1:(if x6_3.length<5864062014805 then(spec_OrdFall.l1 kj14 t280 l1 (x6_3++[t280]) (wrap64 (x8_3+1))) else(none))=some (r1,r2):=by rw[if_pos rfl] at H;exact H
               clear H
               have H:=H1
               clear H1
               by_cases c23:x6_3.length<5864062014805
               ·rw[if_pos c23] at H
                have LMc23:=Sd.mk c23
                clear c23
                obtain⟨y284,hy284⟩:∃ y_:List (List Int),y_=(x6_3++[t280]):=⟨_,rfl⟩
                replace H:(spec_OrdFall.l1 kj14 t280 l1 y284 (wrap64 (x8_3+1)))=some (r1,r2):=hz hy284 H
                have Ny284:=Sd.mk hy284
                clear hy284
                have H':=Sd.mk H
                clear H
                have p279:0≤(x8_3:Int):=dz
                have q279:x8_3<(l1.length:Int):=dz
                obtain⟨ad279,e279,hx279_0⟩:=Kd.at_int HR1.out x8_3 p279 q279
                cases e279
                replace hx279_0:=(HB.out.cell (World.block_lt_of_cell? w _ hx279_0)).trans hx279_0
                replace p279:=eq_true p279
                replace q279:=eq_true q279
                obtain⟨Ao24,co24,eo24⟩:=Kd.V_slice HO_0.out
                subst eo24
                go_wp2_with (first|((with_reducible refine gate_callee (f:=19) rfl ?_);refine goesL_ (some 51) rfl rfl Try.func19 (by kernel_rfl) rfl #[.slice Ao24 x0_3.length co24,.int .i64 (rd l1 x8_3)] rfl az ?_;(with_reducible refine(spec_OrdStep.calls kj14 _ _ x0_3 (rd l1 x8_3) t280 true _ ?side1 ?side2 A21.out).mono ?_);(case side1=>exact Kd.Cz (Kd.V_reads' HO_0.out).2.2);(case side2=>exact(Kd.V_reads' HO_0.out).2.1);rintro e w25 ⟨v282,rfl,ho0,hb⟩;refine⟨_,rfl,?_⟩;replace HO_0:=Sd.mk (Kd.V_elder' (Kd.Vz HO_0.out) (Kd.R_base ho0) hb);replace HO_6:=Sd.mk (Kd.S_elder' (by(with_reducible repeat (first|apply Kd.S_alloc|apply Kd.S_drewN|apply Kd.S_drew));exact HO_6.out) (Kd.R_base ho0) hb);have HO283:=Sd.mk (Kd.R_lower (Kd.R_newM (M:=fun k_=>(w.heap.size≤k_)) ho0 (below_size bz) (fun k_ h_=>h_)) (below_size bz));replace HB:=Sd.mk (below_step bz hb);(try clear hb);(try clear hb2);(try clear hk);(try clear hi);(try clear ho0);obtain⟨Ao27,co27,eo27⟩:=Kd.R_slice HO283.out;subst eo27)|((with_reducible refine gate_builtin (b:=.append) (xs:=#[.tmp 58,.tmp 60]) rfl ?_);at_builtin;refine Kd.S_append (Kd.slice 3 (Kd.int .i64)) (w0:=w) w.heap.size rfl (.tmp 58) (.tmp 60) 23 22 (.slice none 0 0) 24 rfl Try.underlying23 info22 rfl (by decide) (by omega) u6 x6_3 t280 [.slice Ao27 t280.length co27] (fun k_=>(w.heap.size≤k_)) (fun k_=>some k_=(.slice Ao27 t280.length co27:Value).ownBlock) rfl rfl ?aP (fun k_ hk_=>((Kd.R_mono (ok':=fun k_=>((fun k_=>(w.heap.size≤k_))) k_∧some k_≠(u6:Value).ownBlock) (Kd.R_apart' (HO283.out) (Kd.S_typed HO_6.out) (by decide)) (fun k_ hk=>⟨hk.1.1,hk.2⟩))).1 k_ hk_.symm) ?aF ?aO ?aB ?aS ?aL ?_;(case aP=>exact Kd.M_row (Kd.R_mono (Kd.R_tight rfl (Kd.R_mono (ok':=fun k_=>((fun k_=>(w.heap.size≤k_))) k_∧some k_≠(u6:Value).ownBlock) (Kd.R_apart' (HO283.out) (Kd.S_typed HO_6.out) (by decide)) (fun k_ hk=>⟨hk.1.1,hk.2⟩))) (fun _ h_=>h_)));(case aB=>exact bz);(case aF=>exact(fun k_ hk=>(Nat.le_trans (below_size bz) hk)));(case aO=>exact(by(with_reducible repeat (first|apply Kd.S_alloc|apply Kd.S_drewN|apply Kd.S_drew));exact Kd.S_mono HO_6.out (fun k_ hk=>⟨hk.1,fun e_=>hk.2 e_⟩)));(case aS=>exact(below_size bz));(case aL=>have:=LMc23.out;omega);intro v285 w26 ho hb hg hat;rw[← Ny284.out] at ho;have nx_:Sd (Kd.V (Kd.int .i64) 3 _ w.heap.size (fun k_=>w.heap.size≤k_∧some k_≠(v285:Value).ownBlock) (.slice Ao27 t280.length co27) t280):=⟨Kd.V_afterv (ok:=fun k_=>w.heap.size≤k_) (by(with_reducible repeat (first|apply Kd.V_alloc|apply Kd.V_drewN|apply Kd.V_drew));exact Kd.R_V (Kd.R_mono (Kd.R_bound (Kd.R_apart' (HO283.out) (Kd.S_typed HO_6.out) (by decide))) (fun _ hk=>⟨hk.2.1,hk.1.2⟩))) hg hat⟩;replace HO_0:=Sd.mk (Kd.V_afterv (ok:=(fun k_=>(P0_ k_∨w.heap.size≤k_)∧some k_≠(.slice Ao27 t280.length co27:Value).ownBlock)) (Kd.Vz <| Kd.V_mono HO_0.out (fun _ hk=>⟨⟨hk.1.1,hk.2⟩,hk.1.2⟩)) hg hat);replace HB:=Sd.mk (hb);have HO286:=Sd.mk (ho);clear HO_6 HO283;clear ho hb hg hat))
                go_roundg kj14
                case measure=>have:=HJ2.out;have:=HK2.out;have:=HK3.out;have:=HJ14.out;omega
                case rel=>exact⟨(t280),(y284),(wrap64 (x8_3+1)),(by first|rfl|(simp;done)|(simp[*];done)),H',⟨by have:=HJ2.out;have:=HK2.out;have:=HK3.out;have:=HJ14.out;omega⟩,⟨Kd.V_mono nx_.out (fun k_ hk=>⟨.inr hk.1,hk.2⟩)⟩,⟨by(with_reducible repeat (first|apply Kd.S_alloc|apply Kd.S_drewN|apply Kd.S_drew));exact HO286.out⟩,⟨bz⟩⟩
               ·rw[if_neg c23] at H
                exact absurd H (by simp)
              ·replace c22:=Bool.eq_false_iff.mpr c22
               subst c22
               have H1:(some ((([]:List (List Int))),false))=some (r1,r2):=by rw[if_neg (show ¬ (false=true) by decide)] at H;exact H
               clear H
               have H:=H1
               clear H1
               obtain⟨y287,hy287⟩:∃ y_:List (List Int),y_=(([]:List (List Int))):=⟨_,rfl⟩
               replace H:(some (y287,false))=some (r1,r2):=hz hy287 H
               have Ny287:=Sd.mk hy287
               clear hy287
               simp only[Option.some.injEq,Prod.mk.injEq] at H
               obtain⟨rfl,rfl⟩:=H
               have p279:0≤(x8_3:Int):=dz
               have q279:x8_3<(l1.length:Int):=dz
               obtain⟨ad279,e279,hx279_0⟩:=Kd.at_int HR1.out x8_3 p279 q279
               cases e279
               replace hx279_0:=(HB.out.cell (World.block_lt_of_cell? w _ hx279_0)).trans hx279_0
               replace p279:=eq_true p279
               replace q279:=eq_true q279
               obtain⟨Ao28,co28,eo28⟩:=Kd.V_slice HO_0.out
               subst eo28
               go_wp2_with (first|((with_reducible refine gate_callee (f:=19) rfl ?_);refine goesL_ (some 51) rfl rfl Try.func19 (by kernel_rfl) rfl #[.slice Ao28 x0_3.length co28,.int .i64 (rd l1 x8_3)] rfl az ?_;(with_reducible refine(spec_OrdStep.calls kj14 _ _ x0_3 (rd l1 x8_3) t280 false _ ?side1 ?side2 A21.out).mono ?_);(case side1=>exact Kd.Cz (Kd.V_reads' HO_0.out).2.2);(case side2=>exact(Kd.V_reads' HO_0.out).2.1);rintro e w29 ⟨v282,rfl,ho0,hb⟩;refine⟨_,rfl,?_⟩;replace HO_0:=Sd.mk (Kd.V_elder' (Kd.Vz HO_0.out) (Kd.R_base ho0) hb);replace HO_6:=Sd.mk (Kd.S_elder' (by(with_reducible repeat (first|apply Kd.S_alloc|apply Kd.S_drewN|apply Kd.S_drew));exact HO_6.out) (Kd.R_base ho0) hb);have HO283:=Sd.mk (Kd.R_lower (Kd.R_newM (M:=fun k_=>(w.heap.size≤k_)) ho0 (below_size bz) (fun k_ h_=>h_)) (below_size bz));replace HB:=Sd.mk (below_step bz hb);(try clear hb);(try clear hb2);(try clear hk);(try clear hi);(try clear ho0))|((with_reducible refine gate_dst (N:=56) rfl ?_);refine Kd.S_lit (Kd.slice 3 (Kd.int .i64)) _ 22 ?hg (N:=56) ?hd (xs:=([]:List (List Int))) (inner:=[]) (ok:=fun _=>True) (okp:=fun _=>True) ?hr ?hp (fun _ hk=>hk) trivial (Below.refl _ _) (Nat.le_refl _) (by simp) ?_;(case hd=>rfl);(case hg=>rfl);(case hr=>first|(go_simp;done)|(go_simp;rfl));(case hp=>exact(Reps.none _ _));intro v288 w30 ho31 hb hg_ hnew_;clear hg_ hnew_;(first|rw[← Ny287.out] at ho31|(simp only[Int.reduceToNat] at ho31;rw[← Ny287.out] at ho31));replace HO_0:=Sd.mk (Kd.V_elder' (Kd.Vz HO_0.out) (Kd.S_base ho31) hb);have HO289:=Sd.mk (Kd.S_lower (Kd.S_new' (Kd.S_new' (Kd.S_newM (M:=fun k_=>(w.heap.size≤k_)) ho31 (below_size bz) (fun k_ h_=>h_)) (Kd.S_lt (by(with_reducible repeat (first|apply Kd.S_alloc|apply Kd.S_drewN|apply Kd.S_drew));exact HO_6.out))) (Kd.R_lt (Kd.Rz HO283.out))) (below_size bz));replace HO_6:=Sd.mk (Kd.S_elder' (by(with_reducible repeat (first|apply Kd.S_alloc|apply Kd.S_drewN|apply Kd.S_drew));exact HO_6.out) (Kd.S_base ho31) hb);replace HO283:=Sd.mk (Kd.R_below (Kd.Rz HO283.out) hb);replace HB:=Sd.mk (below_step bz hb);clear hb ho31))
               go_ret2
               exact⟨_,by first|rfl|(simp[errW_none,errW_some]<;>rfl)|(simp[*,errW_none,errW_some]<;>rfl),by(with_reducible repeat (first|apply Kd.S_alloc|apply Kd.S_drewN|apply Kd.S_drew));exact Kd.S_mono HO289.out (fun _ hk=>hk.1.1.1),bz⟩
             ·rw[if_neg c20] at H
              exact absurd H (by simp)
            ·rw[if_neg c19] at H
             exact absurd H (by simp)
           ·replace c18:=Bool.eq_false_iff.mpr c18
            subst c18
            have H1:(some (x6_3,true))=some (r1,r2):=by rw[if_neg (show ¬ (false=true) by decide)] at H;exact H
            clear H
            have H:=H1
            clear H1
            simp only[Option.some.injEq,Prod.mk.injEq] at H
            obtain⟨rfl,rfl⟩:=H
            go_wp2
            go_ret2
            exact⟨_,by first|rfl|(simp[errW_none,errW_some]<;>rfl)|(simp[*,errW_none,errW_some]<;>rfl),by(with_reducible repeat (first|apply Kd.S_alloc|apply Kd.S_drewN|apply Kd.S_drew));exact HO_6.out,bz⟩
theorem spec_OrdFall.calls (k:Nat)(A0:Option Addr)(c0:Nat)(l0:List Int)(A1:Option Addr)(c1:Nat)(l1:List Int)(r1:List (List Int))(r2:Bool)(w:World)(hr0:Kd.C (Kd.int .i64) w A0 l0.length l0)(hc0:l0.length≤c0)(hr1:Kd.C (Kd.int .i64) w A1 l1.length l1)(hc1:l1.length≤c1)(h:spec_OrdFall.f k l0 l1=some (r1,r2)) :
  Calls Try.prog 5 #[.slice A0 l0.length c0,.slice A1 l1.length c1] w fun e w'=>∃ v0_:Value,e=.returned (.tuple #[v0_,.bool r2])∧Kd.S (Kd.slice 3 (Kd.int .i64)) 22 w' w.heap.size (fun _=>True) v0_ r1∧Below w.heap.size w w':=by
 refine(spec_OrdFall.calls0 k (fun k_=>k_<w.heap.size) A0 c0 l0 A1 c1 l1 r1 r2 w (Kd.V_mk hc0 (Kd.C_F (Kd.heap_int .i64) hr0)) hr1 hc1 h).mono ?_
 rintro e w' ⟨v0_,rfl,ho,hb⟩
 exact⟨v0_,rfl,Kd.S_mono ho (fun _ _=>trivial),hb⟩
end Go.Proofs.Ytfkecmnklpjelaa.P