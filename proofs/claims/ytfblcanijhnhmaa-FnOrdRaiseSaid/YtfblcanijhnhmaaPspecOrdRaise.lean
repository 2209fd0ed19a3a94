/- One Go function comes to what its Lean function tells. -/
import Derived.Test.YtfblcanijhnhmaaP0
import Derived.Test.YtfblcanijhnhmaaPspecOrdTimes
import Derived.Test.YtfblcanijhnhmaaPspecOrdValid
import Derived.Test.YtfblcanijhnhmaaPspecl1In
namespace Go.Proofs.Ytfblcanijhnhmaa.P
open Go.RowKit YtfblcanijhnhmaaW.PrintWords YtfblcanijhnhmaaW.PrintLast YtfblcanijhnhmaaW.PrintMore
set_option linter.unusedVariables false
set_option linter.unusedSimpArgs false
/-! ### spec_OrdRaise: function 27 -/
mutual
def spec_OrdRaise.j0:Nat→List Int→Int→Bool→Option (List Int × Bool)
 | 0,_,_,_=>none
 | k+1,x0,x1,x17=>if x17=true then(some ((([]:List Int)),false)) else(spec_OrdRaise.l0 k x0 x1 (([1,1,0]:List Int)) 0)
def spec_OrdRaise.l0:Nat→List Int→Int→List Int→Int→Option (List Int × Bool)
 | 0,_,_,_,_=>none
 | k+1,x0,x1,x6,x7=>if x7<x1 then((spec_OrdTimes.f k x6 x0).bind fun bt980=>(if bt980.2=true then(spec_OrdRaise.l0 k x0 x1 bt980.1 (wrap64 (x7+1))) else(some ((([]:List Int)),false)))) else(some (x6,true))
end
def spec_OrdRaise.f (k:Nat)(l0:List Int)(a1:Int):Option (List Int × Bool):=(spec_OrdValid.f k l0).bind fun t972=>(if t972=true then((spec_l1In.f a1 0 9).bind fun t973=>(spec_OrdRaise.j0 k l0 a1 (!t973))) else(spec_OrdRaise.j0 k l0 a1 true))
theorem spec_OrdRaise.mono_l:∀ k,(∀ y0 y1 y2,LeO (spec_OrdRaise.j0 k y0 y1 y2) (spec_OrdRaise.j0 (k+1) y0 y1 y2))∧(∀ y0 y1 y2 y3,LeO (spec_OrdRaise.l0 k y0 y1 y2 y3) (spec_OrdRaise.l0 (k+1) y0 y1 y2 y3))
 | 0=>⟨fun _ _ _ r h=>by simp[spec_OrdRaise.j0] at h,fun _ _ _ _ r h=>by simp[spec_OrdRaise.l0] at h⟩
 | k+1=>by
  obtain⟨ih0,ih1⟩:=spec_OrdRaise.mono_l k
  refine⟨?_,?_⟩
  ·intro y0 y1 y2
   unfold spec_OrdRaise.j0
   repeat' first|(with_reducible first|exact ih0 _ _ _|exact ih1 _ _ _ _|exact LeO.refl _|exact LeO.none _|refine LeO.ite ?_ ?_|refine LeO.bind ?_ (fun _=>?_))|exact ih0 _ _ _|exact ih1 _ _ _ _|exact LeO.none _|refine LeO.ite ?_ ?_|refine LeO.bind ?_ (fun _=>?_)
  ·intro y0 y1 y2 y3
   unfold spec_OrdRaise.l0
   repeat' first|(with_reducible first|exact ih1 _ _ _ _|exact spec_OrdTimes.mono _ _ _|exact LeO.refl _|exact LeO.none _|refine LeO.ite ?_ ?_|refine LeO.bind ?_ (fun _=>?_))|exact ih1 _ _ _ _|exact spec_OrdTimes.mono _ _ _|exact LeO.none _|refine LeO.ite ?_ ?_|refine LeO.bind ?_ (fun _=>?_)
theorem spec_OrdRaise.mono:∀ a0 a1 k,LeO (spec_OrdRaise.f k a0 a1) (spec_OrdRaise.f (k+1) a0 a1):=by
 intro a0 a1 k
 obtain⟨ih0,ih1⟩:=spec_OrdRaise.mono_l k
 unfold spec_OrdRaise.f
 repeat' first|(with_reducible first|exact ih0 _ _ _|exact ih1 _ _ _ _|exact spec_OrdValid.mono _ _|exact LeO.refl _|exact LeO.none _|refine LeO.ite ?_ ?_|refine LeO.bind ?_ (fun _=>?_))|exact ih0 _ _ _|exact ih1 _ _ _ _|exact spec_OrdValid.mono _ _|exact LeO.none _|refine LeO.ite ?_ ?_|refine LeO.bind ?_ (fun _=>?_)
set_option maxHeartbeats 8000000 in
set_option maxRecDepth 100000 in
theorem spec_OrdRaise.calls (k:Nat)(A0:Option Addr)(c0:Nat)(l0:List Int)(a1:Int)(r1:List Int)(r2:Bool)(w:World)(hr0:Kd.C (Kd.int .i64) w A0 l0.length l0)(hc0:l0.length≤c0)(h:spec_OrdRaise.f k l0 a1=some (r1,r2)) :
  Calls Try.prog 27 #[.slice A0 l0.length c0,.int .i64 a1] w fun e w'=>∃ v0_:Value,e=.returned (.tuple #[v0_,.bool r2])∧Kd.R (Kd.int .i64) 3 w' w.heap.size (fun _=>True) v0_ r1∧Below w.heap.size w w':=by
 have HR0:=Aside0.mk hr0
 have HC0:=Aside0.mk hc0
 clear hr0 hc0
 have HB:=Aside0.mk (Below.refl w.heap.size w)
 have H:((spec_OrdValid.f k l0).bind fun t972=>(if t972=true then((spec_l1In.f a1 0 9).bind fun t973=>(spec_OrdRaise.j0 k l0 a1 (!t973))) else(spec_OrdRaise.j0 k l0 a1 true)))=some (r1,r2):=h
 clear h
 have HC3:=Aside0.mk H
 clear H
 go_enter Try.func27,Try.ntmps27
 go_upto_region 1 with (fail)
 go_cut [17] (fun v17 wc=>∃ (kq:Nat) (x17_2:Bool),v17=.bool x17_2∧Aside0 (spec_OrdRaise.j0 kq l0 a1 x17_2=some (r1,r2))∧Aside0 (kq≤k)∧Aside0 (Below w.heap.size w wc))
 case first =>
  have H:=HC3.out
  clear HC3
  replace H:=Option.bind_eq_some_iff.mp H
  obtain⟨t972,A40,H⟩:=H
  replace H:(if t972=true then((spec_l1In.f a1 0 9).bind fun t973=>(spec_OrdRaise.j0 k l0 a1 (!t973))) else(spec_OrdRaise.j0 k l0 a1 true))=some (r1,r2):=H
  have A4:=Aside0.mk A40
  clear A40
  by_cases c5:t972=true
  ·subst c5
   have H1:((spec_l1In.f a1 0 9).bind fun t973=>(spec_OrdRaise.j0 k l0 a1 (!t973)))=some (r1,r2):=by rw[if_pos rfl] at H;exact H
   clear H
   have H:=H1
   clear H1
   replace H:=Option.bind_eq_some_iff.mp H
   obtain⟨t973,A60,H⟩:=H
   replace H:(spec_OrdRaise.j0 k l0 a1 (!t973))=some (r1,r2):=H
   have A6:=Aside0.mk A60
   clear A60
   have H':=Aside0.mk H
   clear H
   go_wp2_with (first|((with_reducible refine gate_callee (f:=34) rfl ?_);refine goesL_ (some 11) rfl rfl Try.func34 (by kernel_rfl) rfl #[.slice A0 l0.length c0] rfl az ?_;(with_reducible refine(spec_OrdValid.calls k _ _ l0 true _ ?side1 ?side2 A4.out).mono ?_);(case side1=>exact Kd.Cz (Kd.C_below HR0.out HB.out));(case side2=>exact HC0.out);rintro e w7 ⟨rfl,hb⟩;refine⟨_,rfl,?_⟩;replace HB:=Aside0.mk (below_step bz hb);(try clear hb);(try clear hb2);(try clear hk);(try clear hi))|(go_at_call 58;(with_reducible refine(spec_l1In.calls a1 0 9 t973 _ A6.out).mono ?_);rintro e w' ⟨rfl,⟨nd,rfl⟩⟩))
   go_meet
   case rel=>exact⟨_,(!t973),(by first|rfl|(simp;done)|(simp[*];done)),H',⟨by first|omega|exact Nat.le_refl _⟩,⟨bz⟩⟩
  ·replace c5:=Bool.eq_false_iff.mpr c5
   subst c5
   have H1:(spec_OrdRaise.j0 k l0 a1 true)=some (r1,r2):=by rw[if_neg (show ¬ (false=true) by decide)] at H;exact H
   clear H
   have H:=H1
   clear H1
   have H':=Aside0.mk H
   clear H
   go_wp2_with (first|((with_reducible refine gate_callee (f:=34) rfl ?_);refine goesL_ (some 11) rfl rfl Try.func34 (by kernel_rfl) rfl #[.slice A0 l0.length c0] rfl az ?_;(with_reducible refine(spec_OrdValid.calls k _ _ l0 false _ ?side1 ?side2 A4.out).mono ?_);(case side1=>exact Kd.Cz (Kd.C_below HR0.out HB.out));(case side2=>exact HC0.out);rintro e w8 ⟨rfl,hb⟩;refine⟨_,rfl,?_⟩;replace HB:=Aside0.mk (below_step bz hb);(try clear hb);(try clear hb2);(try clear hk);(try clear hi)))
   go_meet
   case rel=>exact⟨_,(true),(by first|rfl|(simp;done)|(simp[*];done)),H',⟨by first|omega|exact Nat.le_refl _⟩,⟨bz⟩⟩
 case rest =>
  clear HC3
  try clear c2
  try clear p2
  try clear c3
  try clear c5
  obtain⟨kq,x17_2,rfl,HA,HJ2,HB⟩:=hcut
  cases kq with
  | zero=>exact absurd HA.out (by simp[spec_OrdRaise.j0])
  | succ kj2 =>
   have H:=HA.out
   clear HA
   simp only[spec_OrdRaise.j0] at H
   by_cases c9:x17_2=true
   ·subst c9
    have H1:(some ((([]:List Int)),false))=some (r1,r2):=by rw[if_pos rfl] at H;exact H
    clear H
    have H:=H1
    clear H1
    obtain⟨y974,hy974⟩:∃ y_:List Int,y_=(([]:List Int)):=⟨_,rfl⟩
    replace H:(some (y974,false))=some (r1,r2):=hz hy974 H
    have Ny974:=Aside0.mk hy974
    clear hy974
    simp only[Option.some.injEq,Prod.mk.injEq] at H
    obtain⟨rfl,rfl⟩:=H
    go_wp2_with (first|((with_reducible refine gate_dst (N:=18) rfl ?_);refine Kd.R_lit (Kd.int .i64) _ 3 ?hg (N:=18) ?hd (xs:=([]:List Int)) (inner:=[]) (ok:=fun _=>True) (okp:=fun _=>True) ?hr ?hp (fun _ hk=>hk) trivial (Below.refl _ _) (Nat.le_refl _) (by simp) ?_;(case hd=>rfl);(case hg=>rfl);(case hr=>first|(go_simp;done)|(go_simp;rfl));(case hp=>exact(Reps.none _ _));intro v975 w10 ho11 hb hg_ hnew_;clear hg_ hnew_;(first|rw[← Ny974.out] at ho11|(simp only[Int.reduceToNat] at ho11;rw[← Ny974.out] at ho11));have HO976:=Aside0.mk (Kd.R_lower ho11 (below_size bz));replace HB:=Aside0.mk (below_step bz hb);clear hb ho11))
    go_ret2
    exact⟨_,by first|rfl|(simp[errW_none,errW_some]<;>rfl)|(simp[*,errW_none,errW_some]<;>rfl),by(with_reducible repeat (first|apply Kd.R_alloc|apply Kd.R_drewN|apply Kd.R_drew));exact HO976.out,bz⟩
   ·replace c9:=Bool.eq_false_iff.mpr c9
    subst c9
    have H1:(spec_OrdRaise.l0 kj2 l0 a1 (([1,1,0]:List Int)) 0)=some (r1,r2):=by rw[if_neg (show ¬ (false=true) by decide)] at H;exact H
    clear H
    have H:=H1
    clear H1
    obtain⟨y977,hy977⟩:∃ y_:List Int,y_=(([1,1,0]:List Int)):=⟨_,rfl⟩
    replace H:(spec_OrdRaise.l0 kj2 l0 a1 y977 0)=some (r1,r2):=hz hy977 H
    have Ny977:=Aside0.mk hy977
    clear hy977
    have H':=Aside0.mk H
    clear H
    go_wp2_with (first|((with_reducible refine gate_dst (N:=19) rfl ?_);refine Kd.R_lit (Kd.int .i64) _ 3 ?hg (N:=19) ?hd (xs:=([1,1,0]:List Int)) (inner:=[.int .i64 1,.int .i64 1,.int .i64 0]) (ok:=fun _=>True) (okp:=fun _=>True) ?hr ?hp (fun _ hk=>hk) trivial (Below.refl _ _) (Nat.le_refl _) (by simp) ?_;(case hd=>rfl);(case hg=>rfl);(case hr=>first|(go_simp;done)|(go_simp;rfl));(case hp=>exact(Reps.one (show Kd.M (Kd.int .i64) _ _ _ 1 [.int .i64 1] from rfl) (Reps.one (show Kd.M (Kd.int .i64) _ _ _ 1 [.int .i64 1] from rfl) (Reps.one (show Kd.M (Kd.int .i64) _ _ _ 0 [.int .i64 0] from rfl) (Reps.none _ _)))));intro v978 w12 ho13 hb hg_ hnew_;clear hg_ hnew_;(first|rw[← Ny977.out] at ho13|(simp only[Int.reduceToNat] at ho13;rw[← Ny977.out] at ho13));have HO979:=Aside0.mk (Kd.R_lower ho13 (below_size bz));replace HB:=Aside0.mk (below_step bz hb);clear hb ho13))
    go_loopg [6,7] kj2 (fun kq v6 v7 w'=>∃ (x6_2:List Int) (x7_2:Int),v7=.int .i64 x7_2∧Aside0 (spec_OrdRaise.l0 kq l0 a1 x6_2 x7_2=some (r1,r2))∧Aside0 (kq≤kj2)∧Aside0 (Kd.R (Kd.int .i64) 3 w' w.heap.size (fun _=>True) v6 x6_2)∧Aside0 (Below w.heap.size w w'))
    case atStart=>exact⟨(y977),(0),(by first|rfl|(simp;done)|(simp[*];done)),H',⟨Nat.le_refl _⟩,⟨by(with_reducible repeat (first|apply Kd.R_alloc|apply Kd.R_drewN|apply Kd.R_drew));exact HO979.out⟩,⟨bz⟩⟩
    case round =>
     clear H'
     try clear c2
     try clear p2
     try clear c3
     try clear c5
     try clear c9
     try clear p2
     obtain⟨x6_2,x7_2,rfl,HA,HK2,HO_6,HB⟩:=hrel
     cases gk with
     | zero=>exact absurd HA.out (by simp[spec_OrdRaise.l0])
     | succ k2 =>
      have H:=HA.out
      clear HA
      simp only[spec_OrdRaise.l0] at H
      by_cases c14:x7_2<a1
      ·rw[if_pos c14] at H
       have c14b0:decide (x7_2<a1)=true:=decide_eq_true c14
       clear c14
       replace H:=Option.bind_eq_some_iff.mp H
       obtain⟨⟨t980,t981⟩,A150,H⟩:=H
       replace H:(if t981=true then(spec_OrdRaise.l0 k2 l0 a1 t980 (wrap64 (x7_2+1))) else(some ((([]:List Int)),false)))=some (r1,r2):=H
       have A15:=Aside0.mk A150
       clear A150
       by_cases c16:t981=true
       ·subst c16
        have H1:(spec_OrdRaise.l0 k2 l0 a1 t980 (wrap64 (x7_2+1)))=some (r1,r2):=by rw[if_pos rfl] at H;exact H
        clear H
        have H:=H1
        clear H1
        have H':=Aside0.mk H
        clear H
        obtain⟨Ao17,co17,eo17⟩:=Kd.R_slice HO_6.out
        subst eo17
        go_wp2_with (first|((with_reducible refine gate_callee (f:=25) rfl ?_);refine goesL_ (some 28) rfl rfl Try.func25 (by kernel_rfl) rfl #[.slice Ao17 x6_2.length co17,.slice A0 l0.length c0] rfl az ?_;(with_reducible refine(spec_OrdTimes.calls k2 _ _ x6_2 _ _ l0 t980 true _ ?side1 ?side2 ?side3 ?side4 A15.out).mono ?_);(case side1=>exact Kd.Cz (Kd.R_reads' HO_6.out).2.2);(case side2=>exact(Kd.R_reads' HO_6.out).2.1);(case side3=>exact Kd.Cz (Kd.C_below HR0.out HB.out));(case side4=>exact HC0.out);rintro e w18 ⟨v982,rfl,ho0,hb⟩;refine⟨_,rfl,?_⟩;have HO983:=Aside0.mk (Kd.R_lower (Kd.R_new' ho0 (Kd.R_lt (Kd.Rz HO_6.out))) (below_size bz));replace HO_6:=Aside0.mk (Kd.R_elder' (Kd.Rz HO_6.out) (Kd.R_base ho0) hb);replace HB:=Aside0.mk (below_step bz hb);(try clear hb);(try clear hb2);(try clear hk);(try clear hi);(try clear ho0)))
        go_roundg k2
        case measure=>have:=HJ2.out;have:=HK2.out;omega
        case rel=>exact⟨(t980),(wrap64 (x7_2+1)),(by first|rfl|(simp;done)|(simp[*];done)),H',⟨by have:=HJ2.out;have:=HK2.out;omega⟩,⟨Kd.Rz <| Kd.R_mono HO983.out (fun _ hk=>trivial)⟩,⟨bz⟩⟩
       ·replace c16:=Bool.eq_false_iff.mpr c16
        subst c16
        have H1:(some ((([]:List Int)),false))=some (r1,r2):=by rw[if_neg (show ¬ (false=true) by decide)] at H;exact H
        clear H
        have H:=H1
        clear H1
        obtain⟨y984,hy984⟩:∃ y_:List Int,y_=(([]:List Int)):=⟨_,rfl⟩
        replace H:(some (y984,false))=some (r1,r2):=hz hy984 H
        have Ny984:=Aside0.mk hy984
        clear hy984
        simp only[Option.some.injEq,Prod.mk.injEq] at H
        obtain⟨rfl,rfl⟩:=H
        obtain⟨Ao19,co19,eo19⟩:=Kd.R_slice HO_6.out
        subst eo19
        go_wp2_with (first|((with_reducible refine gate_callee (f:=25) rfl ?_);refine goesL_ (some 28) rfl rfl Try.func25 (by kernel_rfl) rfl #[.slice Ao19 x6_2.length co19,.slice A0 l0.length c0] rfl az ?_;(with_reducible refine(spec_OrdTimes.calls k2 _ _ x6_2 _ _ l0 t980 false _ ?side1 ?side2 ?side3 ?side4 A15.out).mono ?_);(case side1=>exact Kd.Cz (Kd.R_reads' HO_6.out).2.2);(case side2=>exact(Kd.R_reads' HO_6.out).2.1);(case side3=>exact Kd.Cz (Kd.C_below HR0.out HB.out));(case side4=>exact HC0.out);rintro e w20 ⟨v982,rfl,ho0,hb⟩;refine⟨_,rfl,?_⟩;have HO983:=Aside0.mk (Kd.R_lower (Kd.R_new' ho0 (Kd.R_lt (Kd.Rz HO_6.out))) (below_size bz));replace HO_6:=Aside0.mk (Kd.R_elder' (Kd.Rz HO_6.out) (Kd.R_base ho0) hb);replace HB:=Aside0.mk (below_step bz hb);(try clear hb);(try clear hb2);(try clear hk);(try clear hi);(try clear ho0))|((with_reducible refine gate_dst (N:=33) rfl ?_);refine Kd.R_lit (Kd.int .i64) _ 3 ?hg (N:=33) ?hd (xs:=([]:List Int)) (inner:=[]) (ok:=fun _=>True) (okp:=fun _=>True) ?hr ?hp (fun _ hk=>hk) trivial (Below.refl _ _) (Nat.le_refl _) (by simp) ?_;(case hd=>rfl);(case hg=>rfl);(case hr=>first|(go_simp;done)|(go_simp;rfl));(case hp=>exact(Reps.none _ _));intro v985 w21 ho22 hb hg_ hnew_;clear hg_ hnew_;(first|rw[← Ny984.out] at ho22|(simp only[Int.reduceToNat] at ho22;rw[← Ny984.out] at ho22));have HO986:=Aside0.mk (Kd.R_lower (Kd.R_new' (Kd.R_new' ho22 (Kd.R_lt (Kd.Rz HO_6.out))) (Kd.R_lt (Kd.Rz HO983.out))) (below_size bz));replace HO_6:=Aside0.mk (Kd.R_elder' (Kd.Rz HO_6.out) (Kd.R_base ho22) hb);replace HO983:=Aside0.mk (Kd.R_elder' (Kd.Rz HO983.out) (Kd.R_base ho22) hb);replace HB:=Aside0.mk (below_step bz hb);clear hb ho22))
        go_ret2
        exact⟨_,by first|rfl|(simp[errW_none,errW_some]<;>rfl)|(simp[*,errW_none,errW_some]<;>rfl),Kd.Rz <| Kd.R_mono HO986.out (fun _ hk=>trivial),bz⟩
      ·rw[if_neg c14] at H
       have c14b0:decide (x7_2<a1)=false:=decide_eq_false c14
       clear c14
       simp only[Option.some.injEq,Prod.mk.injEq] at H
       obtain⟨rfl,rfl⟩:=H
       go_wp2
       go_ret2
       exact⟨_,by first|rfl|(simp[errW_none,errW_some]<;>rfl)|(simp[*,errW_none,errW_some]<;>rfl),by(with_reducible repeat (first|apply Kd.R_alloc|apply Kd.R_drewN|apply Kd.R_drew));exact HO_6.out,bz⟩
end Go.Proofs.Ytfblcanijhnhmaa.P