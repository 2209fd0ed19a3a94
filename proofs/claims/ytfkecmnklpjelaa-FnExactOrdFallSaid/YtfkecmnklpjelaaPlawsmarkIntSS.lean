/- One Go function comes to what its Lean function tells. -/
import Derived.Test.YtfkecmnklpjelaaP0
import Derived.Test.YtfkecmnklpjelaaPlawsmarkIntS
namespace Go.Proofs.Ytfkecmnklpjelaa.P
open Go.RowKit YtfkecmnklpjelaaW.PrintWords YtfkecmnklpjelaaW.PrintLast YtfkecmnklpjelaaW.PrintMore
set_option linter.unusedVariables false
set_option linter.unusedSimpArgs false
/-! ### laws_markIntSS: function 11 (by hand) -/
def laws_markIntSS.l0:Nat→List (List Int)→Int→Int→Option (Int × List (List Int))
 | 0,_,_,_=>none
 | k+1,x0,x1,x5=>if x5<(x0.length:Int) then(if 0≤x5 then((laws_markIntS.f k (rd_L1 x0 x5) x1).bind fun bt=>(laws_markIntSS.l0 k (x0.set (x5:Int).toNat bt.2) bt.1 (wrap64 (x5+1)))) else(none)) else(some (x1,x0))
def laws_markIntSS.f (k:Nat)(l0:List (List Int))(a1:Int):Option (Int × List (List Int)):=laws_markIntSS.l0 k l0 a1 0
theorem laws_markIntSS.mono_l:∀ k,(∀ y0 y1 y2,LeO (laws_markIntSS.l0 k y0 y1 y2) (laws_markIntSS.l0 (k+1) y0 y1 y2))
 | 0=>fun _ _ _ r h=>by simp[laws_markIntSS.l0] at h
 | k+1=>by
  have ih0:=laws_markIntSS.mono_l k
  intro y0 y1 y2
  unfold laws_markIntSS.l0
  refine LeO.ite ?_ (LeO.refl _)
  refine LeO.ite ?_ (LeO.refl _)
  exact LeO.bind (laws_markIntS.mono _ _ _) (fun _=>ih0 _ _ _)
theorem laws_markIntSS.mono:∀ a0 a1 k,LeO (laws_markIntSS.f k a0 a1) (laws_markIntSS.f (k+1) a0 a1):=by
 intro a0 a1 k
 exact laws_markIntSS.mono_l k _ _ _
set_option maxHeartbeats 8000000 in
set_option maxRecDepth 100000 in
theorem laws_markIntSS.calls (k:Nat)(P0_:Nat→Prop)(u9000_:Value)(l0:List (List Int))(a1:Int)(r1:Int)(r2:List (List Int))(w0 w:World)(hB:Below w0.heap.size w0 w)(ho0:Kd.S (Kd.slice 3 (Kd.int .i64)) 22 w w0.heap.size P0_ u9000_ l0)(h:laws_markIntSS.f k l0 a1=some (r1,r2)) :
  Calls Try.prog 11 #[u9000_,.int .i64 a1] w fun e w'=>e=.returned (.int .i64 r1)∧Kd.S (Kd.slice 3 (Kd.int .i64)) 22 w' w0.heap.size (fun k_=>(P0_ k_∨w.heap.size≤k_)) u9000_ r2∧Below w0.heap.size w0 w'∧Kept w w' (fun k_=>P0_ k_):=by
 have HO0:=Sd.mk ho0
 have HK:=Sd.mk (Kept.refl w (fun k_=>P0_ k_))
 have HB:=Sd.mk hB
 clear hB ho0
 have H':=Sd.mk (show (laws_markIntSS.l0 k l0 a1 0)=some (r1,r2) from h)
 clear h
 go_enter Try.func11,Try.ntmps11
 go_wp2
 go_loopg [1,5] k (fun kq v1 v5 w'=>∃ (x0_1:List (List Int)) (x1_1:Int) (x5_1:Int),v1=.int .i64 x1_1∧v5=.int .i64 x5_1∧Sd (laws_markIntSS.l0 kq x0_1 x1_1 x5_1=some (r1,r2))∧Sd (kq≤k)∧Sd (Kd.S (Kd.slice 3 (Kd.int .i64)) 22 w' w0.heap.size P0_ u9000_ x0_1)∧Sd (Kept w w' (fun k_=>P0_ k_))∧Sd (Below w0.heap.size w0 w'))
 case atStart=>exact⟨l0,a1,0,(by first|rfl|(simp;done)|(simp[*];done)),(by first|rfl|(simp;done)|(simp[*];done)),H',⟨Nat.le_refl _⟩,⟨by(with_reducible repeat (first|apply Kd.S_alloc|apply Kd.S_drewN|apply Kd.S_drew));exact HO0.out⟩,⟨(by repeat (first|(with_reducible first|exact HK.out|apply Kept.alloc|apply Kept.drewN|apply Kept.drew)|exact HK.out))⟩,⟨bz⟩⟩
 case round =>
  clear H' HO0
  obtain⟨x0_1,x1_1,x5_1,rfl,rfl,HA,HK1,HO_0,HK,HB⟩:=hrel
  cases gk with
  | zero=>exact absurd HA.out (by simp[laws_markIntSS.l0])
  | succ k1 =>
   have H:=HA.out
   clear HA
   simp only[laws_markIntSS.l0] at H
   by_cases c3:x5_1<(x0_1.length:Int)
   ·rw[if_pos c3] at H
    have c3b0:decide (x5_1<(x0_1.length:Int))=true:=decide_eq_true c3
    by_cases c4:0≤x5_1
    ·rw[if_pos c4] at H
     have c4b0:decide (0≤x5_1)=true:=decide_eq_true c4
     replace H:=Option.bind_eq_some_iff.mp H
     obtain⟨⟨t1,t2⟩,A50,H⟩:=H
     have H':=Sd.mk (show laws_markIntSS.l0 k1 (x0_1.set (x5_1:Int).toNat t2) t1 (wrap64 (x5_1+1))=some (r1,r2) from H)
     clear H
     obtain⟨g5,c5,rfl,gb5,gl5,cl5,HG5⟩:=Kd.S_form HO_0.out (by omega)
     obtain⟨oki,cc,hcl,hM,hcc,hoki,hH⟩:=Kd.S_lend HO_0.out ([]:List Int) x5_1 c4 c3
     obtain⟨xr,hxr⟩:∃ xr,xr=x0_1.getD x5_1.toNat []:=⟨_,rfl⟩
     rw[← hxr] at hM
     obtain⟨v5,rfl,hR5⟩:=hM
     obtain⟨A5_,c5_,rfl⟩:=Kd.R_slice hR5
     have hx5:=hcc 0 _ rfl
     rw[Nat.add_zero,show (Kd.slice 3 (Kd.int .i64)).sz=1 from rfl,Nat.mul_one] at hx5
     clear hcc hcl HG5 cl5
     have A5:=Sd.mk (show laws_markIntS.f k1 xr x1_1=some (t1,t2) from by rw[hxr];exact A50)
     clear A50 hxr
     have HR5:=Sd.mk (show Kd.R (Kd.int .i64) 3 _ w0.heap.size oki (.slice A5_ xr.length c5_) xr from hR5)
     have HH5:=Sd.mk hH
     have HOK:=Sd.mk hoki
     have GB5:=Sd.mk gb5
     clear hR5 hH hoki gb5
     have p5:=eq_true c4
     have q5:=eq_true c3
     clear c3 c4
     go_wp2_with (first|((with_reducible refine gate_callee (f:=10) rfl ?_);refine goesL_ (some 17) rfl rfl Try.func10 (by kernel_rfl) rfl #[.slice A5_ xr.length c5_,.int .i64 x1_1] rfl az ?_;(with_reducible refine(laws_markIntS.calls k1 oki _ xr x1_1 t1 t2 w0 _ ?side1 ?side2 A5.out).mono ?_);(case side1=>exact bz);(case side2=>exact(Kd.Rz HR5.out));rintro e w8 ⟨rfl,ho,hb,hk⟩;refine⟨_,rfl,?_⟩;have n0_:=Sd.mk (Kd.H_back (Kd.H_kept (by(with_reducible repeat (first|apply Kd.H_alloc|apply Kd.H_drewN|apply Kd.H_drew));exact HH5.out) hk (fun _ _ hn hs=>hn hs)) (Kd.M_row (Kd.R_mono (Kd.R_tight rfl ho) (fun k_ hk_=>HR5.out.1 k_ hk_.symm))) (fun _ hk_=>hk_));have n1_:=Sd.mk (Kept.then_ (by repeat (first|(with_reducible first|exact HK.out|apply Kept.alloc|apply Kept.drewN|apply Kept.drew)|exact HK.out)) hk (fun k_ hk_=>.inl (HOK.out k_ hk_).1));have n2_:=Sd.mk hb;clear HB HK HO_0;have HO_0:=n0_;have HB:=n2_;have HK:=n1_;clear n0_ n1_ n2_ hb hk ho HH5))
     go_roundg k1
     case measure=>have:=HK1.out;omega
     case rel=>exact⟨(x0_1.set (x5_1:Int).toNat t2),t1,(wrap64 (x5_1+1)),(by first|rfl|(simp;done)|(simp[*];done)),(by first|rfl|(simp;done)|(simp[*];done)),H',⟨by have:=HK1.out;omega⟩,⟨by(with_reducible repeat (first|apply Kd.S_alloc|apply Kd.S_drewN|apply Kd.S_drew));exact HO_0.out⟩,⟨(by repeat (first|(with_reducible first|exact HK.out|apply Kept.alloc|apply Kept.drewN|apply Kept.drew)|exact HK.out))⟩,⟨bz⟩⟩
    ·rw[if_neg c4] at H
     exact absurd H (by simp)
   ·rw[if_neg c3] at H
    have c3b0:decide (x5_1<(x0_1.length:Int))=false:=decide_eq_false c3
    clear c3
    simp only[Option.some.injEq,Prod.mk.injEq] at H
    obtain⟨rfl,rfl⟩:=H
    obtain⟨Ao9,co9,eo9⟩:=Kd.S_slice HO_0.out
    subst eo9
    go_wp2
    go_ret
    exact⟨by first|rfl|(simp[errW_none,errW_some]<;>rfl)|(simp[*,errW_none,errW_some]<;>rfl),by(with_reducible repeat (first|apply Kd.S_alloc|apply Kd.S_drewN|apply Kd.S_drew));exact Kd.S_mono HO_0.out (fun _ hk=>.inl hk),bz,(by repeat (first|(with_reducible first|exact HK.out|apply Kept.alloc|apply Kept.drewN|apply Kept.drew)|exact HK.out))⟩
end Go.Proofs.Ytfkecmnklpjelaa.P