/- One Go function comes to what its Lean function tells. -/
import Derived.Test.YtfblcanijhnhmaaP0
namespace Go.Proofs.Ytfblcanijhnhmaa.P
open Go.RowKit YtfblcanijhnhmaaW.PrintWords YtfblcanijhnhmaaW.PrintLast YtfblcanijhnhmaaW.PrintMore
attribute [local go_sem] max2_int min2_int max_two min_two max_three min_three max_four min_four   
set_option linter.unusedVariables false
set_option linter.unusedSimpArgs false
/-! ### impl_most: function 70 -/
mutual
def impl_most.l0:Nat→Int→List (S61)→Int→Int→Option (Int)
 | 0,_,_,_,_=>none
 | k+1,x3,x6,x7,x8=>if x8<x7 then(if 0≤x8 then(if x8<(x6.length:Int) then((impl_most.f k ((rd_T61 x6 x8).f1)).bind fun t177=>(impl_most.l0 k (mx (mx x3 ((rd_T61 x6 x8).f0)) t177) x6 x7 (wrap64 (x8+1)))) else(none)) else(none)) else(some x3)
def impl_most.f:Nat→List (S61)→Option (Int)
 | 0,_=>none
 | k+1,l0=>impl_most.l0 k 0 l0 (l0.length:Int) 0
end
def impl_most.T5:Bool × List (List Nat × List Nat):=(true,[([],[]),([],[]),([1],[1]),([],[]),([3],[3]),([4],[4]),([0,2,5],[0,2,5]),([6,5,0,1,2,3,4,5,6],[0,6])])
def impl_most.B5:List Nat:=[0,0,2,0,8,24,63,127]
theorem impl_most.tab5:rtab .any (opsOf Try.f70 5)=impl_most.T5:=by kernel_rfl
theorem impl_most.bits5:waitsOk impl_most.T5.2 impl_most.B5=true:=by kernel_rfl
set_option maxHeartbeats 8000000 in
set_option maxRecDepth 100000 in
theorem impl_most.calls (k:Nat):∀ (A0:Option Addr) (c0:Nat) (l0:List (S61)) (r:Int) (w:World) (ae:Kd.C k61 w A0 l0.length l0) (af:l0.length≤c0) (h:impl_most.f k l0=some r),
  Calls Try.prog 70 #[.slice A0 l0.length c0] w fun e w'=>e=.returned (.int .i64 r)∧Below w.heap.size w w':=by
 induction k using Nat.strongRecOn with
 | _ k ih =>
 intro A0 c0 l0 r w ae af h
 cases k with
 | zero=>exact absurd h (by simp[impl_most.f])
 | succ k =>
 simp only[impl_most.f] at h;have a4:=Try.underlying61;have ar:=Sd.mk ae;have a9:=Sd.mk af;clear ae af;have HB:=Sd.mk (Below.refl w.heap.size w);have H:(impl_most.l0 k 0 l0 (l0.length:Int) 0)=some r:=h;clear h;have H':=Sd.mk H;clear H;go_enter Try.func70,Try.ntmps70;go_wp2
 go_loopg [3,8] k (fun kq v3 v8 w'=>∃ (G:Int) (j:Int),v3=.int .i64 G∧v8=.int .i64 j∧Sd (impl_most.l0 kq G l0 (l0.length:Int) j=some r)∧Sd (kq≤k)∧Sd (Below w.heap.size w w'))
 case atStart=>exact⟨(0),(0),(by first|rfl|(simp;done)|(simp[*];done)),(by first|rfl|(simp;done)|(simp[*];done)),H',⟨Nat.le_refl _⟩,⟨bz⟩⟩
 case round =>
  clear H';obtain⟨G,j,rfl,rfl,HA,ag,HB⟩:=hrel
  cases gk with
  | zero=>exact absurd HA.out (by simp[impl_most.l0])
  | succ k1 =>
   have H:=HA.out;clear HA;simp only[impl_most.l0] at H
   by_cases c2:j<(l0.length:Int)
   ·rw[if_pos c2] at H
    have ao:decide (j<(l0.length:Int))=true:=decide_eq_true c2;clear c2
    by_cases c3:0≤j
    ·rw[if_pos c3] at H
     have a7:decide (0≤j)=true:=decide_eq_true c3;clear c3
     by_cases c4:j<(l0.length:Int)
     ·rw[if_pos c4] at H
      have a8:decide (j<(l0.length:Int))=true:=decide_eq_true c4;clear c4;obtain⟨L,A5,H⟩:=bs H;obtain⟨Z,X⟩:∃ j_:Int,(mx G ((rd_T61 l0 j).f0))=j_:=⟨_,rfl⟩
      replace H:(impl_most.l0 k1 (mx (Z) L) l0 (l0.length:Int) (wrap64 (j+1)))=some r:=by first|(rw[X] at H;exact H)|(simp only[X] at H ⊢;exact H)
      (try rw[X] at A5)
      have a0:(if G<((rd_T61 l0 j).f0) then((rd_T61 l0 j).f0) else G)=Z:=X;obtain⟨ah,M⟩:∃ j_:Int,(mx (Z) L)=j_:=⟨_,rfl⟩
      replace H:(impl_most.l0 k1 ah l0 (l0.length:Int) (wrap64 (j+1)))=some r:=by first|(rw[M] at H;exact H)|(simp only[M] at H ⊢;exact H)
      (try rw[M] at A5)
      have a1:(if(Z)<L then L else(Z))=ah:=M;have H':=Sd.mk H;clear H;have aa:0≤(j:Int):=dz;have ab:j<(l0.length:Int):=dz;obtain⟨a2,D,E,aq,I,J,O,U⟩:=at_T61 ar.out j aa ab;cases aq;replace I:=(HB.out.cell (World.block_lt_of_cell? w _ I)).trans I;replace J:=(HB.out.cell (World.block_lt_of_cell? w _ J)).trans J;have ac:=Sd.mk U;have ad:=Sd.mk O;clear U O;replace aa:=eq_true aa;replace ab:=eq_true ab
      try go_wp2_with (first|((with_reducible refine gate_dst (N:=5) rfl ?_);refine box_event ?hg (N:=5) ?hd (cs:=#[.int .i64 0,.slice none 0 0]) (t:=61) ?hr ?_;(case hd=>rfl);(case hg=>rfl);(case hr=>first|(go_simp;done)|(go_simp;rfl));intro z hg w8 hbox hb;have m:=Sd.mk (hbox);have a3:=Sd.mk ((by rw[hg];exact(below_size bz):w.heap.size≤z));have Y:=Sd.mk ((by rw[hg];exact(below_size bz):w.heap.size≤z));replace HB:=Sd.mk (below_step bz hb);clear hb hbox hg;have au:w8.cell? ⟨z,0,none⟩=some (.int .i64 0):=(blk_cell m.out 0).trans rfl;have av:w8.cell? ⟨z,1,none⟩=some (.slice none 0 0):=(blk_cell m.out 1).trans rfl;have aw:=blk_frozen m.out 0;have ax:=blk_frozen m.out 1))
      have aj:Sd (((w8.setCell ⟨z,0,none⟩ (.int .i64 ((rd_T61 l0 j).f0))).setCell ⟨z,1,none⟩ (.slice D ((rd_T61 l0 j).f1).length E)).heap[z]?=some (.cells #[.int .i64 ((rd_T61 l0 j).f0),.slice D ((rd_T61 l0 j).f1).length E] 61 (0,0))):=⟨by(with_reducible repeat (first|refine blk_drewN ?_ _|refine blk_drew ?_|refine blk_alloc ?_ _));refine blk_put (cs:=#[.int .i64 ((rd_T61 l0 j).f0),.slice none 0 0]) ?_ 1 _ rfl;(with_reducible repeat (first|refine blk_drewN ?_ _|refine blk_drew ?_|refine blk_alloc ?_ _));refine blk_put (cs:=#[.int .i64 0,.slice none 0 0]) ?_ 0 _ rfl;(with_reducible repeat (first|refine blk_drewN ?_ _|refine blk_drew ?_|refine blk_alloc ?_ _));exact m.out⟩;have ak:Sd (Below w.heap.size w ((w8.setCell ⟨z,0,none⟩ (.int .i64 ((rd_T61 l0 j).f0))).setCell ⟨z,1,none⟩ (.slice D ((rd_T61 l0 j).f1).length E))):=⟨by repeat (first|(with_reducible first|exact HB.out|apply below_alloc|apply pw_below_drewN|apply below_drew1|refine below_set ?_ Y.out)|exact HB.out)⟩
      generalize ((w8.setCell ⟨z,0,none⟩ (.int .i64 ((rd_T61 l0 j).f0))).setCell ⟨z,1,none⟩ (.slice D ((rd_T61 l0 j).f1).length E))=ay at aj ak ⊢
      have m:=aj;have HB:=ak;clear aj ak;replace m:=Sd.mk (blk_drew m.out);replace HB:=Sd.mk (below_drew1 HB.out);refine start_ (n:=8) (S:=fun w'=>w'.cell? ⟨z,0,none⟩=some (.int .i64 ((rd_T61 l0 j).f0))∧w'.cell? ⟨z,1,none⟩=some (.slice D ((rd_T61 l0 j).f1).length E)) (ds:=[]) #[F,F,F,F,F,F,F,F] (by kernel_rfl) rfl rfl ⟨(blk_cell m.out 0).trans rfl,(blk_cell m.out 1).trans rfl⟩ (fun hHeld=>?_);refine with_tabW impl_most.tab5 impl_most.bits5 (fun HT_ HW_=>?_)
      generalize ay.drew=ba at m HB hHeld ⊢
      refine qs 0 12 HT_.out ?_;refine qs 1 13 HT_.out ?_;refine qs 3 15 HT_.out ?_;refine tk 2 14 HT_.out HW_.out hHeld rfl rfl (by rintro w' ⟨s0,s1⟩;go_simp;with_reducible rfl) ?_;refine tk 4 16 HT_.out HW_.out hHeld rfl rfl (by rintro w' ⟨s0,s1⟩;go_simp;with_reducible rfl) ?_;refine on 5 17 HT_.out (fun K hK=>?_);refine goes_ Try.func70 (by kernel_rfl) rfl #[.slice D ((rd_T61 l0 j).f1).length E] (by rfl) rfl rfl az ?_
      with_reducible refine(ih k1 (by have:=ag.out;omega) _ _ ((rd_T61 l0 j).f1) L _ ?side1 ?side2 A5.out).mono ?_
      (case side1=>exact Kd.Cz (Kd.C_below ac.out HB.out))
      (case side2=>exact ad.out)
      rintro e bb ⟨rfl,hb⟩;refine⟨_,rfl,?_⟩;replace m:=Sd.mk (blk_below (g:=z) (o:=.cells #[.int .i64 ((rd_T61 l0 j).f0),.slice D ((rd_T61 l0 j).f1).length E] 61 (0,0)) (by(with_reducible repeat (first|refine blk_drewN ?_ _|refine blk_drew ?_|refine blk_alloc ?_ _));exact m.out) hb);replace HB:=Sd.mk (below_step (by repeat (first|(with_reducible first|exact HB.out|apply below_alloc|apply pw_below_drewN|apply below_drew1|refine below_set ?_ Y.out)|exact HB.out)) hb);refine hK.out _ _ ⟨(blk_cell m.out 0).trans rfl,(blk_cell m.out 1).trans rfl⟩ (fun hHeld=>?_);clear hK K;refine nm (some 17) ?_;refine qs 6 18 HT_.out ?_;refine qs 7 3 HT_.out ?_;refine done_ (done_of HT_.out (by kernel_rfl)) ?_
      try go_wp2
      go_roundg k1
      case measure=>have:=ag.out;omega
      case rel=>exact⟨(ah),(wrap64 (j+1)),(by first|rfl|(simp;done)|(simp only[← M]<;>(first|rfl|simp))|(simp[*];done)),(by first|rfl|(simp;done)|(simp[*];done)),H',⟨by have:=ag.out;omega⟩,⟨by repeat (first|(with_reducible first|exact HB.out|apply below_alloc|apply pw_below_drewN|apply below_drew1|refine below_set ?_ Y.out)|exact HB.out)⟩⟩
     ·rw[if_neg c4] at H
      exact absurd H (by simp)
    ·rw[if_neg c3] at H
     exact absurd H (by simp)
   ·rw[if_neg c2] at H
    have ao:decide (j<(l0.length:Int))=false:=decide_eq_false c2;clear c2;obtain rfl:=Option.some.inj H;go_wp2;go_ret;exact⟨by first|rfl|(simp[errW_none,errW_some]<;>rfl)|(simp[*,errW_none,errW_some]<;>rfl),bz⟩
end Go.Proofs.Ytfblcanijhnhmaa.P