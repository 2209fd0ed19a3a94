/- One Go function comes to what its Lean function tells. -/
import Derived.Test.YtfblcanijhnhmaaP0
namespace Go.Proofs.Ytfblcanijhnhmaa.P
open Go.RowKit YtfblcanijhnhmaaW.PrintWords YtfblcanijhnhmaaW.PrintLast YtfblcanijhnhmaaW.PrintMore
set_option linter.unusedVariables false
set_option linter.unusedSimpArgs false
/-! ### impl_sizeOf: function 69 -/
mutual
def impl_sizeOf.l0:Nat→Int→List (S61)→Int→Int→Option (Int)
 | 0,_,_,_,_=>none
 | k+1,x3,x6,x7,x8=>if x8<x7 then(if 0≤x8 then(if x8<(x6.length:Int) then((impl_sizeOf.f k ((rd_T61 x6 x8).f1)).bind fun t174=>(impl_sizeOf.l0 k (wrap64 (x3+(wrap64 (1+t174)))) x6 x7 (wrap64 (x8+1)))) else(none)) else(none)) else(some x3)
def impl_sizeOf.f:Nat→List (S61)→Option (Int)
 | 0,_=>none
 | k+1,l0=>impl_sizeOf.l0 k 1 l0 (l0.length:Int) 0
end
set_option maxHeartbeats 8000000 in
set_option maxRecDepth 100000 in
theorem impl_sizeOf.calls (k:Nat):∀ (A0:Option Addr) (c0:Nat) (l0:List (S61)) (r:Int) (w:World) (aa:Kd.C k61 w A0 l0.length l0) (ab:l0.length≤c0) (h:impl_sizeOf.f k l0=some r),
  Calls Try.prog 69 #[.slice A0 l0.length c0] w fun e w'=>e=.returned (.int .i64 r)∧Below w.heap.size w w':=by
 induction k using Nat.strongRecOn with
 | _ k ih =>
 intro A0 c0 l0 r w aa ab h
 cases k with
 | zero=>exact absurd h (by simp[impl_sizeOf.f])
 | succ k =>
 simp only[impl_sizeOf.f] at h;have ar:=Try.underlying61;have aj:=Sd.mk aa;have a0:=Sd.mk ab;clear aa ab;have HB:=Sd.mk (Below.refl w.heap.size w);have H:(impl_sizeOf.l0 k 1 l0 (l0.length:Int) 0)=some r:=h;clear h;have H':=Sd.mk H;clear H;go_enter Try.func69,Try.ntmps69;go_wp2
 go_loopg [3,8] k (fun kq v3 v8 w'=>∃ (J:Int) (j:Int),v3=.int .i64 J∧v8=.int .i64 j∧Sd (impl_sizeOf.l0 kq J l0 (l0.length:Int) j=some r)∧Sd (kq≤k)∧Sd (Below w.heap.size w w'))
 case atStart=>exact⟨(1),(0),(by first|rfl|(simp;done)|(simp[*];done)),(by first|rfl|(simp;done)|(simp[*];done)),H',⟨Nat.le_refl _⟩,⟨bz⟩⟩
 case round =>
  clear H';obtain⟨J,j,rfl,rfl,HA,ac,HB⟩:=hrel
  cases gk with
  | zero=>exact absurd HA.out (by simp[impl_sizeOf.l0])
  | succ k1 =>
   have H:=HA.out;clear HA;simp only[impl_sizeOf.l0] at H
   by_cases c2:j<(l0.length:Int)
   ·rw[if_pos c2] at H
    have ah:decide (j<(l0.length:Int))=true:=decide_eq_true c2;clear c2
    by_cases c3:0≤j
    ·rw[if_pos c3] at H
     have aw:decide (0≤j)=true:=decide_eq_true c3;clear c3
     by_cases c4:j<(l0.length:Int)
     ·rw[if_pos c4] at H
      have ax:decide (j<(l0.length:Int))=true:=decide_eq_true c4;clear c4;obtain⟨ad,A5,H⟩:=bs H;have H':=Sd.mk H;clear H;have U:0≤(j:Int):=dz;have X:j<(l0.length:Int):=dz;obtain⟨ap,M,O,ai,D,E,G,I⟩:=at_T61 aj.out j U X;cases ai;replace D:=(HB.out.cell (World.block_lt_of_cell? w _ D)).trans D;replace E:=(HB.out.cell (World.block_lt_of_cell? w _ E)).trans E;have Y:=Sd.mk I;have Z:=Sd.mk G;clear I G;replace U:=eq_true U;replace X:=eq_true X;go_wp2_with (first|((with_reducible refine gate_dst (N:=5) rfl ?_);refine box_event ?hg (N:=5) ?hd (cs:=#[.int .i64 0,.slice none 0 0]) (t:=61) ?hr ?_;(case hd=>rfl);(case hg=>rfl);(case hr=>first|(go_simp;done)|(go_simp;rfl));intro z hg w6 hbox hb;have m:=Sd.mk (hbox);have aq:=Sd.mk ((by rw[hg];exact(below_size bz):w.heap.size≤z));have L:=Sd.mk ((by rw[hg];exact(below_size bz):w.heap.size≤z));replace HB:=Sd.mk (below_step bz hb);clear hb hbox hg;have al:w6.cell? ⟨z,0,none⟩=some (.int .i64 0):=(blk_cell m.out 0).trans rfl;have am:w6.cell? ⟨z,1,none⟩=some (.slice none 0 0):=(blk_cell m.out 1).trans rfl;have an:=blk_frozen m.out 0;have ao:=blk_frozen m.out 1)|((with_reducible refine gate_callee (f:=69) rfl ?_);refine goesL_ (some 15) rfl rfl Try.func69 (by kernel_rfl) rfl #[.slice M ((rd_T61 l0 j).f1).length O] rfl az ?_;(with_reducible refine(ih k1 (by have:=ac.out;omega) _ _ ((rd_T61 l0 j).f1) ad _ ?side1 ?side2 A5.out).mono ?_);(case side1=>exact Kd.C_below Y.out (by repeat (first|(with_reducible first|exact HB.out|apply below_alloc|apply pw_below_drewN|apply below_drew1|refine below_set ?_ L.out)|exact HB.out)));(case side2=>exact Z.out);rintro e w8 ⟨rfl,hb⟩;refine⟨_,rfl,?_⟩;replace m:=Sd.mk (blk_below (g:=z) (o:=.cells #[.int .i64 ((rd_T61 l0 j).f0),.slice M ((rd_T61 l0 j).f1).length O] 61 (0,0)) (by(with_reducible repeat (first|refine blk_drewN ?_ _|refine blk_drew ?_|refine blk_alloc ?_ _));refine blk_put (cs:=#[.int .i64 ((rd_T61 l0 j).f0),.slice none 0 0]) ?_ 1 _ rfl;(with_reducible repeat (first|refine blk_drewN ?_ _|refine blk_drew ?_|refine blk_alloc ?_ _));refine blk_put (cs:=#[.int .i64 0,.slice none 0 0]) ?_ 0 _ rfl;(with_reducible repeat (first|refine blk_drewN ?_ _|refine blk_drew ?_|refine blk_alloc ?_ _));exact m.out) hb);replace HB:=Sd.mk (below_step (by repeat (first|(with_reducible first|exact HB.out|apply below_alloc|apply pw_below_drewN|apply below_drew1|refine below_set ?_ L.out)|exact HB.out)) hb)))
      go_roundg k1
      case measure=>have:=ac.out;omega
      case rel=>exact⟨(wrap64 (J+(wrap64 (1+ad)))),(wrap64 (j+1)),(by first|rfl|(simp;done)|(simp[*];done)),(by first|rfl|(simp;done)|(simp[*];done)),H',⟨by have:=ac.out;omega⟩,⟨by repeat (first|(with_reducible first|exact HB.out|apply below_alloc|apply pw_below_drewN|apply below_drew1|refine below_set ?_ L.out)|exact HB.out)⟩⟩
     ·rw[if_neg c4] at H
      exact absurd H (by simp)
    ·rw[if_neg c3] at H
     exact absurd H (by simp)
   ·rw[if_neg c2] at H
    have ah:decide (j<(l0.length:Int))=false:=decide_eq_false c2;clear c2;obtain rfl:=Option.some.inj H;go_wp2;go_ret;exact⟨by first|rfl|(simp[errW_none,errW_some]<;>rfl)|(simp[*,errW_none,errW_some]<;>rfl),bz⟩
end Go.Proofs.Ytfblcanijhnhmaa.P