/- One Go function comes to what its Lean function tells. -/
import Derived.Test.YtbdbldhpglponaaDoorP0
import Derived.Test.YtbdbldhpglponaaDoorPimplOrdText
import Derived.Test.YtbdbldhpglponaaDoorPimplReadOrd
import Derived.Test.YtbdbldhpglponaaDoorPlawsalive
import Derived.Test.YtbdbldhpglponaaDoorPlawssameInts
import Derived.Test.YtbdbldhpglponaaDoorPspecDrawReadOrd
import Derived.Test.YtbdbldhpglponaaDoorPspecReadOrd
import Derived.Test.YtbdbldhpglponaaDoorShelf
namespace Go.Proofs.YtbdbldhpglponaaDoor.P
open Go.RowKit YtbdbldhpglponaaDoorW.PrintWords YtbdbldhpglponaaDoorW.PrintLast YtbdbldhpglponaaDoorW.PrintMore
set_option linter.unusedVariables false
set_option linter.unusedSimpArgs false
/-! ### laws_FnReadOrd: function 5 -/
def laws_FnReadOrd.j0:Nat→ByteArray→List Int→Bool→Bool→Option (Bool)
 | 0,_,_,_,_=>none
 | k+1,x3,x4,x5,x33=>if x33=true then(some false) else(if x5=true then(if x3.size+1≤9223372036854775807 then((impl_ReadOrd.f k (x3++(⟨#[43]⟩:ByteArray))).bind fun bt719=>((impl_OrdText.f k x4).bind fun t723=>(if t723.toList=x3.toList then(some (!bt719.2)) else(some false)))) else(none)) else(if(x4.length:Int)=0 then((laws_alive.f k).bind fun t724=>(some t724)) else(some false)))
def laws_FnReadOrd.f (k:Nat)(l0:List Int):Option (Bool):=if(l0.length:Int)>1048576 then(some true) else((spec_DrawReadOrd.f k l0).bind fun t709=>((impl_ReadOrd.f k t709).bind fun bt710=>((spec_ReadOrd.f k t709).bind fun bt714=>((laws_sameInts.f k bt710.1 bt714.1).bind fun t718=>(if t718=true then(laws_FnReadOrd.j0 k t709 bt710.1 bt710.2 (bt710.2 != bt714.2)) else(laws_FnReadOrd.j0 k t709 bt710.1 bt710.2 true))))))
set_option maxHeartbeats 8000000 in
set_option maxRecDepth 100000 in
theorem laws_FnReadOrd.calls (k:Nat)(A0:Option Addr)(c0:Nat)(l0:List Int)(r:Bool)(w:World)(ao:Kd.C (Kd.int .u8) w A0 l0.length l0)(ap:l0.length≤c0)(h:laws_FnReadOrd.f k l0=some r)(aq:TB w:=by first|exact HT0.out|exact TB.up HT0.out (by repeat (first|(with_reducible first|exact HB.out|apply below_alloc|apply pw_below_drewN|apply below_drew1)|exact HB.out|refine below_set ?_ (Sd.out (by assumption))))) :
  Calls Tryd.prog 5 #[.slice A0 l0.length c0] w fun e w'=>e=.returned (.bool r)∧Below w.heap.size w w':=by
 have HT0:Sd (TB w):=⟨aq⟩;clear aq;have bu:=Sd.mk ao;have bv:=Sd.mk ap;clear ao ap;have HB:=Sd.mk (Below.refl w.heap.size w);have H:(if(l0.length:Int)>1048576 then(some true) else((spec_DrawReadOrd.f k l0).bind fun j=>((impl_ReadOrd.f k j).bind fun G=>((spec_ReadOrd.f k j).bind fun M=>((laws_sameInts.f k G.1 M.1).bind fun L=>(if L=true then(laws_FnReadOrd.j0 k j G.1 G.2 (G.2 != M.2)) else(laws_FnReadOrd.j0 k j G.1 G.2 true)))))))=some r:=h;clear h
 by_cases c2:(l0.length:Int)>1048576
 ·rw[if_pos c2] at H
  have a1:decide (1048576<(l0.length:Int))=true:=decide_eq_true c2;have a2:decide (1048576<l0.length)=true:=decide_eq_true (by omega);clear c2;obtain rfl:=Option.some.inj H;go_enter Tryd.func5,Tryd.ntmps5;go_wp2;go_ret;exact⟨by first|rfl|(simp[errW_none,errW_some]<;>rfl)|(simp[*,errW_none,errW_some]<;>rfl),bz⟩
 ·rw[if_neg c2] at H
  have a1:decide (1048576<(l0.length:Int))=false:=decide_eq_false c2;have a2:decide (1048576<l0.length)=false:=decide_eq_false (by omega);clear c2;obtain⟨j,A3,H⟩:=bs H;replace H:=Option.bind_eq_some_iff.mp H;obtain⟨⟨m,D⟩,ar,H⟩:=H;replace H:((spec_ReadOrd.f k j).bind fun M=>((laws_sameInts.f k m M.1).bind fun L=>(if L=true then(laws_FnReadOrd.j0 k j m D (D != M.2)) else(laws_FnReadOrd.j0 k j m D true))))=some r:=H;have A4:=Sd.mk ar;clear ar;replace H:=Option.bind_eq_some_iff.mp H;obtain⟨⟨U,ac⟩,au,H⟩:=H;replace H:((laws_sameInts.f k m U).bind fun L=>(if L=true then(laws_FnReadOrd.j0 k j m D (D != ac)) else(laws_FnReadOrd.j0 k j m D true)))=some r:=H;have A5:=Sd.mk au;clear au;have ah:=Sd.mk H;clear H;go_enter Tryd.func5,Tryd.ntmps5
  go_upto_region 6 with (first|((with_reducible refine gate_callee (f:=18) rfl ?_);refine goesL_ (some 14) rfl rfl Tryd.func18 (by kernel_rfl) rfl #[.slice A0 l0.length c0] rfl az ?_;(with_reducible refine(spec_DrawReadOrd.calls k _ _ l0 j _ ?side1 ?side2 A3.out).mono ?_);(case side1=>exact Kd.Cz bu.out);(case side2=>exact bv.out);rintro e w7 ⟨rfl,hb⟩;refine⟨_,rfl,?_⟩;replace HB:=Sd.mk (below_step bz hb))|((with_reducible refine gate_callee (f:=8) rfl ?_);refine goesL_ (some 17) rfl rfl Tryd.func8 (by kernel_rfl) rfl #[.string j] rfl az ?_;(with_reducible refine(impl_ReadOrd.calls k j m D _ A4.out).mono ?_);rintro e w8 ⟨a3,rfl,J,hb⟩;refine⟨_,rfl,?_⟩;have z:=Sd.mk (Kd.R_lower J (below_size bz));replace HB:=Sd.mk (below_step bz hb))|((with_reducible refine gate_callee (f:=7) rfl ?_);refine goesL_ (some 22) rfl rfl Tryd.func7 (by kernel_rfl) rfl #[.string j] rfl az ?_;(with_reducible refine(spec_ReadOrd.calls k j U ac _ A5.out).mono ?_);rintro e w9 ⟨b7,rfl,J,hb⟩;refine⟨_,rfl,?_⟩;have I:=Sd.mk (Kd.R_lower (Kd.R_new' J (Kd.R_lt (Kd.Rz z.out))) (below_size bz));replace z:=Sd.mk (Kd.R_elder' (Kd.Rz z.out) (Kd.R_base J) hb);replace HB:=Sd.mk (below_step bz hb)))
  (try simp only[Act.put,List.setIfInBounds_toArray,List.set_cons_zero,List.set_cons_succ])
  go_cut [33] (fun bw wc=>∃ (kq:Nat) (Y:Bool),bw=.bool Y∧Sd (laws_FnReadOrd.j0 kq j m D Y=some r)∧Sd (kq≤k)∧Sd (Kd.R (Kd.int .i64) 3 wc w.heap.size (fun _=>True) a3 m)∧Sd (Below w.heap.size w wc))
  case first =>
   have H:=ah.out;clear ah;obtain⟨L,av,H⟩:=bs H
   by_cases ae:L=true
   ·subst ae
    replace H:=ip rfl H;have H':=Sd.mk H;clear H;obtain⟨a4,a5,a6⟩:=Kd.R_slice z.out;subst a6;obtain⟨a7,a8,a9⟩:=Kd.R_slice I.out;subst a9;go_wp2_with (first|((with_reducible refine gate_callee (f:=17) rfl ?_);refine goesL_ (some 27) rfl rfl Tryd.func17 (by kernel_rfl) rfl #[.slice a4 m.length a5,.slice a7 U.length a8] rfl az ?_;(with_reducible refine(laws_sameInts.calls k _ _ m _ _ U true _ ?side1 ?side2 ?side3 ?side4 av.out).mono ?_);(case side1=>exact Kd.Cz (Kd.R_reads' z.out).2.2);(case side2=>exact(Kd.R_reads' z.out).2.1);(case side3=>exact Kd.Cz (Kd.R_reads' I.out).2.2);(case side4=>exact(Kd.R_reads' I.out).2.1);rintro e w' ⟨rfl,⟨nd,rfl⟩⟩;refine⟨_,rfl,?_⟩));go_meet
    case rel=>exact⟨_,((D != ac)),(by first|rfl|(simp;done)|(simp[*];done)),H',⟨by first|omega|exact Nat.le_refl _⟩,⟨Kd.Rz <| Kd.R_mono z.out (fun _ hk=>trivial)⟩,⟨bz⟩⟩
   ·replace ae:=Bool.eq_false_iff.mpr ae
    subst ae;replace H:=ng ft H;have H':=Sd.mk H;clear H;obtain⟨ba,bb,bc⟩:=Kd.R_slice z.out;subst bc;obtain⟨bd,be,bf⟩:=Kd.R_slice I.out;subst bf;go_wp2_with (first|((with_reducible refine gate_callee (f:=17) rfl ?_);refine goesL_ (some 27) rfl rfl Tryd.func17 (by kernel_rfl) rfl #[.slice ba m.length bb,.slice bd U.length be] rfl az ?_;(with_reducible refine(laws_sameInts.calls k _ _ m _ _ U false _ ?side1 ?side2 ?side3 ?side4 av.out).mono ?_);(case side1=>exact Kd.Cz (Kd.R_reads' z.out).2.2);(case side2=>exact(Kd.R_reads' z.out).2.1);(case side3=>exact Kd.Cz (Kd.R_reads' I.out).2.2);(case side4=>exact(Kd.R_reads' I.out).2.1);rintro e w' ⟨rfl,⟨nd,rfl⟩⟩;refine⟨_,rfl,?_⟩));go_meet
    case rel=>exact⟨_,(true),(by first|rfl|(simp;done)|(simp[*];done)),H',⟨by first|omega|exact Nat.le_refl _⟩,⟨Kd.Rz <| Kd.R_mono z.out (fun _ hk=>trivial)⟩,⟨bz⟩⟩
  case rest =>
   clear ah;obtain⟨kq,Y,rfl,HA,cc,o,HB⟩:=hcut
   cases kq with
   | zero=>exact absurd HA.out (by simp[laws_FnReadOrd.j0])
   | succ aa =>
    have H:=HA.out;clear HA;simp only[laws_FnReadOrd.j0] at H
    by_cases af:Y=true
    ·subst af
     replace H:=ip rfl H;obtain rfl:=Option.some.inj H;go_wp2;go_ret;exact⟨by first|rfl|(simp[errW_none,errW_some]<;>rfl)|(simp[*,errW_none,errW_some]<;>rfl),bz⟩
    ·replace af:=Bool.eq_false_iff.mpr af
     subst af;replace H:=ng ft H
     by_cases ag:D=true
     ·subst ag
      replace H:=ip rfl H
      by_cases ab:j.size+1≤9223372036854775807
      ·rw[if_pos ab] at H
       have b0:=eq_true ab;have b1:decide (j.size+1≤9223372036854775807)=true:=decide_eq_true ab
       try have b2:(9223372036854775807<j.size+1)=False:=eq_false (Nat.not_lt.2 ab)
       replace H:=Option.bind_eq_some_iff.mp H;obtain⟨⟨ai,ad⟩,aj,H⟩:=H;replace H:((impl_OrdText.f aa m).bind fun E=>(if E.toList=j.toList then(some (!ad)) else(some false)))=some r:=H;have aw:=Sd.mk aj;clear aj;obtain⟨E,ax,H⟩:=bs H
       by_cases Z:E.toList=j.toList
       ·rw[if_pos Z] at H
        have ak:(E.toList == j.toList)=true:=beq_iff_eq.mpr Z;have al:(E.toList != j.toList)=false:=bne_eq_false_iff_eq.mpr Z;clear Z;obtain rfl:=Option.some.inj H;go_wp2_with (first|((with_reducible refine gate_callee (f:=8) rfl ?_);refine goesL_ (some 45) rfl rfl Tryd.func8 (by kernel_rfl) rfl #[.string (j++(⟨#[43]⟩:ByteArray))] rfl az ?_;(with_reducible refine(impl_ReadOrd.calls aa (j++(⟨#[43]⟩:ByteArray)) ai ad _ aw.out).mono ?_);rintro e cd ⟨bh,rfl,J,hb⟩;refine⟨_,rfl,?_⟩;have O:=Sd.mk (Kd.R_lower (Kd.R_new' J (Kd.R_lt (Kd.Rz o.out))) (below_size bz));replace o:=Sd.mk (Kd.R_elder' (Kd.Rz o.out) (Kd.R_base J) hb);replace HB:=Sd.mk (below_step bz hb);obtain⟨bj,bk,bl⟩:=Kd.R_slice o.out;subst bl)|((with_reducible refine gate_callee (f:=13) rfl ?_);refine goesL_ (some 49) rfl rfl Tryd.func13 (by kernel_rfl) rfl #[.slice bj m.length bk] rfl az ?_;(with_reducible refine(impl_OrdText.calls aa _ _ m E _ ?side1 ?side2 ax.out).mono ?_);(case side1=>exact Kd.Cz (Kd.R_reads' o.out).2.2);(case side2=>exact(Kd.R_reads' o.out).2.1);rintro e ce ⟨rfl,hb⟩;refine⟨_,rfl,?_⟩;replace o:=Sd.mk (Kd.R_below (Kd.Rz o.out) hb);replace O:=Sd.mk (Kd.R_below (Kd.Rz O.out) hb);replace HB:=Sd.mk (below_step bz hb)));go_ret;exact⟨by first|rfl|(simp[errW_none,errW_some]<;>rfl)|(simp[*,errW_none,errW_some]<;>rfl),bz⟩
       ·rw[if_neg Z] at H
        have ak:(E.toList == j.toList)=false:=beq_eq_false_iff_ne.mpr Z;have al:(E.toList != j.toList)=true:=bne_iff_ne.mpr Z;obtain rfl:=Option.some.inj H;go_wp2_with (first|((with_reducible refine gate_callee (f:=8) rfl ?_);refine goesL_ (some 45) rfl rfl Tryd.func8 (by kernel_rfl) rfl #[.string (j++(⟨#[43]⟩:ByteArray))] rfl az ?_;(with_reducible refine(impl_ReadOrd.calls aa (j++(⟨#[43]⟩:ByteArray)) ai ad _ aw.out).mono ?_);rintro e cf ⟨bh,rfl,J,hb⟩;refine⟨_,rfl,?_⟩;have O:=Sd.mk (Kd.R_lower (Kd.R_new' J (Kd.R_lt (Kd.Rz o.out))) (below_size bz));replace o:=Sd.mk (Kd.R_elder' (Kd.Rz o.out) (Kd.R_base J) hb);replace HB:=Sd.mk (below_step bz hb);obtain⟨bm,bn,bo⟩:=Kd.R_slice o.out;subst bo)|((with_reducible refine gate_callee (f:=13) rfl ?_);refine goesL_ (some 49) rfl rfl Tryd.func13 (by kernel_rfl) rfl #[.slice bm m.length bn] rfl az ?_;(with_reducible refine(impl_OrdText.calls aa _ _ m E _ ?side1 ?side2 ax.out).mono ?_);(case side1=>exact Kd.Cz (Kd.R_reads' o.out).2.2);(case side2=>exact(Kd.R_reads' o.out).2.1);rintro e ch ⟨rfl,hb⟩;refine⟨_,rfl,?_⟩;replace o:=Sd.mk (Kd.R_below (Kd.Rz o.out) hb);replace O:=Sd.mk (Kd.R_below (Kd.Rz O.out) hb);replace HB:=Sd.mk (below_step bz hb)));go_ret;exact⟨by first|rfl|(simp[errW_none,errW_some]<;>rfl)|(simp[*,errW_none,errW_some]<;>rfl),bz⟩
      ·rw[if_neg ab] at H
       exact absurd H (by simp)
     ·replace ag:=Bool.eq_false_iff.mpr ag
      subst ag;replace H:=ng ft H
      by_cases X:(m.length:Int)=0
      ·rw[if_pos X] at H
       have am:((m.length:Int) == 0)=true:=beq_iff_eq.mpr X;have an:((m.length:Int) != 0)=false:=bne_eq_false_iff_eq.mpr X;clear X;obtain⟨bp,bx,H⟩:=bs H;obtain rfl:=Option.some.inj H;obtain⟨b8,b9,bq⟩:=Kd.R_slice o.out;subst bq;go_wp2_with (first|(go_at_call 16;(with_reducible refine(laws_alive.calls aa  bp _ bx.out).mono ?_);rintro e ci ⟨rfl,hb⟩;replace o:=Sd.mk (Kd.R_below (Kd.Rz o.out) hb);replace HB:=Sd.mk (below_step bz hb)));go_ret;exact⟨by first|rfl|(simp[errW_none,errW_some]<;>rfl)|(simp[*,errW_none,errW_some]<;>rfl),bz⟩
      ·rw[if_neg X] at H
       have am:((m.length:Int) == 0)=false:=beq_eq_false_iff_ne.mpr X;have an:((m.length:Int) != 0)=true:=bne_iff_ne.mpr X;have b3:¬ (m=[]):=fun h_=>X (by rw[h_];rfl);obtain rfl:=Option.some.inj H;obtain⟨ca,cb,br⟩:=Kd.R_slice o.out;subst br;go_wp2;go_ret;exact⟨by first|rfl|(simp[errW_none,errW_some]<;>rfl)|(simp[*,errW_none,errW_some]<;>rfl),bz⟩
/-- THE ONE PURE STATEMENT of laws_FnReadOrd: yours. -/
def laws_FnReadOrd.Pure:Prop:=∀ (l0:List Int),l0.length≤maxLen→l0.length*1≤140737488351232→(∀ x ∈ l0,(Lit.int .u8 x).wf=true)→∃ k,laws_FnReadOrd.f k l0=some true
theorem laws_FnReadOrd.walk (P:laws_FnReadOrd.Pure)(o:Option Addr)(m j:Nat)(z0:List Int)(w:World)(J:(o=none∧m=0∧j=0∧z0=[])∨∃ x,o=some x∧m≤j∧j≤maxLen∧z0.length=j∧(∀ i,i<z0.length→w.cell? (x.add i)=some (.int .u8 (z0.getD i 0)))∧∀ n ∈ z0,(Lit.int .u8 n).wf=true)(L:m*1≤140737488351232)(z:TB w) :
  Calls Tryd.prog 5 #[.slice o m j] w fun e w'=>e=.returned (.bool true)∧Below w.heap.size w w':=by
 obtain⟨l0,rfl,D,E,G,I⟩:=ReadsInt.ofRowC J;obtain⟨k,h⟩:=P l0 E L G;refine(laws_FnReadOrd.calls k _ _ l0 true w (Kd.C_of_reads (d:=(0:Int)) (h1:=fun _=>rfl) D) I h z).mono ?_;rintro e w' ⟨rfl,hd⟩;exact⟨rfl,hd⟩
end Go.Proofs.YtbdbldhpglponaaDoor.P