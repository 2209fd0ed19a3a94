/- One Go function comes to what its Lean function tells. -/
import Derived.Test.YtfblcanijhnhmaaP0
import Derived.Test.YtfblcanijhnhmaaPspecl20Ord
import Derived.Test.YtfblcanijhnhmaaPspecl20Raw
import Derived.Test.YtfblcanijhnhmaaPspecl20Rdodd
import Derived.Test.YtfblcanijhnhmaaPspecl20Rdpick
namespace Go.Proofs.Ytfblcanijhnhmaa.P
open Go.RowKit YtfblcanijhnhmaaW.PrintWords YtfblcanijhnhmaaW.PrintLast YtfblcanijhnhmaaW.PrintMore
set_option linter.unusedVariables false
set_option linter.unusedSimpArgs false
/-! ### spec_l20Little: function 68 -/
def spec_l20Little.l0:Nat→List Int→Int→List Int→Int→Option (List Int × Int)
 | 0,_,_,_,_=>none
 | k+1,x5,x6,x1000,x1001=>if x6<4 then(if(x5.length:Int)>16 then((spec_l20Raw.f k x1000 x1001 1).bind fun bt937=>(spec_l20Little.l0 k bt937.1 (wrap64 (x6+1)) x1000 bt937.2)) else(some (x5,x1001))) else(some (x5,x1001))
def spec_l20Little.f (k:Nat)(s0_0:List Int)(s0_1:Int)(a1:Int):Option (List Int × Int):=(spec_l20Rd_odd.f k s0_0 s0_1 a1).bind fun bt927=>(if bt927.1=true then((spec_l20Ord.f k s0_0 bt927.2 1).bind fun bt929=>(some (bt929.1,bt929.2))) else((spec_l20Raw.f k s0_0 bt927.2 2).bind fun bt933=>(spec_l20Little.l0 k bt933.1 0 s0_0 bt933.2)))
set_option maxHeartbeats 8000000 in
set_option maxRecDepth 100000 in
theorem spec_l20Little.calls (k:Nat)(g:Nat)(j:List Int)(L:Int)(a1:Int)(Y:List Int)(Z:Int)(D w:World)(hI:IsS73 D w g j L)(hB:Below D.heap.size D w)(h:spec_l20Little.f k j L a1=some (Y,Z)) :
  Calls Try.prog 68 #[.pointer (some ⟨g,0,none⟩),.int .i64 a1] w fun e w'=>∃ ap:Value,e=.returned (ap)∧Kd.R (Kd.int .i64) 3 w' w.heap.size (fun _=>True) ap Y∧IsS73 D w' g j Z∧Below D.heap.size D w'∧KeepBut w w' g none:=by
 have HI0:=Sd.mk hI;have HK:=Sd.mk (KeepBut.refl w g none);have HL:=Sd.mk hB.size;clear hI;have be:=Sd.mk hB.size;have HB:=Sd.mk hB;clear hB;have H:((spec_l20Rd_odd.f k j L a1).bind fun X=>(if X.1=true then((spec_l20Ord.f k j X.2 1).bind fun G=>(some (G.1,G.2))) else((spec_l20Raw.f k j X.2 2).bind fun I=>(spec_l20Little.l0 k I.1 0 j I.2))))=some (Y,Z):=h;clear h;replace H:=Option.bind_eq_some_iff.mp H;obtain⟨⟨af,J⟩,aq,H⟩:=H;replace H:(if af=true then((spec_l20Ord.f k j J 1).bind fun G=>(some (G.1,G.2))) else((spec_l20Raw.f k j J 2).bind fun I=>(spec_l20Little.l0 k I.1 0 j I.2)))=some (Y,Z):=H;have A3:=Sd.mk aq;clear aq
 by_cases c4:af=true
 ·subst c4
  replace H:=ip rfl H;replace H:=Option.bind_eq_some_iff.mp H;obtain⟨⟨ag,ah⟩,ar,H⟩:=H;replace H:(some (ag,ah))=some (Y,Z):=H;have A5:=Sd.mk ar;clear ar;simp only[Option.some.injEq,Prod.mk.injEq] at H;obtain⟨rfl,rfl⟩:=H;go_enter Try.func68,Try.ntmps68;go_wp2_with (first|((with_reducible refine gate_callee (f:=76) rfl ?_);refine goesL_ (some 9) rfl rfl Try.func76 (by kernel_rfl) rfl #[.pointer (some ⟨g,0,none⟩),.int .i64 a1] rfl az ?_;(with_reducible refine(spec_l20Rd_odd.calls k g j L a1 true J D _ ?side1 ?side2 A3.out).mono ?_);(case side1=>exact iz);(case side2=>exact bi);rintro e w6 ⟨rfl,hi,hb,hk⟩;refine⟨_,rfl,?_⟩;replace HK:=Sd.mk (KeepBut.trans kz hk (.inl rfl));replace HB:=Sd.mk (hb);replace HI0:=Sd.mk (hi))|((with_reducible refine gate_callee (f:=67) rfl ?_);refine goesL_ (some 11) rfl rfl Try.func67 (by kernel_rfl) rfl #[.pointer (some ⟨g,0,none⟩),.int .i64 1] rfl az ?_;(with_reducible refine(spec_l20Ord.calls k g j J 1 ag ah D _ ?side1 ?side2 A5.out).mono ?_);(case side1=>exact iz);(case side2=>exact bi);rintro e w7 ⟨a4,rfl,M,hi,hb,hk⟩;refine⟨_,rfl,?_⟩;have aj:=Sd.mk (Kd.R_lower M (keep_size (w:=w) (g:=g) (row:=none) kz));replace HK:=Sd.mk (KeepBut.trans kz hk (.inl rfl));replace HB:=Sd.mk (hb);replace HI0:=Sd.mk (hi)));go_ret;exact⟨_,by first|rfl|(simp[errW_none,errW_some]<;>rfl)|(simp[*,errW_none,errW_some]<;>rfl),by(with_reducible repeat (first|apply Kd.R_alloc|apply Kd.R_drewN|apply Kd.R_drew));exact aj.out,iz,bi,by repeat (first|(with_reducible first|exact HK.out|apply KeepBut.set_|apply keep_drewN|apply keep_drew|apply keep_alloc)|exact HK.out)⟩
 ·replace c4:=Bool.eq_false_iff.mpr c4
  subst c4;replace H:=ng ft H;replace H:=Option.bind_eq_some_iff.mp H;obtain⟨⟨ab,ac⟩,au,H⟩:=H;replace H:(spec_l20Little.l0 k ab 0 j ac)=some (Y,Z):=H;have A8:=Sd.mk au;clear au;have H':=Sd.mk H;clear H;go_enter Try.func68,Try.ntmps68;go_wp2_with (first|((with_reducible refine gate_callee (f:=76) rfl ?_);refine goesL_ (some 9) rfl rfl Try.func76 (by kernel_rfl) rfl #[.pointer (some ⟨g,0,none⟩),.int .i64 a1] rfl az ?_;(with_reducible refine(spec_l20Rd_odd.calls k g j L a1 false J D _ ?side1 ?side2 A3.out).mono ?_);(case side1=>exact iz);(case side2=>exact bi);rintro e w9 ⟨rfl,hi,hb,hk⟩;refine⟨_,rfl,?_⟩;replace HK:=Sd.mk (KeepBut.trans kz hk (.inl rfl));replace HB:=Sd.mk (hb);replace HI0:=Sd.mk (hi))|((with_reducible refine gate_callee (f:=75) rfl ?_);refine goesL_ (some 13) rfl rfl Try.func75 (by kernel_rfl) rfl #[.pointer (some ⟨g,0,none⟩),.int .i64 2] rfl az ?_;(with_reducible refine(spec_l20Raw.calls k g j J 2 ab ac D _ ?side1 ?side2 A8.out).mono ?_);(case side1=>exact iz);(case side2=>exact bi);rintro e bf ⟨a6,rfl,M,hi,hb,hk⟩;refine⟨_,rfl,?_⟩;have ak:=Sd.mk (Kd.R_lower M (keep_size (w:=w) (g:=g) (row:=none) kz));replace HK:=Sd.mk (KeepBut.trans kz hk (.inl rfl));replace HB:=Sd.mk (hb);replace HI0:=Sd.mk (hi)))
  go_loopg [5,6] k (fun kq v5 v6 w'=>∃ (o:List Int) (z:Int) (m:Int),v6=.int .i64 z∧Sd (spec_l20Little.l0 kq o z j m=some (Y,Z))∧Sd (kq≤k)∧Sd (Kd.R (Kd.int .i64) 3 w' w.heap.size (fun _=>True) v5 o)∧Sd (IsS73 D w' g j m)∧Sd (KeepBut w w' g none)∧Sd (Below D.heap.size D w'))
  case atStart=>exact⟨(ab),(0),(ac),(by first|rfl|(simp;done)|(simp[*];done)),H',⟨Nat.le_refl _⟩,⟨Kd.Rz ak.out⟩,⟨iz⟩,⟨by repeat (first|(with_reducible first|exact HK.out|apply KeepBut.set_|apply keep_drewN|apply keep_drew|apply keep_alloc)|exact HK.out)⟩,⟨bi⟩⟩
  case round =>
   clear H';obtain⟨o,z,m,rfl,HA,av,E,HI0,HK,HB⟩:=hrel
   cases gk with
   | zero=>exact absurd HA.out (by simp[spec_l20Little.l0])
   | succ k1 =>
    have H:=HA.out;clear HA;simp only[spec_l20Little.l0] at H
    by_cases O:z<4
    ·rw[if_pos O] at H
     have al:decide (z<4)=true:=decide_eq_true O;clear O
     by_cases U:(o.length:Int)>16
     ·rw[if_pos U] at H
      have am:decide (16<(o.length:Int))=true:=decide_eq_true U;have an:decide (16<o.length)=true:=decide_eq_true (by omega);clear U;replace H:=Option.bind_eq_some_iff.mp H;obtain⟨⟨ad,ae⟩,ai,H⟩:=H;replace H:(spec_l20Little.l0 k1 ad (wrap64 (z+1)) j ae)=some (Y,Z):=H;have a2:=Sd.mk ai;clear ai;have H':=Sd.mk H;clear H;obtain⟨a9,ba,ax⟩:=Kd.R_slice E.out;subst ax;go_wp2_with (first|((with_reducible refine gate_callee (f:=75) rfl ?_);refine goesL_ (some 24) rfl rfl Try.func75 (by kernel_rfl) rfl #[.pointer (some ⟨g,0,none⟩),.int .i64 1] rfl az ?_;(with_reducible refine(spec_l20Raw.calls k1 g j m 1 ad ae D _ ?side1 ?side2 a2.out).mono ?_);(case side1=>exact iz);(case side2=>exact bi);rintro e bg ⟨bb,rfl,M,hi,hb,hk⟩;refine⟨_,rfl,?_⟩;have ao:=Sd.mk (Kd.R_lower (Kd.R_new' M (Kd.R_lt (Kd.Rz E.out))) (keep_size (w:=w) (g:=g) (row:=none) kz));replace E:=Sd.mk (Kd.R_mono (Kd.R_told (Kd.R_oldK (IsS73.apart (show IsS73 D _ g j m from iz) (Kd.Rz E.out) (by decide)) hk) (Kd.R_base M)) (fun _ h_=>h_.1));replace HK:=Sd.mk (KeepBut.trans kz hk (.inl rfl));replace HB:=Sd.mk (hb);replace HI0:=Sd.mk (hi)))
      go_roundg k1
      case measure=>have:=av.out;omega
      case rel=>exact⟨(ad),(wrap64 (z+1)),(ae),(by first|rfl|(simp;done)|(simp[*];done)),H',⟨by have:=av.out;omega⟩,⟨Kd.Rz <| Kd.R_mono ao.out (fun _ hk=>trivial)⟩,⟨iz⟩,⟨by repeat (first|(with_reducible first|exact HK.out|apply KeepBut.set_|apply keep_drewN|apply keep_drew|apply keep_alloc)|exact HK.out)⟩,⟨bi⟩⟩
     ·rw[if_neg U] at H
      have am:decide (16<(o.length:Int))=false:=decide_eq_false U;have an:decide (16<o.length)=false:=decide_eq_false (by omega);clear U;simp only[Option.some.injEq,Prod.mk.injEq] at H;obtain⟨rfl,rfl⟩:=H;obtain⟨bc,bd,ay⟩:=Kd.R_slice E.out;subst ay;go_wp2;go_ret;exact⟨_,by first|rfl|(simp[errW_none,errW_some]<;>rfl)|(simp[*,errW_none,errW_some]<;>rfl),by(with_reducible repeat (first|apply Kd.R_alloc|apply Kd.R_drewN|apply Kd.R_drew));exact E.out,iz,bi,by repeat (first|(with_reducible first|exact HK.out|apply KeepBut.set_|apply keep_drewN|apply keep_drew|apply keep_alloc)|exact HK.out)⟩
    ·rw[if_neg O] at H
     have al:decide (z<4)=false:=decide_eq_false O;clear O;simp only[Option.some.injEq,Prod.mk.injEq] at H;obtain⟨rfl,rfl⟩:=H;go_wp2;go_ret;exact⟨_,by first|rfl|(simp[errW_none,errW_some]<;>rfl)|(simp[*,errW_none,errW_some]<;>rfl),by(with_reducible repeat (first|apply Kd.R_alloc|apply Kd.R_drewN|apply Kd.R_drew));exact E.out,iz,bi,by repeat (first|(with_reducible first|exact HK.out|apply KeepBut.set_|apply keep_drewN|apply keep_drew|apply keep_alloc)|exact HK.out)⟩
end Go.Proofs.Ytfblcanijhnhmaa.P