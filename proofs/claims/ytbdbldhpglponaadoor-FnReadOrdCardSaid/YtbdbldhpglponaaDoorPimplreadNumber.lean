/- One Go function comes to what its Lean function tells. -/
import Derived.Test.YtbdbldhpglponaaDoorP0
import Derived.Test.YtbdbldhpglponaaDoorShelf
namespace Go.Proofs.YtbdbldhpglponaaDoor.P
open Go.RowKit YtbdbldhpglponaaDoorW.PrintWords YtbdbldhpglponaaDoorW.PrintLast YtbdbldhpglponaaDoorW.PrintMore
set_option linter.unusedVariables false
set_option linter.unusedSimpArgs false
-- NOT PRINTED: function 84 (strconv_ParseUint)
-- NOT PRINTED: function 74 (strconv_ParseInt)
-- NOT PRINTED: function 65 (strconv_Atoi_65)
-- NOT PRINTED: function 85 (stringslite_Clone)
-- NOT PRINTED: function 75 (strconv_syntaxError)
-- NOT PRINTED: function 76 (strconv_rangeError)
/-! ### impl_readNumber: function 47 (by hand) -/
def impl_readNumber.e (a0:ByteArray)(x:Int):Option (Int × ByteArray × Bool):=if 0≤x then(if x≤(a0.size:Int) then(if(a0.extract 0 x.toNat).size≤281474976710656 then some ((atoiV (a0.extract 0 x.toNat)).1,a0.extract x.toNat a0.size,(atoiV (a0.extract 0 x.toNat)).2 && decide (x≤5)) else none) else none) else none
def impl_readNumber.l0:Nat→ByteArray→Int→Option (Int × ByteArray × Bool)
 | 0,_,_=>none
 | k+1,a0,x=>if x<(a0.size:Int) then(if 0≤x then(if(bt a0 x)≥48 then(if(bt a0 x)≤57 then impl_readNumber.l0 k a0 (wrap64 (x+1)) else impl_readNumber.e a0 x) else impl_readNumber.e a0 x) else none) else impl_readNumber.e a0 x
def impl_readNumber.f (k:Nat)(a0:ByteArray):Option (Int × ByteArray × Bool):=impl_readNumber.l0 k a0 0
set_option maxHeartbeats 8000000 in
set_option maxRecDepth 100000 in
theorem impl_readNumber.calls (k:Nat)(m:ByteArray)(I:Int)(J:ByteArray)(L:Bool)(w:World)(h:impl_readNumber.f k m=some (I,J,L))(M:TB w:=by first|exact HT0.out|exact TB.up HT0.out (by repeat (first|(with_reducible first|exact HB.out|apply below_alloc|apply pw_below_drewN|apply below_drew1)|exact HB.out|refine below_set ?_ (Sd.out (by assumption))))) :
  Calls Tryd.prog 47 #[.string m] w fun e w'=>e=.returned (.tuple #[.int .i64 I,.string J,.bool L])∧Below w.heap.size w w':=by
 have HT0:Sd (TB w):=⟨M⟩;have HB:=Sd.mk (Below.refl w.heap.size w);have H':=Sd.mk (show impl_readNumber.l0 k m 0=some (I,J,L) from h);clear h M;go_enter Tryd.func47,Tryd.ntmps47;go_wp2
 go_loopg [5] k (fun kq v5 w'=>∃ (j:Int),v5=.int .i64 j∧Sd (impl_readNumber.l0 kq m j=some (I,J,L))∧Sd (kq≤k)∧Sd (Below w.heap.size w w'))
 case atStart=>exact⟨0,(by first|rfl|(simp;done)|(simp[*];done)),H',⟨Nat.le_refl _⟩,⟨bz⟩⟩
 case round =>
  clear H';obtain⟨j,rfl,U,O,HB⟩:=hrel
  cases gk with
  | zero=>exact absurd U.out (by simp[impl_readNumber.l0])
  | succ k1 =>
   have H:=U.out;clear U;simp only[impl_readNumber.l0] at H
   by_cases c3:j<(m.size:Int)
   ·rw[if_pos c3] at H
    have X:decide (j<(m.size:Int))=true:=decide_eq_true c3;clear c3
    by_cases c4:0≤j
    ·rw[if_pos c4] at H
     have ae:decide (0≤j)=true:=decide_eq_true c4;clear c4;have p5:0≤(j:Int):=dz;have q5:j<(m.size:Int):=dz;have af:=bt_at m j;replace p5:=eq_true p5;replace q5:=eq_true q5
     by_cases c6:(bt m j)≥48
     ·rw[if_pos c6] at H
      have Y:decide (48≤(bt m j))=true:=decide_eq_true c6;clear c6
      by_cases c8:(bt m j)≤57
      ·rw[if_pos c8] at H
       have Z:decide ((bt m j)≤57)=true:=decide_eq_true c8;clear c8;have H':=Sd.mk H;clear H;go_wp2
       go_roundg k1
       case measure=>have:=O.out;omega
       case rel=>exact⟨(wrap64 (j+1)),(by first|rfl|(simp;done)|(simp[*];done)),H',⟨by have:=O.out;omega⟩,⟨bz⟩⟩
      ·rw[if_neg c8] at H
       have Z:decide ((bt m j)≤57)=false:=decide_eq_false c8;clear c8;have G:=Sd.mk (show impl_readNumber.e m j=some (I,J,L) from H);clear H;have H:=G.out;clear G;unfold impl_readNumber.e at H
       by_cases o:0≤j
       case neg=>rw[if_neg o] at H;cases H
       by_cases z:j≤(m.size:Int)
       case neg=>rw[if_pos o,if_neg z] at H;cases H
       by_cases D:(m.extract 0 j.toNat).size≤281474976710656
       case neg=>rw[if_pos o,if_pos z,if_neg D] at H;cases H
       rw[if_pos o,if_pos z,if_pos D] at H;have LM:=Sd.mk D;clear D;have d1a:=eq_true o;have d1b:decide (0≤j)=true:=decide_eq_true o;have d2a:=eq_true z;have d2b:decide (j≤(m.size:Int))=true:=decide_eq_true z;clear o z;simp only[Option.some.injEq,Prod.mk.injEq] at H;obtain⟨rfl,rfl,rfl⟩:=H;go_wp2_with (first|((with_reducible refine gate_callee (f:=59) rfl ?_);refine goesL_ (some 30) rfl rfl Tryd.func59 (by kernel_rfl) rfl #[.string (m.extract 0 j.toNat)] rfl az ?_;(refine(atoi_calls (m.extract 0 j.toNat) LM.out _ (TB.up HT0.out bz)).mono ?_);rintro e w1 ⟨ev,rfl,hev,hb⟩;refine⟨_,rfl,?_⟩;have E:=Sd.mk (below_step bz hb);clear HB;have HB:=E;clear E;clear hb;rcases hev with ⟨hv,rfl⟩ | ⟨hv,t_,p_,rfl⟩))
       ·go_quiet (fail)
        go_wp2;go_ret3;exact⟨by rw[hv];first|rfl|(simp;done)|(simp[*];done),bz⟩
       ·go_quiet (fail)
        go_wp2;go_ret3;exact⟨by rw[hv];first|rfl|(simp;done)|(simp[*];done),bz⟩
     ·rw[if_neg c6] at H
      have Y:decide (48≤(bt m j))=false:=decide_eq_false c6;clear c6;have G:=Sd.mk (show impl_readNumber.e m j=some (I,J,L) from H);clear H;have H:=G.out;clear G;unfold impl_readNumber.e at H
      by_cases o:0≤j
      case neg=>rw[if_neg o] at H;cases H
      by_cases z:j≤(m.size:Int)
      case neg=>rw[if_pos o,if_neg z] at H;cases H
      by_cases D:(m.extract 0 j.toNat).size≤281474976710656
      case neg=>rw[if_pos o,if_pos z,if_neg D] at H;cases H
      rw[if_pos o,if_pos z,if_pos D] at H;have LM:=Sd.mk D;clear D;have d1a:=eq_true o;have d1b:decide (0≤j)=true:=decide_eq_true o;have d2a:=eq_true z;have d2b:decide (j≤(m.size:Int))=true:=decide_eq_true z;clear o z;simp only[Option.some.injEq,Prod.mk.injEq] at H;obtain⟨rfl,rfl,rfl⟩:=H;go_wp2_with (first|((with_reducible refine gate_callee (f:=59) rfl ?_);refine goesL_ (some 30) rfl rfl Tryd.func59 (by kernel_rfl) rfl #[.string (m.extract 0 j.toNat)] rfl az ?_;(refine(atoi_calls (m.extract 0 j.toNat) LM.out _ (TB.up HT0.out bz)).mono ?_);rintro e w1 ⟨ev,rfl,hev,hb⟩;refine⟨_,rfl,?_⟩;have E:=Sd.mk (below_step bz hb);clear HB;have HB:=E;clear E;clear hb;rcases hev with ⟨hv,rfl⟩ | ⟨hv,t_,p_,rfl⟩))
      ·go_quiet (fail)
       go_wp2;go_ret3;exact⟨by rw[hv];first|rfl|(simp;done)|(simp[*];done),bz⟩
      ·go_quiet (fail)
       go_wp2;go_ret3;exact⟨by rw[hv];first|rfl|(simp;done)|(simp[*];done),bz⟩
    ·rw[if_neg c4] at H;cases H
   ·rw[if_neg c3] at H
    have X:decide (j<(m.size:Int))=false:=decide_eq_false c3;clear c3;have G:=Sd.mk (show impl_readNumber.e m j=some (I,J,L) from H);clear H;have H:=G.out;clear G;unfold impl_readNumber.e at H
    by_cases o:0≤j
    case neg=>rw[if_neg o] at H;cases H
    by_cases z:j≤(m.size:Int)
    case neg=>rw[if_pos o,if_neg z] at H;cases H
    by_cases D:(m.extract 0 j.toNat).size≤281474976710656
    case neg=>rw[if_pos o,if_pos z,if_neg D] at H;cases H
    rw[if_pos o,if_pos z,if_pos D] at H;have LM:=Sd.mk D;clear D;have d1a:=eq_true o;have d1b:decide (0≤j)=true:=decide_eq_true o;have d2a:=eq_true z;have d2b:decide (j≤(m.size:Int))=true:=decide_eq_true z;clear o z;simp only[Option.some.injEq,Prod.mk.injEq] at H;obtain⟨rfl,rfl,rfl⟩:=H;go_wp2_with (first|((with_reducible refine gate_callee (f:=59) rfl ?_);refine goesL_ (some 30) rfl rfl Tryd.func59 (by kernel_rfl) rfl #[.string (m.extract 0 j.toNat)] rfl az ?_;(refine(atoi_calls (m.extract 0 j.toNat) LM.out _ (TB.up HT0.out bz)).mono ?_);rintro e w1 ⟨ev,rfl,hev,hb⟩;refine⟨_,rfl,?_⟩;have E:=Sd.mk (below_step bz hb);clear HB;have HB:=E;clear E;clear hb;rcases hev with ⟨hv,rfl⟩ | ⟨hv,t_,p_,rfl⟩))
    ·go_quiet (fail)
     go_wp2;go_ret3;exact⟨by rw[hv];first|rfl|(simp;done)|(simp[*];done),bz⟩
    ·go_quiet (fail)
     go_wp2;go_ret3;exact⟨by rw[hv];first|rfl|(simp;done)|(simp[*];done),bz⟩
end Go.Proofs.YtbdbldhpglponaaDoor.P