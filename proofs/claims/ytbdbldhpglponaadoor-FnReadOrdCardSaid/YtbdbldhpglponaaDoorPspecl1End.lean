/- One Go function comes to what its Lean function tells. -/
import Derived.Test.YtbdbldhpglponaaDoorP0
import Derived.Test.YtbdbldhpglponaaDoorPspecl1Compare
import Derived.Test.YtbdbldhpglponaaDoorPspecl1In
namespace Go.Proofs.YtbdbldhpglponaaDoor.P
open Go.RowKit YtbdbldhpglponaaDoorW.PrintWords YtbdbldhpglponaaDoorW.PrintLast YtbdbldhpglponaaDoorW.PrintMore
set_option linter.unusedVariables false
set_option linter.unusedSimpArgs false
/-! ### spec_l1End: function 41 -/
mutual
def spec_l1End.j0:Nat→List Int→Int→Bool→Option (Int)
 | 0,_,_,_=>none
 | k+1,x0,x1,x20=>if x20=true then(some (-1)) else(if 0≤x1 then(if x1<(x0.length:Int) then(spec_l1End.l0 k x0 (wrap64 (x1+1)) (rd x0 x1) (([]:List Int)) 0) else(none)) else(none))
def spec_l1End.l0:Nat→List Int→Int→Int→List Int→Int→Option (Int)
 | 0,_,_,_,_,_=>none
 | k+1,x0,x1,x5,x6,x7=>if x7<x5 then(if x1≥(x0.length:Int) then(spec_l1End.j2 k x0 x1 x5 x6 x7 true) else(if 0≤x1 then(if x1<(x0.length:Int) then((spec_l1In.f (rd x0 x1) 1 9999).bind fun t148=>(spec_l1End.j2 k x0 x1 x5 x6 x7 (!t148))) else(none)) else(none))) else(some x1)
def spec_l1End.j2:Nat→List Int→Int→Int→List Int→Int→Bool→Option (Int)
 | 0,_,_,_,_,_,_=>none
 | k+1,x0,x1,x5,x6,x7,x44=>if x44=true then(some (-1)) else((spec_l1End.f k x0 (wrap64 (x1+1))).bind fun t149=>(if t149<0 then(some (-1)) else(if x7>0 then(if 0≤(wrap64 (x1+1)) then(if(wrap64 (x1+1))≤t149 then(if t149≤(x0.length:Int) then((spec_l1Compare.f k ((x0.take (t149:Int).toNat).drop ((wrap64 (x1+1)):Int).toNat) x6).bind fun t155=>(if t155≥0 then(some (-1)) else(spec_l1End.l0 k x0 t149 x5 ((x0.take (t149:Int).toNat).drop ((wrap64 (x1+1)):Int).toNat) (wrap64 (x7+1))))) else(none)) else(none)) else(none)) else(if 0≤(wrap64 (x1+1)) then(if(wrap64 (x1+1))≤t149 then(if t149≤(x0.length:Int) then(spec_l1End.l0 k x0 t149 x5 ((x0.take (t149:Int).toNat).drop ((wrap64 (x1+1)):Int).toNat) (wrap64 (x7+1))) else(none)) else(none)) else(none)))))
def spec_l1End.f:Nat→List Int→Int→Option (Int)
 | 0,_,_=>none
 | k+1,l0,a1=>if a1≥(l0.length:Int) then(spec_l1End.j0 k l0 a1 true) else(if 0≤a1 then(if a1<(l0.length:Int) then((spec_l1In.f (rd l0 a1) 0 60).bind fun t142=>(spec_l1End.j0 k l0 a1 (!t142))) else(none)) else(none))
end
set_option maxHeartbeats 8000000 in
set_option maxRecDepth 100000 in
theorem spec_l1End.calls (k:Nat):∀ (ad:Nat→Prop) (A0:Option Addr) (O:Nat) (l0:List Int) (G:Int) (r:Int) (w:World) (de:Kd.V (Kd.int .i64) 3 w w.heap.size (fun k_=>ad k_) (.slice A0 l0.length O) l0) (h:spec_l1End.f k l0 G=some r),
  Calls Tryd.prog 41 #[.slice A0 l0.length O,.int .i64 G] w fun e w'=>e=.returned (.int .i64 r)∧Below w.heap.size w w':=by
 induction k using Nat.strongRecOn with
 | _ k ih =>
 intro ad A0 O l0 G r w de h
 cases k with
 | zero=>exact absurd h (by simp[spec_l1End.f])
 | succ k =>
 simp only[spec_l1End.f] at h;have cj:=Sd.mk (show Kd.V (Kd.int .i64) 3 w w.heap.size (fun k_=>(ad k_∨w.heap.size≤k_)) (.slice A0 l0.length O) l0 from Kd.V_mono de (fun k_ hk=>.inl hk));have HB:=Sd.mk (Below.refl w.heap.size w);have H:(if G≥(l0.length:Int) then(spec_l1End.j0 k l0 G true) else(if 0≤G then(if G<(l0.length:Int) then((spec_l1In.f (rd l0 G) 0 60).bind fun a8=>(spec_l1End.j0 k l0 G (!a8))) else(none)) else(none)))=some r:=h;clear h;have ck:=Sd.mk H;clear H;go_enter Tryd.func41,Tryd.ntmps41
 go_upto_region 1 with (fail)
 go_cut [20] (fun d7 wc=>∃ (kq:Nat) (am:Bool),d7=.bool am∧Sd (spec_l1End.j0 kq l0 G am=some r)∧Sd (kq≤k)∧Sd (Kd.V (Kd.int .i64) 3 wc w.heap.size (fun k_=>(ad k_∨w.heap.size≤k_)) (.slice A0 l0.length O) l0)∧Sd (Below w.heap.size w wc))
 case first =>
  have H:=ck.out;clear ck
  by_cases c4:G≥(l0.length:Int)
  ·rw[if_pos c4] at H
   have an:decide ((l0.length:Int)≤G)=true:=decide_eq_true c4;clear c4
   (first|rw[an]|(simp only[i64_w,i32_w];rw[an])|skip)
   have H':=Sd.mk H;clear H;go_wp2;go_meet
   case rel=>exact⟨_,(true),(by first|rfl|(simp;done)|(simp[*];done)),H',⟨by first|omega|exact Nat.le_refl _⟩,⟨Kd.Vz cj.out⟩,⟨bz⟩⟩
  ·rw[if_neg c4] at H
   have an:decide ((l0.length:Int)≤G)=false:=decide_eq_false c4;clear c4
   (first|rw[an]|(simp only[i64_w,i32_w];rw[an])|skip)
   by_cases c5:0≤G
   ·rw[if_pos c5] at H
    have ew:decide (0≤G)=true:=decide_eq_true c5;clear c5
    by_cases c6:G<(l0.length:Int)
    ·rw[if_pos c6] at H
     have ex:decide (G<(l0.length:Int))=true:=decide_eq_true c6;clear c6;obtain⟨a8,A7,H⟩:=bs H;have H':=Sd.mk H;clear H;have bv:0≤(G:Int):=dz;have bw:G<(l0.length:Int):=dz;obtain⟨eb,dp,d4⟩:=Kd.at_int (Kd.V_reads' cj.out).2.2 G bv bw;cases dp;replace bv:=eq_true bv;replace bw:=eq_true bw;go_wp2_with (first|(go_at_call 40;(with_reducible refine(spec_l1In.calls (rd l0 G) 0 60 a8 _ A7.out).mono ?_);rintro e w' ⟨rfl,⟨nd,rfl⟩⟩));go_meet
     case rel=>exact⟨_,(!a8),(by first|rfl|(simp;done)|(simp[*];done)),H',⟨by first|omega|exact Nat.le_refl _⟩,⟨Kd.Vz cj.out⟩,⟨bz⟩⟩
    ·rw[if_neg c6] at H
     exact absurd H (by simp)
   ·rw[if_neg c5] at H
    exact absurd H (by simp)
 case rest =>
  clear ck;obtain⟨kq,am,rfl,HA,af,o,HB⟩:=hcut
  cases kq with
  | zero=>exact absurd HA.out (by simp[spec_l1End.j0])
  | succ cl =>
   have H:=HA.out;clear HA;simp only[spec_l1End.j0] at H
   by_cases c8:am=true
   ·subst c8
    replace H:=ip rfl H;obtain rfl:=Option.some.inj H;go_wp2;go_ret;exact⟨by first|rfl|(simp[errW_none,errW_some]<;>rfl)|(simp[*,errW_none,errW_some]<;>rfl),bz⟩
   ·replace c8:=Bool.eq_false_iff.mpr c8
    subst c8;replace H:=ng ft H
    by_cases c9:0≤G
    ·rw[if_pos c9] at H
     have ez:decide (0≤G)=true:=decide_eq_true c9;clear c9
     by_cases c10:G<(l0.length:Int)
     ·rw[if_pos c10] at H
      have ec:decide (G<(l0.length:Int))=true:=decide_eq_true c10;clear c10;obtain⟨cm,a9⟩:∃ y_:List Int,y_=(([]:List Int)):=⟨_,rfl⟩;replace H:(spec_l1End.l0 cl l0 (wrap64 (G+1)) (rd l0 G) cm 0)=some r:=hz a9 H;have b4:=Sd.mk a9;clear a9;have H':=Sd.mk H;clear H;have bx:0≤(G:Int):=dz;have b0:G<(l0.length:Int):=dz;obtain⟨z,dq,d5⟩:=Kd.at_int (Kd.V_reads' o.out).2.2 G bx b0;cases dq;replace bx:=eq_true bx;replace b0:=eq_true b0;go_wp2_with (first|((with_reducible refine gate_dst (N:=27) rfl ?_);refine Kd.R_lit (Kd.int .i64) _ 3 ?hg (N:=27) ?hd (xs:=([]:List Int)) (inner:=[]) (ok:=fun _=>True) (okp:=fun _=>True) ?hr ?hp (fun _ hk=>hk) trivial (Below.refl _ _) (Nat.le_refl _) (by simp) ?_;(case hd=>rfl);(case hg=>rfl);(case hr=>first|(go_simp;done)|(go_simp;rfl));(case hp=>exact(Reps.none _ _));intro e0 fk al hb d8 hnew_;clear d8 hnew_;(first|rw[← b4.out] at al|(simp only[Int.reduceToNat] at al;rw[← b4.out] at al));replace o:=Sd.mk (Kd.V_elder' (Kd.Vz o.out) (Kd.R_base al) hb);have cw:=Sd.mk (Kd.R_lower (Kd.R_newM (M:=fun k_=>(w.heap.size≤k_)) al (below_size bz) (fun k_ h_=>h_)) (below_size bz));replace HB:=Sd.mk (below_step bz hb);clear hb al))
      go_loopg [1,6,7] cl (fun kq v1 v6 v7 w'=>∃ (D:Int) (Y:List Int) (J:Int),v1=.int .i64 D∧v7=.int .i64 J∧Sd (spec_l1End.l0 kq l0 D (rd l0 G) Y J=some r)∧Sd (kq≤cl)∧Sd (Kd.V (Kd.int .i64) 3 w' w.heap.size (fun k_=>(ad k_∨w.heap.size≤k_)) (.slice (some z) l0.length O) l0)∧Sd (Kd.V (Kd.int .i64) 3 w' w.heap.size (fun k_=>(ad k_∨w.heap.size≤k_)) v6 Y)∧Sd (Below w.heap.size w w'))
      case atStart=>exact⟨(wrap64 (G+1)),(cm),(0),(by first|rfl|(simp;done)|(simp[*];done)),(by first|rfl|(simp;done)|(simp[*];done)),H',⟨Nat.le_refl _⟩,⟨Kd.Vz <| Kd.V_mono o.out (fun _ hk=>hk.1)⟩,⟨Kd.V_mono (Kd.R_V (Kd.Rz <| Kd.R_mono cw.out (fun _ hk=>hk.1))) (fun k_ hk=>by first|exact⟨(.inr (hk.1)),hk.2⟩|exact(.inr (hk)))⟩,⟨bz⟩⟩
      case round =>
       clear H';obtain⟨D,Y,J,rfl,rfl,HA,ag,o,E,HB⟩:=hrel
       cases gk with
       | zero=>exact absurd HA.out (by simp[spec_l1End.l0])
       | succ k2 =>
        have H:=HA.out;clear HA;simp only[spec_l1End.l0] at H
        by_cases a2:J<(rd l0 G)
        ·rw[if_pos a2] at H
         have cx:decide (J<(rd l0 G))=true:=decide_eq_true a2;clear a2;have b1:=Sd.mk H;clear H
         go_upto_region 9 with (fail)
         go_cut [44] (fun d9 wc=>∃ (kq:Nat) (ah:Bool),d9=.bool ah∧Sd (spec_l1End.j2 kq l0 D (rd l0 G) Y J ah=some r)∧Sd (kq≤k2)∧Sd (Kd.V (Kd.int .i64) 3 wc w.heap.size (fun k_=>(ad k_∨w.heap.size≤k_)) (.slice (some z) l0.length O) l0)∧Sd (Kd.V (Kd.int .i64) 3 wc w.heap.size (fun k_=>(ad k_∨w.heap.size≤k_)) u6 Y)∧Sd (Below w.heap.size w wc))
         case first =>
          have H:=b1.out;clear b1
          by_cases a3:D≥(l0.length:Int)
          ·rw[if_pos a3] at H
           have ai:decide ((l0.length:Int)≤D)=true:=decide_eq_true a3;clear a3
           (first|rw[ai]|(simp only[i64_w,i32_w];rw[ai])|skip)
           have H':=Sd.mk H;clear H;go_wp2;go_meet
           case rel=>exact⟨_,(true),(by first|rfl|(simp;done)|(simp[*];done)),H',⟨by have:=af.out;have:=ag.out;first|omega|exact Nat.le_refl _⟩,⟨Kd.Vz o.out⟩,⟨Kd.Vz E.out⟩,⟨bz⟩⟩
          ·rw[if_neg a3] at H
           have ai:decide ((l0.length:Int)≤D)=false:=decide_eq_false a3;clear a3
           (first|rw[ai]|(simp only[i64_w,i32_w];rw[ai])|skip)
           by_cases b5:0≤D
           ·rw[if_pos b5] at H
            have ed:decide (0≤D)=true:=decide_eq_true b5;clear b5
            by_cases b6:D<(l0.length:Int)
            ·rw[if_pos b6] at H
             have ee:decide (D<(l0.length:Int))=true:=decide_eq_true b6;clear b6;obtain⟨cn,ea,H⟩:=bs H;have H':=Sd.mk H;clear H;have b2:0≤(D:Int):=dz;have b3:D<(l0.length:Int):=dz;obtain⟨cy,dr,d6⟩:=Kd.at_int (Kd.V_reads' o.out).2.2 D b2 b3;obtain rfl:z=cy:=(by injection dr);replace b2:=eq_true b2;replace b3:=eq_true b3;go_wp2_with (first|(go_at_call 40;(with_reducible refine(spec_l1In.calls (rd l0 D) 1 9999 cn _ ea.out).mono ?_);rintro e w' ⟨rfl,⟨nd,rfl⟩⟩));go_meet
             case rel=>exact⟨_,(!cn),(by first|rfl|(simp;done)|(simp[*];done)),H',⟨by have:=af.out;have:=ag.out;first|omega|exact Nat.le_refl _⟩,⟨Kd.Vz o.out⟩,⟨Kd.Vz E.out⟩,⟨bz⟩⟩
            ·rw[if_neg b6] at H
             exact absurd H (by simp)
           ·rw[if_neg b5] at H
            exact absurd H (by simp)
         case rest =>
          clear b1;obtain⟨kq,ah,rfl,HA,ae,o,E,HB⟩:=hcut
          cases kq with
          | zero=>exact absurd HA.out (by simp[spec_l1End.j2])
          | succ U =>
           have H:=HA.out;clear HA;simp only[spec_l1End.j2] at H
           by_cases b7:ah=true
           ·subst b7
            replace H:=ip rfl H;obtain rfl:=Option.some.inj H;go_wp2;go_ret;exact⟨by first|rfl|(simp[errW_none,errW_some]<;>rfl)|(simp[*,errW_none,errW_some]<;>rfl),bz⟩
           ·replace b7:=Bool.eq_false_iff.mpr b7
            subst b7;replace H:=ng ft H;obtain⟨j,a4,H⟩:=bs H
            by_cases a5:j<0
            ·rw[if_pos a5] at H
             have cz:decide (j<0)=true:=decide_eq_true a5;clear a5;obtain rfl:=Option.some.inj H;go_wp2_with (first|((with_reducible refine gate_callee (f:=41) rfl ?_);refine goesL_ (some 48) rfl rfl Tryd.func41 (by kernel_rfl) rfl #[.slice (some z) l0.length O,.int .i64 (wrap64 (D+1))] rfl az ?_;(with_reducible refine(ih U (by have:=af.out;have:=ag.out;have:=ae.out;omega) (fun k_=>(ad k_∨w.heap.size≤k_)) _ _ l0 (wrap64 (D+1)) j _ ?side1 a4.out).mono ?_);(case side1=>exact o.out);rintro e fl ⟨rfl,hb⟩;refine⟨_,rfl,?_⟩;replace o:=Sd.mk (Kd.V_below (Kd.Vz o.out) hb);replace E:=Sd.mk (Kd.V_below (Kd.Vz E.out) hb);replace HB:=Sd.mk (below_step bz hb)));go_ret;exact⟨by first|rfl|(simp[errW_none,errW_some]<;>rfl)|(simp[*,errW_none,errW_some]<;>rfl),bz⟩
            ·rw[if_neg a5] at H
             have cz:decide (j<0)=false:=decide_eq_false a5;clear a5
             by_cases a6:J>0
             ·rw[if_pos a6] at H
              have c1:decide (0<J)=true:=decide_eq_true a6;clear a6;obtain⟨m,Z⟩:∃ j_:Int,(wrap64 (D+1))=j_:=⟨_,rfl⟩
              replace H:(if 0≤(m) then(if(m)≤j then(if j≤(l0.length:Int) then((spec_l1Compare.f U ((l0.take (j:Int).toNat).drop ((m):Int).toNat) Y).bind fun aa=>(if aa≥0 then(some (-1)) else(spec_l1End.l0 U l0 j (rd l0 G) ((l0.take (j:Int).toNat).drop ((m):Int).toNat) (wrap64 (J+1))))) else(none)) else(none)) else(none))=some r:=by first|(rw[Z] at H;exact H)|(simp only[Z] at H ⊢;exact H)
              (try rw[Z] at a4)
              have hji24w:(IntKind.i64.wrap (D+1))=m:=(i64_w _).trans Z
              by_cases bn:0≤(m)
              ·rw[if_pos bn] at H
               have ef:=eq_true bn;have eg:decide (0≤(m))=true:=decide_eq_true bn;clear bn
               by_cases bo:(m)≤j
               ·rw[if_pos bo] at H
                have eh:=eq_true bo;have ei:decide ((m)≤j)=true:=decide_eq_true bo;clear bo
                by_cases bp:j≤(l0.length:Int)
                ·rw[if_pos bp] at H
                 have ej:=eq_true bp;have ek:decide (j≤(l0.length:Int))=true:=decide_eq_true bp;clear bp;obtain⟨L,ba⟩:∃ y_:List Int,y_=((l0.take (j:Int).toNat).drop ((m):Int).toNat):=⟨_,rfl⟩;replace H:((spec_l1Compare.f U L Y).bind fun aa=>(if aa≥0 then(some (-1)) else(spec_l1End.l0 U l0 j (rd l0 G) ((l0.take (j:Int).toNat).drop ((m):Int).toNat) (wrap64 (J+1)))))=some r:=hz ba H;have aj:=Sd.mk ba;clear ba;obtain⟨aa,df,H⟩:=bs H
                 by_cases a7:aa≥0
                 ·rw[if_pos a7] at H
                  have da:decide (0≤aa)=true:=decide_eq_true a7;clear a7;obtain rfl:=Option.some.inj H;go_wp2_with (first|((with_reducible refine gate_callee (f:=41) rfl ?_);refine goesL_ (some 48) rfl rfl Tryd.func41 (by kernel_rfl) rfl #[.slice (some z) l0.length O,.int .i64 m] rfl (by(try simp only[List.map_toArray,List.map_cons,List.map_nil]);first|done|(simp only[Z];rfl)|rfl|(simp only[List.length_drop,List.length_take];rfl)) ?_;(with_reducible refine(ih U (by have:=af.out;have:=ag.out;have:=ae.out;omega) (fun k_=>(ad k_∨w.heap.size≤k_)) _ _ l0 m j _ ?side1 a4.out).mono ?_);(case side1=>exact o.out);rintro e fm ⟨rfl,hb⟩;refine⟨_,rfl,?_⟩;replace o:=Sd.mk (Kd.V_below (Kd.Vz o.out) hb);replace E:=Sd.mk (Kd.V_below (Kd.Vz E.out) hb);replace HB:=Sd.mk (below_step bz hb);have co:(j:Int)≤((l0.length:Int):Int):=dz;obtain⟨e4,b8,_,b9,_⟩:=info_parts info3;have hroom31:l0.length≤O:=(Kd.V_reads' o.out).2.1;have cp:Kd.F (Kd.int .i64) _ _ (some z) l0.length l0:=(Kd.V_at (base:=w.heap.size) o.out).2.2;have dt:((m):Int)≤(j:Int):=dz;have du:(0:Int)≤((m):Int):=dz;have hcut31:=cut_mid (P:=Tryd.prog) 22 3 .i64 .i64 Tryd.underlying22 b8 1 b9 (some z) l0.length O (m) j du dt co hroom31;have ap:=Kd.F_mid (lo:=((m):Int).toNat) (hi:=(j:Int).toNat) (c:=O) cp (by omega) (by omega) hroom31;obtain⟨dg,bb⟩:∃ Aq_,Aq_=(if O=((m):Int).toNat then(some z) else((some z):Option Addr).map (·.add (((m):Int).toNat*1))):=⟨_,rfl⟩;obtain⟨dh,bc⟩:∃ aq,aq=O-((m):Int).toNat:=⟨_,rfl⟩;have ar:L.length=(j:Int).toNat-((m):Int).toNat:=(by rw[aj.out,List.length_drop,List.length_take]<;>omega);rw[show ((l0).take (j:Int).toNat).drop ((m):Int).toNat=L from aj.out.symm] at ap;replace ap:Kd.F (Kd.int .i64) _ _ dg L.length L:=(by rw[bb];exact ap);rw[← ar,← bb,← bc] at hcut31;have X:=Sd.mk (show Kd.V (Kd.int .i64) 3 _ w.heap.size _ (.slice dg L.length dh) L from Kd.V_mk (by rw[ar,bc];exact Nat.sub_le_sub_right (Nat.le_trans (by omega) hroom31) _) ap);have db:=Sd.mk (show L.length≤dh from by rw[ar,bc];exact Nat.sub_le_sub_right (Nat.le_trans (by omega) hroom31) _);clear ap cp hroom31 b8 b9 bc;have e5:=Sd.mk ar;have e6:=Sd.mk bb;clear ar bb;replace co:=eq_true co;obtain⟨e7,e8,dv⟩:=Kd.V_slice E.out;subst dv)|(go_at_call 56;(with_reducible refine(spec_l1Compare.calls U _ _ L _ _ Y aa _ ?side1 ?side2 ?side3 ?side4 df.out).mono ?_);(case side1=>exact Kd.Cz (Kd.V_reads' X.out).2.2);(case side2=>exact(Kd.V_reads' X.out).2.1);(case side3=>exact Kd.Cz (Kd.V_reads' E.out).2.2);(case side4=>exact(Kd.V_reads' E.out).2.1);rintro e fn ⟨rfl,hb⟩;replace o:=Sd.mk (Kd.V_below (Kd.Vz o.out) hb);replace E:=Sd.mk (Kd.V_below (Kd.Vz E.out) hb);replace X:=Sd.mk (Kd.V_below (Kd.Vz X.out) hb);replace HB:=Sd.mk (below_step bz hb)));go_ret;exact⟨by first|rfl|(simp[errW_none,errW_some]<;>rfl)|(simp only[← Z];first|rfl|(simp[errW_none,errW_some]<;>rfl))|(simp[*,errW_none,errW_some]<;>rfl),bz⟩
                 ·rw[if_neg a7] at H
                  have da:decide (0≤aa)=false:=decide_eq_false a7;clear a7;have el:=eq_true (dz:0≤(m));have em:=eq_true (dz:(m)≤j);have en:=eq_true (dz:j≤(l0.length:Int));obtain⟨ab,bd⟩:∃ y_:List Int,y_=((l0.take (j:Int).toNat).drop ((m):Int).toNat):=⟨_,rfl⟩;replace H:(spec_l1End.l0 U l0 j (rd l0 G) ab (wrap64 (J+1)))=some r:=hz bd H;have be:=Sd.mk bd;clear bd;have H':=Sd.mk H;clear H;go_wp2_with (first|((with_reducible refine gate_callee (f:=41) rfl ?_);refine goesL_ (some 48) rfl rfl Tryd.func41 (by kernel_rfl) rfl #[.slice (some z) l0.length O,.int .i64 m] rfl (by(try simp only[List.map_toArray,List.map_cons,List.map_nil]);first|done|(simp only[Z];rfl)|rfl|(simp only[List.length_drop,List.length_take];rfl)) ?_;(with_reducible refine(ih U (by have:=af.out;have:=ag.out;have:=ae.out;omega) (fun k_=>(ad k_∨w.heap.size≤k_)) _ _ l0 m j _ ?side1 a4.out).mono ?_);(case side1=>exact o.out);rintro e fo ⟨rfl,hb⟩;refine⟨_,rfl,?_⟩;replace o:=Sd.mk (Kd.V_below (Kd.Vz o.out) hb);replace E:=Sd.mk (Kd.V_below (Kd.Vz E.out) hb);replace HB:=Sd.mk (below_step bz hb);have cq:(j:Int)≤((l0.length:Int):Int):=dz;obtain⟨e9,ca,_,cb,_⟩:=info_parts info3;have hroom38:l0.length≤O:=(Kd.V_reads' o.out).2.1;have cr:Kd.F (Kd.int .i64) _ _ (some z) l0.length l0:=(Kd.V_at (base:=w.heap.size) o.out).2.2;have dw:((m):Int)≤(j:Int):=dz;have dx:(0:Int)≤((m):Int):=dz;have hcut38:=cut_mid (P:=Tryd.prog) 22 3 .i64 .i64 Tryd.underlying22 ca 1 cb (some z) l0.length O (m) j dx dw cq hroom38;have au:=Kd.F_mid (lo:=((m):Int).toNat) (hi:=(j:Int).toNat) (c:=O) cr (by omega) (by omega) hroom38;obtain⟨di,bf⟩:∃ Aq_,Aq_=(if O=((m):Int).toNat then(some z) else((some z):Option Addr).map (·.add (((m):Int).toNat*1))):=⟨_,rfl⟩;obtain⟨dj,bg⟩:∃ aq,aq=O-((m):Int).toNat:=⟨_,rfl⟩;have av:L.length=(j:Int).toNat-((m):Int).toNat:=(by rw[aj.out,List.length_drop,List.length_take]<;>omega);rw[show ((l0).take (j:Int).toNat).drop ((m):Int).toNat=L from aj.out.symm] at au;replace au:Kd.F (Kd.int .i64) _ _ di L.length L:=(by rw[bf];exact au);rw[← av,← bf,← bg] at hcut38;have X:=Sd.mk (show Kd.V (Kd.int .i64) 3 _ w.heap.size _ (.slice di L.length dj) L from Kd.V_mk (by rw[av,bg];exact Nat.sub_le_sub_right (Nat.le_trans (by omega) hroom38) _) au);have db:=Sd.mk (show L.length≤dj from by rw[av,bg];exact Nat.sub_le_sub_right (Nat.le_trans (by omega) hroom38) _);clear au cr hroom38 ca cb bg;have fa:=Sd.mk av;have fb:=Sd.mk bf;clear av bf;replace cq:=eq_true cq;obtain⟨fc,fd,dy⟩:=Kd.V_slice E.out;subst dy)|(go_at_call 56;(with_reducible refine(spec_l1Compare.calls U _ _ L _ _ Y aa _ ?side1 ?side2 ?side3 ?side4 df.out).mono ?_);(case side1=>exact Kd.Cz (Kd.V_reads' X.out).2.2);(case side2=>exact(Kd.V_reads' X.out).2.1);(case side3=>exact Kd.Cz (Kd.V_reads' E.out).2.2);(case side4=>exact(Kd.V_reads' E.out).2.1);rintro e fp ⟨rfl,hb⟩;replace o:=Sd.mk (Kd.V_below (Kd.Vz o.out) hb);replace E:=Sd.mk (Kd.V_below (Kd.Vz E.out) hb);replace X:=Sd.mk (Kd.V_below (Kd.Vz X.out) hb);replace HB:=Sd.mk (below_step bz hb);have cs:(j:Int)≤((l0.length:Int):Int):=dz;obtain⟨fe,cc,_,cd,_⟩:=info_parts info3;have hroom41:l0.length≤O:=(Kd.V_reads' o.out).2.1;have ct:Kd.F (Kd.int .i64) _ _ (some z) l0.length l0:=(Kd.V_at (base:=w.heap.size) o.out).2.2;have d0:((m):Int)≤(j:Int):=dz;have d1:(0:Int)≤((m):Int):=dz;have hcut41:=cut_mid (P:=Tryd.prog) 22 3 .i64 .i64 Tryd.underlying22 cc 1 cd (some z) l0.length O (m) j d1 d0 cs hroom41;have aw:=Kd.F_mid (lo:=((m):Int).toNat) (hi:=(j:Int).toNat) (c:=O) ct (by omega) (by omega) hroom41;obtain⟨dk,bh⟩:∃ Aq_,Aq_=(if O=((m):Int).toNat then(some z) else((some z):Option Addr).map (·.add (((m):Int).toNat*1))):=⟨_,rfl⟩;obtain⟨dl,bj⟩:∃ aq,aq=O-((m):Int).toNat:=⟨_,rfl⟩;have ax:ab.length=(j:Int).toNat-((m):Int).toNat:=(by rw[be.out,List.length_drop,List.length_take]<;>omega);rw[show ((l0).take (j:Int).toNat).drop ((m):Int).toNat=ab from be.out.symm] at aw;replace aw:Kd.F (Kd.int .i64) _ _ dk ab.length ab:=(by rw[bh];exact aw);rw[← ax,← bh,← bj] at hcut41;have dc:=Sd.mk (show Kd.V (Kd.int .i64) 3 _ w.heap.size _ (.slice dk ab.length dl) ab from Kd.V_mk (by rw[ax,bj];exact Nat.sub_le_sub_right (Nat.le_trans (by omega) hroom41) _) aw);have eo:=Sd.mk (show ab.length≤dl from by rw[ax,bj];exact Nat.sub_le_sub_right (Nat.le_trans (by omega) hroom41) _);clear aw ct hroom41 cc cd bj;have ff:=Sd.mk ax;have fg:=Sd.mk bh;clear ax bh;replace cs:=eq_true cs))
                  go_roundg U
                  case measure=>have:=af.out;have:=ag.out;have:=ae.out;omega
                  case rel=>exact⟨(j),(ab),(wrap64 (J+1)),(by first|rfl|(simp;done)|(simp[*];done)),(by first|rfl|(simp;done)|(simp[*];done)),H',⟨by have:=af.out;have:=ag.out;have:=ae.out;omega⟩,⟨Kd.Vz o.out⟩,⟨by(with_reducible repeat (first|apply Kd.V_alloc|apply Kd.V_drewN|apply Kd.V_drew));first|exact dc.out|(rw[be.out,← aj.out];exact X.out)⟩,⟨bz⟩⟩
                ·rw[if_neg bp] at H
                 exact absurd H (by simp)
               ·rw[if_neg bo] at H
                exact absurd H (by simp)
              ·rw[if_neg bn] at H
               exact absurd H (by simp)
             ·rw[if_neg a6] at H
              have c1:decide (0<J)=false:=decide_eq_false a6;clear a6;obtain⟨I,ak⟩:∃ j_:Int,(wrap64 (D+1))=j_:=⟨_,rfl⟩
              replace H:(if 0≤(I) then(if(I)≤j then(if j≤(l0.length:Int) then(spec_l1End.l0 U l0 j (rd l0 G) ((l0.take (j:Int).toNat).drop ((I):Int).toNat) (wrap64 (J+1))) else(none)) else(none)) else(none))=some r:=by first|(rw[ak] at H;exact H)|(simp only[ak] at H ⊢;exact H)
              (try rw[ak] at a4)
              have hji42w:(IntKind.i64.wrap (D+1))=I:=(i64_w _).trans ak
              by_cases bq:0≤(I)
              ·rw[if_pos bq] at H
               have ep:=eq_true bq;have eq:decide (0≤(I))=true:=decide_eq_true bq;clear bq
               by_cases br:(I)≤j
               ·rw[if_pos br] at H
                have er:=eq_true br;have es:decide ((I)≤j)=true:=decide_eq_true br;clear br
                by_cases bu:j≤(l0.length:Int)
                ·rw[if_pos bu] at H
                 have et:=eq_true bu;have eu:decide (j≤(l0.length:Int))=true:=decide_eq_true bu;clear bu;obtain⟨ac,bk⟩:∃ y_:List Int,y_=((l0.take (j:Int).toNat).drop ((I):Int).toNat):=⟨_,rfl⟩;replace H:(spec_l1End.l0 U l0 j (rd l0 G) ac (wrap64 (J+1)))=some r:=hz bk H;have ce:=Sd.mk bk;clear bk;have H':=Sd.mk H;clear H;go_wp2_with (first|((with_reducible refine gate_callee (f:=41) rfl ?_);refine goesL_ (some 48) rfl rfl Tryd.func41 (by kernel_rfl) rfl #[.slice (some z) l0.length O,.int .i64 I] rfl (by(try simp only[List.map_toArray,List.map_cons,List.map_nil]);first|done|(simp only[ak];rfl)|rfl|(simp only[List.length_drop,List.length_take];rfl)) ?_;(with_reducible refine(ih U (by have:=af.out;have:=ag.out;have:=ae.out;omega) (fun k_=>(ad k_∨w.heap.size≤k_)) _ _ l0 I j _ ?side1 a4.out).mono ?_);(case side1=>exact o.out);rintro e fq ⟨rfl,hb⟩;refine⟨_,rfl,?_⟩;replace o:=Sd.mk (Kd.V_below (Kd.Vz o.out) hb);replace E:=Sd.mk (Kd.V_below (Kd.Vz E.out) hb);replace HB:=Sd.mk (below_step bz hb);have cu:(j:Int)≤((l0.length:Int):Int):=dz;obtain⟨fh,cf,_,ch,_⟩:=info_parts info3;have hroom47:l0.length≤O:=(Kd.V_reads' o.out).2.1;have cv:Kd.F (Kd.int .i64) _ _ (some z) l0.length l0:=(Kd.V_at (base:=w.heap.size) o.out).2.2;have d2:((I):Int)≤(j:Int):=dz;have d3:(0:Int)≤((I):Int):=dz;have hcut47:=cut_mid (P:=Tryd.prog) 22 3 .i64 .i64 Tryd.underlying22 cf 1 ch (some z) l0.length O (I) j d3 d2 cu hroom47;have ay:=Kd.F_mid (lo:=((I):Int).toNat) (hi:=(j:Int).toNat) (c:=O) cv (by omega) (by omega) hroom47;obtain⟨dm,bl⟩:∃ Aq_,Aq_=(if O=((I):Int).toNat then(some z) else((some z):Option Addr).map (·.add (((I):Int).toNat*1))):=⟨_,rfl⟩;obtain⟨dn,bm⟩:∃ aq,aq=O-((I):Int).toNat:=⟨_,rfl⟩;have a0:ac.length=(j:Int).toNat-((I):Int).toNat:=(by rw[ce.out,List.length_drop,List.length_take]<;>omega);rw[show ((l0).take (j:Int).toNat).drop ((I):Int).toNat=ac from ce.out.symm] at ay;replace ay:Kd.F (Kd.int .i64) _ _ dm ac.length ac:=(by rw[bl];exact ay);rw[← a0,← bl,← bm] at hcut47;have dd:=Sd.mk (show Kd.V (Kd.int .i64) 3 _ w.heap.size _ (.slice dm ac.length dn) ac from Kd.V_mk (by rw[a0,bm];exact Nat.sub_le_sub_right (Nat.le_trans (by omega) hroom47) _) ay);have ev:=Sd.mk (show ac.length≤dn from by rw[a0,bm];exact Nat.sub_le_sub_right (Nat.le_trans (by omega) hroom47) _);clear ay cv hroom47 cf ch bm;have fi:=Sd.mk a0;have fj:=Sd.mk bl;clear a0 bl;replace cu:=eq_true cu))
                 go_roundg U
                 case measure=>have:=af.out;have:=ag.out;have:=ae.out;omega
                 case rel=>exact⟨(j),(ac),(wrap64 (J+1)),(by first|rfl|(simp;done)|(simp[*];done)),(by first|rfl|(simp;done)|(simp[*];done)),H',⟨by have:=af.out;have:=ag.out;have:=ae.out;omega⟩,⟨Kd.Vz o.out⟩,⟨Kd.Vz dd.out⟩,⟨bz⟩⟩
                ·rw[if_neg bu] at H
                 exact absurd H (by simp)
               ·rw[if_neg br] at H
                exact absurd H (by simp)
              ·rw[if_neg bq] at H
               exact absurd H (by simp)
        ·rw[if_neg a2] at H
         have cx:decide (J<(rd l0 G))=false:=decide_eq_false a2;clear a2;obtain rfl:=Option.some.inj H;go_wp2;go_ret;exact⟨by first|rfl|(simp[errW_none,errW_some]<;>rfl)|(simp[*,errW_none,errW_some]<;>rfl),bz⟩
     ·rw[if_neg c10] at H
      exact absurd H (by simp)
    ·rw[if_neg c9] at H
     exact absurd H (by simp)
end Go.Proofs.YtbdbldhpglponaaDoor.P