/- One Go function comes to what its Lean function tells. -/
import Derived.Test.YtbdbldhpglponaaDoorP0
import Derived.Test.YtbdbldhpglponaaDoorPimplcompare
namespace Go.Proofs.YtbdbldhpglponaaDoor.P
open Go.RowKit YtbdbldhpglponaaDoorW.PrintWords YtbdbldhpglponaaDoorW.PrintLast YtbdbldhpglponaaDoorW.PrintMore
set_option linter.unusedVariables false
set_option linter.unusedSimpArgs false
/-! ### impl_takeOrd: function 39 -/
mutual
def impl_takeOrd.j0:Nat→List Int→Int→List (S57)→Bool→Option ((List (S57)) × List Int × Bool)
 | 0,_,_,_,_=>none
 | k+1,x0,x5,x6,x25=>if x25=true then(some (([]:List (S57)),([]:List Int),false)) else(impl_takeOrd.l0 k x0 x6 x5 0)
def impl_takeOrd.l0:Nat→List Int→List (S57)→Int→Int→Option ((List (S57)) × List Int × Bool)
 | 0,_,_,_,_=>none
 | k+1,x0,x6,x26,x27=>if x27<x26 then(if(x0.length:Int)=0 then(impl_takeOrd.j2 k x0 x6 x27 x26 x27 true) else(if 0<(x0.length:Int) then(if(rd x0 0)<1 then(impl_takeOrd.j2 k x0 x6 x27 x26 x27 true) else(impl_takeOrd.j2 k x0 x6 x27 x26 x27 (decide ((rd x0 0)>9999)))) else(none))) else(some (x6,x0,true))
def impl_takeOrd.j2:Nat→List Int→List (S57)→Int→Int→Int→Bool→Option ((List (S57)) × List Int × Bool)
 | 0,_,_,_,_,_,_=>none
 | k+1,x0,x6,x7,x26,x27,x44=>if x44=true then(some (([]:List (S57)),([]:List Int),false)) else(if 1≤(x0.length:Int) then((impl_takeOrd.f k (x0.drop 1)).bind fun bt364=>(if bt364.2.2=true then(if x7>0 then(if 0≤(wrap64 (x7-1)) then(if(wrap64 (x7-1))<(x6.length:Int) then((impl_compare.f k bt364.1 ((rd_T57 x6 (wrap64 (x7-1))).f1)).bind fun t372=>(if t372≥0 then(some (([]:List (S57)),([]:List Int),false)) else(if 0<(x0.length:Int) then(if x6.length<4398046511104 then(impl_takeOrd.l0 k bt364.2.1 (x6++[(⟨rd x0 0,bt364.1⟩:S57)]) x26 (wrap64 (x27+1))) else(none)) else(none)))) else(none)) else(none)) else(if 0<(x0.length:Int) then(if x6.length<4398046511104 then(impl_takeOrd.l0 k bt364.2.1 (x6++[(⟨rd x0 0,bt364.1⟩:S57)]) x26 (wrap64 (x27+1))) else(none)) else(none))) else(some (([]:List (S57)),([]:List Int),false)))) else(none))
def impl_takeOrd.f:Nat→List Int→Option ((List (S57)) × List Int × Bool)
 | 0,_=>none
 | k+1,l0=>if(l0.length:Int)=0 then(some (([]:List (S57)),([]:List Int),false)) else(if 0<(l0.length:Int) then(if 1≤(l0.length:Int) then((some (l0.drop 1:List Int)).bind fun y349=>((some (([]:List (S57)):List (S57))).bind fun y354=>(if(rd l0 0)<0 then(impl_takeOrd.j0 k y349 (rd l0 0) y354 true) else(impl_takeOrd.j0 k y349 (rd l0 0) y354 (decide ((rd l0 0)>60)))))) else(none)) else(none))
end
set_option maxHeartbeats 8000000 in
set_option maxRecDepth 100000 in
theorem impl_takeOrd.calls (k:Nat):∀ (aa:Nat→Prop) (A0:Option Addr) (c0:Nat) (l0:List Int) (r1:List (S57)) (r2:List Int) (r3:Bool) (w:World) (fo:Kd.V (Kd.int .i64) 3 w w.heap.size (fun k_=>aa k_) (.slice A0 l0.length c0) l0) (h:impl_takeOrd.f k l0=some (r1,r2,r3)),
  Calls Tryd.prog 39 #[.slice A0 l0.length c0] w fun e w'=>∃ eh fp:Value,e=.returned (.tuple #[eh,fp,.bool r3])∧Kd.R k57 57 w' w.heap.size (fun k_=>(w.heap.size≤k_)) eh r1∧Kd.V (Kd.int .i64) 3 w' w.heap.size (fun k_=>(aa k_∨w.heap.size≤k_)∧some k_≠(eh:Value).ownBlock) fp r2∧Below w.heap.size w w':=by
 induction k using Nat.strongRecOn with
 | _ k ih =>
 intro aa A0 c0 l0 r1 r2 r3 w fo h
 cases k with
 | zero=>exact absurd h (by simp[impl_takeOrd.f])
 | succ k =>
 simp only[impl_takeOrd.f] at h;have g5:=Tryd.underlying57;have cz:=Sd.mk (show Kd.V (Kd.int .i64) 3 w w.heap.size (fun k_=>(aa k_∨w.heap.size≤k_)) (.slice A0 l0.length c0) l0 from Kd.V_mono fo (fun k_ hk=>.inl hk));have HB:=Sd.mk (Below.refl w.heap.size w);have H:(if(l0.length:Int)=0 then(some (([]:List (S57)),([]:List Int),false)) else(if 0<(l0.length:Int) then(if 1≤(l0.length:Int) then((some (l0.drop 1:List Int)).bind fun Y=>((some (([]:List (S57)):List (S57))).bind fun ag=>(if(rd l0 0)<0 then(impl_takeOrd.j0 k Y (rd l0 0) ag true) else(impl_takeOrd.j0 k Y (rd l0 0) ag (decide ((rd l0 0)>60)))))) else(none)) else(none)))=some (r1,r2,r3):=h;clear h
 by_cases c2:(l0.length:Int)=0
 ·rw[if_pos c2] at H
  have fu:((l0.length:Int) == 0)=true:=beq_iff_eq.mpr c2;have fv:((l0.length:Int) != 0)=false:=bne_eq_false_iff_eq.mpr c2;clear c2;simp only[Option.some.injEq,Prod.mk.injEq] at H;obtain⟨rfl,rfl,rfl⟩:=H;go_enter Tryd.func39,Tryd.ntmps39;go_wp2;go_ret3;exact⟨_,_,by first|rfl|(simp[errW_none,errW_some]<;>rfl)|(simp[*,errW_none,errW_some]<;>rfl),by first|exact Kd.R_nil _ _ _ _ _|exact Kd.N_nil _ _ _ _ _|exact Kd.V_nil _ _ _ _ _|exact Kd.Q_nil _ _ _ _ _|exact Kd.S_nil _ _ _ _ _,Kd.V_nil _ _ _ _ _,bz⟩
 ·rw[if_neg c2] at H
  have fu:((l0.length:Int) == 0)=false:=beq_eq_false_iff_ne.mpr c2;have fv:((l0.length:Int) != 0)=true:=bne_iff_ne.mpr c2;have g6:¬ (l0=[]):=fun h_=>c2 (by rw[h_];rfl)
  by_cases c3:0<(l0.length:Int)
  ·rw[if_pos c3] at H
   have g7:decide (0<(l0.length:Int))=true:=decide_eq_true c3;have g8:decide (0<l0.length)=true:=decide_eq_true (by omega);clear c3
   by_cases c4:1≤(l0.length:Int)
   ·rw[if_pos c4] at H
    have g9:=eq_true c4;have hc:decide (1≤(l0.length:Int))=true:=decide_eq_true c4;clear c4;obtain⟨Y,cd⟩:∃ y_:List Int,y_=(l0.drop 1):=⟨_,rfl⟩;replace H:((some (([]:List (S57)):List (S57))).bind fun ag=>(if(rd l0 0)<0 then(impl_takeOrd.j0 k Y (rd l0 0) ag true) else(impl_takeOrd.j0 k Y (rd l0 0) ag (decide ((rd l0 0)>60)))))=some (r1,r2,r3):=hz cd H;have dq:=Sd.mk cd;clear cd;obtain⟨ag,ce⟩:∃ y_:List (S57),y_=(([]:List (S57))):=⟨_,rfl⟩;replace H:(if(rd l0 0)<0 then(impl_takeOrd.j0 k Y (rd l0 0) ag true) else(impl_takeOrd.j0 k Y (rd l0 0) ag (decide ((rd l0 0)>60))))=some (r1,r2,r3):=hz ce H;have dr:=Sd.mk ce;clear ce;have ei:=Sd.mk H;clear H;have dd:0≤(0:Int):=(by omega);have de:0<(l0.length:Int):=dz;obtain⟨bc,fw,b4⟩:=Kd.at_int (Kd.V_reads' cz.out).2.2 0 dd de;cases fw;have gn:(0<l0.length)=True:=eq_true (by omega)
    (try rw[show ((0:Int)).toNat=0 from rfl] at b4)
    (try rw[Addr.add_zero'] at b4)
    replace dd:=eq_true dd;replace de:=eq_true de;have q6:(1:Int)≤((l0.length:Int):Int):=dz;obtain⟨ie,ej,_,ek,_⟩:=info_parts info3;have hroom6:l0.length≤c0:=(Kd.V_reads' cz.out).2.1;have fq:Kd.F (Kd.int .i64) _ _ (some bc) l0.length l0:=(Kd.V_at (base:=w.heap.size) cz.out).2.2;have hcut6:=cut_from (P:=Tryd.prog) 22 3 .i64 Tryd.underlying22 ej 1 ek (some bc) l0.length c0 1 (by omega) q6;have c1:=Kd.F_cut (m:=(1:Int).toNat) (c:=c0) fq (by omega) hroom6;obtain⟨A6,dt⟩:∃ Aq_,Aq_=(if c0=(1:Int).toNat then(some bc) else((some bc):Option Addr).map (·.add ((1:Int).toNat*1))):=⟨_,rfl⟩;obtain⟨c6,du⟩:∃ a5,a5=c0-(1:Int).toNat:=⟨_,rfl⟩;have da:Y.length=l0.length-(1:Int).toNat:=(by rw[dq.out,List.length_drop]<;>omega);rw[show (l0).drop (1:Int).toNat=Y from dq.out.symm] at c1;replace c1:Kd.F (Kd.int .i64) _ _ A6 Y.length Y:=(by rw[dt];exact c1);rw[← da,← dt,← du] at hcut6;have bd:=Sd.mk (show Kd.V (Kd.int .i64) 3 _ w.heap.size _ (.slice A6 Y.length c6) Y from Kd.V_mk (by rw[da,du];exact Nat.sub_le_sub_right hroom6 _) c1);have go:=Sd.mk (show Y.length≤c6 from by rw[da,du];exact Nat.sub_le_sub_right hroom6 _);clear c1 fq hroom6 ej ek du;have ig:=Sd.mk da;have ii:=Sd.mk dt;clear da dt;replace q6:=eq_true q6;go_enter Tryd.func39,Tryd.ntmps39
    go_upto_region 6 with (first|((with_reducible refine gate_dst (N:=19) rfl ?_);refine Kd.R_lit k57 _ 57 ?hg (N:=19) ?hd (xs:=([]:List (S57))) (inner:=[]) (ok:=fun _=>True) (okp:=fun _=>True) ?hr ?hp (fun _ hk=>hk) trivial (Below.refl _ _) (Nat.le_refl _) (by simp) ?_;(case hd=>rfl);(case hg=>rfl);(case hr=>first|(go_simp;done)|(go_simp;rfl));(case hp=>exact(Reps.none _ _));intro el w7 bf hb gh hnew_;clear gh hnew_;(first|rw[← dr.out] at bf|(simp only[Int.reduceToNat] at bf;rw[← dr.out] at bf));replace cz:=Sd.mk (Kd.V_elder' (Kd.Vz cz.out) (Kd.R_base bf) hb);replace bd:=Sd.mk (Kd.V_elder' (Kd.Vz bd.out) (Kd.R_base bf) hb);have dv:=Sd.mk (Kd.R_lower (Kd.R_newM (M:=fun k_=>(w.heap.size≤k_)) bf (below_size bz) (fun k_ h_=>h_)) (below_size bz));replace HB:=Sd.mk (below_step bz hb);clear hb bf))
    (try simp only[Act.put,List.setIfInBounds_toArray,List.set_cons_zero,List.set_cons_succ])
    go_cut [25] (fun gi wc=>∃ (kq:Nat) (be:Bool),gi=.bool be∧Sd (impl_takeOrd.j0 kq Y (rd l0 0) ag be=some (r1,r2,r3))∧Sd (kq≤k)∧Sd (Kd.V (Kd.int .i64) 3 wc w.heap.size (fun k_=>(aa k_∨w.heap.size≤k_)∧some k_≠(el:Value).ownBlock) (.slice A6 Y.length c6) Y)∧Sd (Kd.R k57 57 wc w.heap.size (fun k_=>(w.heap.size≤k_)) el ag)∧Sd (Below w.heap.size w wc))
    case first =>
     have H:=ei.out;clear ei
     by_cases c9:(rd l0 0)<0
     ·rw[if_pos c9] at H
      have bg:decide ((rd l0 0)<0)=true:=decide_eq_true c9;clear c9
      (first|rw[bg]|(simp only[i64_w,i32_w];rw[bg])|skip)
      have H':=Sd.mk H;clear H;go_wp2;go_meet
      case rel=>exact⟨_,(true),(by first|rfl|(simp;done)|(simp[*];done)),H',⟨by first|omega|exact Nat.le_refl _⟩,⟨Kd.Vz bd.out⟩,⟨Kd.Rz <| Kd.R_mono dv.out (fun _ hk=>hk.1)⟩,⟨bz⟩⟩
     ·rw[if_neg c9] at H
      have bg:decide ((rd l0 0)<0)=false:=decide_eq_false c9;clear c9
      (first|rw[bg]|(simp only[i64_w,i32_w];rw[bg])|skip)
      have H':=Sd.mk H;clear H;go_wp2;go_meet
      case rel=>exact⟨_,(decide ((rd l0 0)>60)),(by first|rfl|(simp;done)|(simp[*];done)),H',⟨by first|omega|exact Nat.le_refl _⟩,⟨Kd.Vz bd.out⟩,⟨Kd.Rz <| Kd.R_mono dv.out (fun _ hk=>hk.1)⟩,⟨bz⟩⟩
    case rest =>
     clear ei;obtain⟨kq,be,rfl,HA,ar,o,z,HB⟩:=hcut
     cases kq with
     | zero=>exact absurd HA.out (by simp[impl_takeOrd.j0])
     | succ fr =>
      have H:=HA.out;clear HA;simp only[impl_takeOrd.j0] at H
      by_cases c10:be=true
      ·subst c10
       replace H:=ip rfl H;simp only[Option.some.injEq,Prod.mk.injEq] at H;obtain⟨rfl,rfl,rfl⟩:=H;go_wp2;go_ret3;exact⟨_,_,by first|rfl|(simp[errW_none,errW_some]<;>rfl)|(simp[*,errW_none,errW_some]<;>rfl),by first|exact Kd.R_nil _ _ _ _ _|exact Kd.N_nil _ _ _ _ _|exact Kd.V_nil _ _ _ _ _|exact Kd.Q_nil _ _ _ _ _|exact Kd.S_nil _ _ _ _ _,Kd.V_nil _ _ _ _ _,bz⟩
      ·replace c10:=Bool.eq_false_iff.mpr c10
       subst c10;replace H:=ng ft H;have H':=Sd.mk H;clear H;go_wp2
       go_loopg [0,6,27] fr (fun kq v0 v6 gl w'=>∃ (j:List Int) (E:List (S57)) (D:Int),gl=.int .i64 D∧Sd (impl_takeOrd.l0 kq j E (rd l0 0) D=some (r1,r2,r3))∧Sd (kq≤fr)∧Sd (Kd.V (Kd.int .i64) 3 w' w.heap.size (fun k_=>(aa k_∨w.heap.size≤k_)∧some k_≠(v6:Value).ownBlock) v0 j)∧Sd (Kd.R k57 57 w' w.heap.size (fun k_=>(w.heap.size≤k_)) v6 E)∧Sd (Below w.heap.size w w'))
       case atStart=>exact⟨(Y),(ag),(0),(by first|rfl|(simp;done)|(simp[*];done)),H',⟨Nat.le_refl _⟩,⟨Kd.Vz o.out⟩,⟨Kd.Rz z.out⟩,⟨bz⟩⟩
       case round =>
        clear H';obtain⟨j,E,D,rfl,HA,au,o,z,HB⟩:=hrel
        cases gk with
        | zero=>exact absurd HA.out (by simp[impl_takeOrd.l0])
        | succ k2 =>
         have H:=HA.out;clear HA;simp only[impl_takeOrd.l0] at H
         by_cases b5:D<(rd l0 0)
         ·rw[if_pos b5] at H
          have fa:decide (D<(rd l0 0))=true:=decide_eq_true b5;clear b5;have df:=Sd.mk H;clear H
          go_upto_region 11 with (fail)
          go_cut [44] (fun gm wc=>∃ (kq:Nat) (a6:Bool),gm=.bool a6∧Sd (impl_takeOrd.j2 kq j E D (rd l0 0) D a6=some (r1,r2,r3))∧Sd (kq≤k2)∧Sd (Kd.V (Kd.int .i64) 3 wc w.heap.size (fun k_=>(aa k_∨w.heap.size≤k_)∧some k_≠(u6:Value).ownBlock) u0 j)∧Sd (Kd.R k57 57 wc w.heap.size (fun k_=>(w.heap.size≤k_)) u6 E)∧Sd (Below w.heap.size w wc))
          case first =>
           have H:=df.out;clear df
           by_cases bb:(j.length:Int)=0
           ·rw[if_pos bb] at H
            have a7:((j.length:Int) == 0)=true:=beq_iff_eq.mpr bb;have fb:((j.length:Int) != 0)=false:=bne_eq_false_iff_eq.mpr bb;clear bb
            (first|rw[a7]|(simp only[i64_w,i32_w];rw[a7])|skip)
            have H':=Sd.mk H;clear H;obtain⟨hf,hh,fz⟩:=Kd.V_slice o.out;subst fz;go_wp2;go_meet
            case rel=>exact⟨_,(true),(by first|rfl|(simp;done)|(simp[*];done)),H',⟨by have:=ar.out;have:=au.out;first|omega|exact Nat.le_refl _⟩,⟨Kd.Vz o.out⟩,⟨Kd.Rz z.out⟩,⟨bz⟩⟩
           ·rw[if_neg bb] at H
            have a7:((j.length:Int) == 0)=false:=beq_eq_false_iff_ne.mpr bb;have fb:((j.length:Int) != 0)=true:=bne_iff_ne.mpr bb;have gp:¬ (j=[]):=fun h_=>bb (by rw[h_];rfl)
            (first|rw[a7]|(simp only[i64_w,i32_w];rw[a7])|skip)
            by_cases dw:0<(j.length:Int)
            ·rw[if_pos dw] at H
             have gq:decide (0<(j.length:Int))=true:=decide_eq_true dw;have gr:decide (0<j.length)=true:=decide_eq_true (by omega);clear dw
             by_cases b6:(rd j 0)<1
             ·rw[if_pos b6] at H
              have fc:decide ((rd j 0)<1)=true:=decide_eq_true b6;clear b6;have H':=Sd.mk H;clear H;obtain⟨hj,hl,f0⟩:=Kd.V_slice o.out;subst f0;have ay:0≤(0:Int):=(by omega);have a0:0<(j.length:Int):=dz;obtain⟨dx,dg,am⟩:=Kd.at_int (Kd.V_reads' o.out).2.2 0 ay a0;cases dg;have fd:(0<j.length)=True:=eq_true (by omega)
              (try rw[show ((0:Int)).toNat=0 from rfl] at am)
              (try rw[Addr.add_zero'] at am)
              replace ay:=eq_true ay;replace a0:=eq_true a0;go_wp2;go_meet
              case rel=>exact⟨_,(true),(by first|rfl|(simp;done)|(simp[*];done)),H',⟨by have:=ar.out;have:=au.out;first|omega|exact Nat.le_refl _⟩,⟨Kd.Vz o.out⟩,⟨Kd.Rz z.out⟩,⟨bz⟩⟩
             ·rw[if_neg b6] at H
              have fc:decide ((rd j 0)<1)=false:=decide_eq_false b6;clear b6;have H':=Sd.mk H;clear H;obtain⟨hm,hn,f2⟩:=Kd.V_slice o.out;subst f2;have ay:0≤(0:Int):=(by omega);have a0:0<(j.length:Int):=dz;obtain⟨dx,dg,am⟩:=Kd.at_int (Kd.V_reads' o.out).2.2 0 ay a0;cases dg;have fd:(0<j.length)=True:=eq_true (by omega)
              (try rw[show ((0:Int)).toNat=0 from rfl] at am)
              (try rw[Addr.add_zero'] at am)
              replace ay:=eq_true ay;replace a0:=eq_true a0;have dh:0≤(0:Int):=(by omega);have di:0<(j.length:Int):=dz;obtain⟨fe,f3,b7⟩:=Kd.at_int (Kd.V_reads' o.out).2.2 0 dh di;obtain rfl:dx=fe:=(by injection f3);have gs:(0<j.length)=True:=eq_true (by omega)
              (try rw[show ((0:Int)).toNat=0 from rfl] at b7)
              (try rw[Addr.add_zero'] at b7)
              replace dh:=eq_true dh;replace di:=eq_true di;go_wp2;go_meet
              case rel=>exact⟨_,(decide ((rd j 0)>9999)),(by first|rfl|(simp;done)|(simp[*];done)),H',⟨by have:=ar.out;have:=au.out;first|omega|exact Nat.le_refl _⟩,⟨Kd.Vz o.out⟩,⟨Kd.Rz z.out⟩,⟨bz⟩⟩
            ·rw[if_neg dw] at H
             exact absurd H (by simp)
          case rest =>
           clear df;obtain⟨kq,a6,rfl,HA,av,o,z,HB⟩:=hcut
           cases kq with
           | zero=>exact absurd HA.out (by simp[impl_takeOrd.j2])
           | succ X =>
            have H:=HA.out;clear HA;simp only[impl_takeOrd.j2] at H
            by_cases dy:a6=true
            ·subst dy
             replace H:=ip rfl H;simp only[Option.some.injEq,Prod.mk.injEq] at H;obtain⟨rfl,rfl,rfl⟩:=H;go_wp2;go_ret3;exact⟨_,_,by first|rfl|(simp[errW_none,errW_some]<;>rfl)|(simp[*,errW_none,errW_some]<;>rfl),by first|exact Kd.R_nil _ _ _ _ _|exact Kd.N_nil _ _ _ _ _|exact Kd.V_nil _ _ _ _ _|exact Kd.Q_nil _ _ _ _ _|exact Kd.S_nil _ _ _ _ _,Kd.V_nil _ _ _ _ _,bz⟩
            ·replace dy:=Bool.eq_false_iff.mpr dy
             subst dy;replace H:=ng ft H
             by_cases db:1≤(j.length:Int)
             ·rw[if_pos db] at H
              have gt:=eq_true db;have gu:decide (1≤(j.length:Int))=true:=decide_eq_true db;clear db;obtain⟨G,cf⟩:∃ y_:List Int,y_=(j.drop 1):=⟨_,rfl⟩;replace H:((impl_takeOrd.f X G).bind fun ax=>(if ax.2.2=true then(if D>0 then(if 0≤(wrap64 (D-1)) then(if(wrap64 (D-1))<(E.length:Int) then((impl_compare.f X ax.1 ((rd_T57 E (wrap64 (D-1))).f1)).bind fun ah=>(if ah≥0 then(some (([]:List (S57)),([]:List Int),false)) else(if 0<(j.length:Int) then(if E.length<4398046511104 then(impl_takeOrd.l0 X ax.2.1 (E++[(⟨rd j 0,ax.1⟩:S57)]) (rd l0 0) (wrap64 (D+1))) else(none)) else(none)))) else(none)) else(none)) else(if 0<(j.length:Int) then(if E.length<4398046511104 then(impl_takeOrd.l0 X ax.2.1 (E++[(⟨rd j 0,ax.1⟩:S57)]) (rd l0 0) (wrap64 (D+1))) else(none)) else(none))) else(some (([]:List (S57)),([]:List Int),false))))=some (r1,r2,r3):=hz cf H;have al:=Sd.mk cf;clear cf;replace H:=Option.bind_eq_some_iff.mp H;obtain⟨⟨J,ai,em⟩,en,H⟩:=H;replace H:(if em=true then(if D>0 then(if 0≤(wrap64 (D-1)) then(if(wrap64 (D-1))<(E.length:Int) then((impl_compare.f X J ((rd_T57 E (wrap64 (D-1))).f1)).bind fun ah=>(if ah≥0 then(some (([]:List (S57)),([]:List Int),false)) else(if 0<(j.length:Int) then(if E.length<4398046511104 then(impl_takeOrd.l0 X ai (E++[(⟨rd j 0,J⟩:S57)]) (rd l0 0) (wrap64 (D+1))) else(none)) else(none)))) else(none)) else(none)) else(if 0<(j.length:Int) then(if E.length<4398046511104 then(impl_takeOrd.l0 X ai (E++[(⟨rd j 0,J⟩:S57)]) (rd l0 0) (wrap64 (D+1))) else(none)) else(none))) else(some (([]:List (S57)),([]:List Int),false)))=some (r1,r2,r3):=H;have dc:=Sd.mk en;clear en
              by_cases d0:em=true
              ·subst d0
               replace H:=ip rfl H
               by_cases b8:D>0
               ·rw[if_pos b8] at H
                have ff:decide (0<D)=true:=decide_eq_true b8;clear b8;obtain⟨O,a8⟩:∃ j_:Int,(wrap64 (D-1))=j_:=⟨_,rfl⟩
                replace H:(if 0≤(O) then(if(O)<(E.length:Int) then((impl_compare.f X J ((rd_T57 E (O)).f1)).bind fun ah=>(if ah≥0 then(some (([]:List (S57)),([]:List Int),false)) else(if 0<(j.length:Int) then(if E.length<4398046511104 then(impl_takeOrd.l0 X ai (E++[(⟨rd j 0,J⟩:S57)]) (rd l0 0) (wrap64 (D+1))) else(none)) else(none)))) else(none)) else(none))=some (r1,r2,r3):=by first|(rw[a8] at H;exact H)|(simp only[a8] at H ⊢;exact H)
                (try rw[a8] at dc)
                have hji24w:(IntKind.i64.wrap (D-1))=O:=(i64_w _).trans a8
                by_cases d1:0≤(O)
                ·rw[if_pos d1] at H
                 have gv:decide (0≤(O))=true:=decide_eq_true d1;clear d1
                 by_cases d2:(O)<(E.length:Int)
                 ·rw[if_pos d2] at H
                  have gw:decide ((O)<(E.length:Int))=true:=decide_eq_true d2;clear d2;obtain⟨ah,fs,H⟩:=bs H
                  by_cases b9:ah≥0
                  ·rw[if_pos b9] at H
                   have fg:decide (0≤ah)=true:=decide_eq_true b9;clear b9;simp only[Option.some.injEq,Prod.mk.injEq] at H;obtain⟨rfl,rfl,rfl⟩:=H;obtain⟨ch,bj,f4⟩:=Kd.V_slice o.out;subst f4;have eo:(1:Int)≤((j.length:Int):Int):=dz;obtain⟨hq,d3,_,d4,_⟩:=info_parts info3;have hroom29:j.length≤bj:=(Kd.V_reads' o.out).2.1;have ep:Kd.F (Kd.int .i64) _ _ ch j.length j:=(Kd.V_at (base:=w.heap.size) o.out).2.2;have hcut29:=cut_from (P:=Tryd.prog) 22 3 .i64 Tryd.underlying22 d3 1 d4 ch j.length bj 1 (by omega) eo;have bk:=Kd.F_cut (m:=(1:Int).toNat) (c:=bj) ep (by omega) hroom29;obtain⟨eq,ci⟩:∃ Aq_,Aq_=(if bj=(1:Int).toNat then ch else(ch:Option Addr).map (·.add ((1:Int).toNat*1))):=⟨_,rfl⟩;obtain⟨er,cj⟩:∃ a5,a5=bj-(1:Int).toNat:=⟨_,rfl⟩;have bl:G.length=j.length-(1:Int).toNat:=(by rw[al.out,List.length_drop]<;>omega);rw[show (j).drop (1:Int).toNat=G from al.out.symm] at bk;replace bk:Kd.F (Kd.int .i64) _ _ eq G.length G:=(by rw[ci];exact bk);rw[← bl,← ci,← cj] at hcut29;have I:=Sd.mk (show Kd.V (Kd.int .i64) 3 _ w.heap.size _ (.slice eq G.length er) G from Kd.V_mk (by rw[bl,cj];exact Nat.sub_le_sub_right hroom29 _) bk);have ck:=Sd.mk (show G.length≤er from by rw[bl,cj];exact Nat.sub_le_sub_right hroom29 _);clear bk ep hroom29 d3 d4 cj;have hs:=Sd.mk bl;have ht:=Sd.mk ci;clear bl ci;replace eo:=eq_true eo;go_wp2_with (first|((with_reducible refine gate_callee (f:=39) rfl ?_);refine goesL_ (some 48) rfl rfl Tryd.func39 (by kernel_rfl) rfl #[.slice eq G.length er] rfl az ?_;(with_reducible refine(ih X (by have:=ar.out;have:=au.out;have:=av.out;omega) (fun k_=>((aa k_∨w.heap.size≤k_)∧some k_≠(u6:Value).ownBlock)) _ _ G J ai true _ ?side1 dc.out).mono ?_);(case side1=>exact I.out);rintro e ij ⟨a1,dj,rfl,ab,bm,hb⟩;refine⟨_,rfl,?_⟩;replace o:=Sd.mk (Kd.V_elder' (Kd.Vz o.out) (Kd.R_base ab) hb);replace I:=Sd.mk (Kd.V_elder' (Kd.Vz I.out) (Kd.R_base ab) hb);have L:=Sd.mk (Kd.R_lower (Kd.R_new' (Kd.R_newM (M:=fun k_=>(w.heap.size≤k_)) (Kd.R_mono (ok':=fun k_=>True) ab (fun _ ac=>trivial)) (below_size bz) (fun k_ h_=>h_)) (Kd.R_lt (Kd.Rz z.out))) (below_size bz));have Z:=Sd.mk (Kd.V_lower (Kd.V_mono (ok':=fun k_=>(aa k_∨w.heap.size≤k_)∧some k_≠(a1:Value).ownBlock∧some k_≠(u6:Value).ownBlock) bm (fun k_ ac=>⟨Or.elim ac.1 (fun aj=>aj.1) (fun ak=>(.inr (Nat.le_trans (below_size bz) ak))),ac.2,Or.elim ac.1 (fun aj=>aj.2) (fun ak=>(Kd.fresh' (Kd.R_lt (Kd.Rz z.out)) k_ ak))⟩)) (below_size bz));replace z:=Sd.mk (Kd.R_elder' (Kd.Rz z.out) (Kd.R_base ab) hb);replace HB:=Sd.mk (below_step bz hb);obtain⟨hu,hx,f5⟩:=Kd.R_slice z.out;subst f5;have ap:0≤((O):Int):=dz;have aq:(O)<(E.length:Int):=dz;obtain⟨cl,es,et,dk,ef,a9,an,ao⟩:=at_T57 (Kd.R_reads' z.out).2.2 (O) ap aq;cases dk;obtain⟨fh,bn,bo,aw⟩:=Kd.R_get z.out z57 (O) ap (by first|exact aq|exact dz|(have e_:=(Kd.R_reads' z.out).1;omega));obtain⟨eg,rfl,ad⟩:=k57_openM bo;have U:=aw 1 _ rfl;rw[add_field _ _ 1 (by omega)] at U;replace U:=Option.some.inj (U.symm.trans a9);rw[U] at ad;have ae:=Sd.mk (show Kd.R k57 57 _ _ _ _ ((rd_T57 E (O)).f1) from ad);clear U ad;clear aw bn;have af:=Sd.mk ao;have ba:=Sd.mk an;clear ao an;replace ap:=eq_true ap;replace aq:=eq_true aq;obtain⟨h0,h1,f6⟩:=Kd.R_slice L.out;subst f6)|(go_at_call 57;(with_reducible refine(impl_compare.calls X _ _ J _ _ ((rd_T57 E (O)).f1) ah _ ?side1 ?side2 ?side3 ?side4 fs.out).mono ?_);(case side1=>exact Kd.Cz (Kd.R_reads' L.out).2.2);(case side2=>exact(Kd.R_reads' L.out).2.1);(case side3=>exact(Kd.Cz af.out));(case side4=>exact ba.out);rintro e ik ⟨rfl,hb⟩;replace o:=Sd.mk (Kd.V_below (Kd.Vz o.out) hb);replace z:=Sd.mk (Kd.R_below (Kd.Rz z.out) hb);replace I:=Sd.mk (Kd.V_below (Kd.Vz I.out) hb);replace L:=Sd.mk (Kd.R_below (Kd.Rz L.out) hb);replace Z:=Sd.mk (Kd.V_below (Kd.Vz Z.out) hb);replace ae:=Sd.mk (Kd.R_below (Kd.Rz ae.out) hb);replace af:=Sd.mk (Kd.C_below (Kd.Cz af.out) hb);replace HB:=Sd.mk (below_step bz hb)));go_ret3;exact⟨_,_,by first|rfl|(simp[errW_none,errW_some]<;>rfl)|(simp only[← a8];first|rfl|(simp[errW_none,errW_some]<;>rfl))|(simp[*,errW_none,errW_some]<;>rfl),by first|exact Kd.R_nil _ _ _ _ _|exact Kd.N_nil _ _ _ _ _|exact Kd.V_nil _ _ _ _ _|exact Kd.Q_nil _ _ _ _ _|exact Kd.S_nil _ _ _ _ _,Kd.V_nil _ _ _ _ _,bz⟩
                  ·rw[if_neg b9] at H
                   have fg:decide (0≤ah)=false:=decide_eq_false b9;clear b9
                   by_cases d5:0<(j.length:Int)
                   ·rw[if_pos d5] at H
                    have gx:decide (0<(j.length:Int))=true:=decide_eq_true d5;have gy:decide (0<j.length)=true:=decide_eq_true (by omega);clear d5
                    by_cases d6:E.length<4398046511104
                    ·rw[if_pos d6] at H
                     have fi:=Sd.mk d6;clear d6;obtain⟨eu,cm⟩:∃ y_:List (S57),y_=(E++[(⟨rd j 0,J⟩:S57)]):=⟨_,rfl⟩;replace H:(impl_takeOrd.l0 X ai eu (rd l0 0) (wrap64 (D+1)))=some (r1,r2,r3):=hz cm H;have fj:=Sd.mk cm;clear cm;have H':=Sd.mk H;clear H;obtain⟨cn,bp,f7⟩:=Kd.V_slice o.out;subst f7;have ev:(1:Int)≤((j.length:Int):Int):=dz;obtain⟨h2,d7,_,d8,_⟩:=info_parts info3;have hroom37:j.length≤bp:=(Kd.V_reads' o.out).2.1;have ew:Kd.F (Kd.int .i64) _ _ cn j.length j:=(Kd.V_at (base:=w.heap.size) o.out).2.2;have hcut37:=cut_from (P:=Tryd.prog) 22 3 .i64 Tryd.underlying22 d7 1 d8 cn j.length bp 1 (by omega) ev;have bq:=Kd.F_cut (m:=(1:Int).toNat) (c:=bp) ew (by omega) hroom37;obtain⟨ex,co⟩:∃ Aq_,Aq_=(if bp=(1:Int).toNat then cn else(cn:Option Addr).map (·.add ((1:Int).toNat*1))):=⟨_,rfl⟩;obtain⟨ey,cp⟩:∃ a5,a5=bp-(1:Int).toNat:=⟨_,rfl⟩;have br:G.length=j.length-(1:Int).toNat:=(by rw[al.out,List.length_drop]<;>omega);rw[show (j).drop (1:Int).toNat=G from al.out.symm] at bq;replace bq:Kd.F (Kd.int .i64) _ _ ex G.length G:=(by rw[co];exact bq);rw[← br,← co,← cp] at hcut37;have I:=Sd.mk (show Kd.V (Kd.int .i64) 3 _ w.heap.size _ (.slice ex G.length ey) G from Kd.V_mk (by rw[br,cp];exact Nat.sub_le_sub_right hroom37 _) bq);have ck:=Sd.mk (show G.length≤ey from by rw[br,cp];exact Nat.sub_le_sub_right hroom37 _);clear bq ew hroom37 d7 d8 cp;have h3:=Sd.mk br;have h4:=Sd.mk co;clear br co;replace ev:=eq_true ev;go_wp2_with (first|((with_reducible refine gate_callee (f:=39) rfl ?_);refine goesL_ (some 48) rfl rfl Tryd.func39 (by kernel_rfl) rfl #[.slice ex G.length ey] rfl az ?_;(with_reducible refine(ih X (by have:=ar.out;have:=au.out;have:=av.out;omega) (fun k_=>((aa k_∨w.heap.size≤k_)∧some k_≠(u6:Value).ownBlock)) _ _ G J ai true _ ?side1 dc.out).mono ?_);(case side1=>exact I.out);rintro e il ⟨a1,dj,rfl,ab,bm,hb⟩;refine⟨_,rfl,?_⟩;replace o:=Sd.mk (Kd.V_elder' (Kd.Vz o.out) (Kd.R_base ab) hb);replace I:=Sd.mk (Kd.V_elder' (Kd.Vz I.out) (Kd.R_base ab) hb);have L:=Sd.mk (Kd.R_lower (Kd.R_new' (Kd.R_newM (M:=fun k_=>(w.heap.size≤k_)) (Kd.R_mono (ok':=fun k_=>True) ab (fun _ ac=>trivial)) (below_size bz) (fun k_ h_=>h_)) (Kd.R_lt (Kd.Rz z.out))) (below_size bz));have Z:=Sd.mk (Kd.V_lower (Kd.V_mono (ok':=fun k_=>(aa k_∨w.heap.size≤k_)∧some k_≠(a1:Value).ownBlock∧some k_≠(u6:Value).ownBlock) bm (fun k_ ac=>⟨Or.elim ac.1 (fun aj=>aj.1) (fun ak=>(.inr (Nat.le_trans (below_size bz) ak))),ac.2,Or.elim ac.1 (fun aj=>aj.2) (fun ak=>(Kd.fresh' (Kd.R_lt (Kd.Rz z.out)) k_ ak))⟩)) (below_size bz));replace z:=Sd.mk (Kd.R_elder' (Kd.Rz z.out) (Kd.R_base ab) hb);replace HB:=Sd.mk (below_step bz hb);obtain⟨h5,ez,f8⟩:=Kd.R_slice z.out;subst f8;have ap:0≤((O):Int):=dz;have aq:(O)<(E.length:Int):=dz;obtain⟨cl,es,et,dk,ef,a9,an,ao⟩:=at_T57 (Kd.R_reads' z.out).2.2 (O) ap aq;cases dk;obtain⟨fh,bn,bo,aw⟩:=Kd.R_get z.out z57 (O) ap (by first|exact aq|exact dz|(have e_:=(Kd.R_reads' z.out).1;omega));obtain⟨eg,rfl,ad⟩:=k57_openM bo;have U:=aw 1 _ rfl;rw[add_field _ _ 1 (by omega)] at U;replace U:=Option.some.inj (U.symm.trans a9);rw[U] at ad;have ae:=Sd.mk (show Kd.R k57 57 _ _ _ _ ((rd_T57 E (O)).f1) from ad);clear U ad;clear aw bn;have af:=Sd.mk ao;have ba:=Sd.mk an;clear ao an;replace ap:=eq_true ap;replace aq:=eq_true aq;obtain⟨bu,bv,f9⟩:=Kd.R_slice L.out;subst f9)|(go_at_call 57;(with_reducible refine(impl_compare.calls X _ _ J _ _ ((rd_T57 E (O)).f1) ah _ ?side1 ?side2 ?side3 ?side4 fs.out).mono ?_);(case side1=>exact Kd.Cz (Kd.R_reads' L.out).2.2);(case side2=>exact(Kd.R_reads' L.out).2.1);(case side3=>exact(Kd.Cz af.out));(case side4=>exact ba.out);rintro e im ⟨rfl,hb⟩;replace o:=Sd.mk (Kd.V_below (Kd.Vz o.out) hb);replace z:=Sd.mk (Kd.R_below (Kd.Rz z.out) hb);replace I:=Sd.mk (Kd.V_below (Kd.Vz I.out) hb);replace L:=Sd.mk (Kd.R_below (Kd.Rz L.out) hb);replace Z:=Sd.mk (Kd.V_below (Kd.Vz Z.out) hb);replace ae:=Sd.mk (Kd.R_below (Kd.Rz ae.out) hb);replace af:=Sd.mk (Kd.C_below (Kd.Cz af.out) hb);replace HB:=Sd.mk (below_step bz hb);have dl:0≤(0:Int):=(by omega);have dm:0<(j.length:Int):=dz;obtain⟨gz,ga,ca⟩:=Kd.at_int (Kd.V_reads' o.out).2.2 0 dl dm;cases ga;have g0:(0<j.length)=True:=eq_true (by omega);(try rw[show ((0:Int)).toNat=0 from rfl] at ca);(try rw[Addr.add_zero'] at ca);replace dl:=eq_true dl;replace dm:=eq_true dm)|((with_reducible refine gate_builtin (b:=.append) (xs:=#[.tmp 69,.tmp 75]) rfl ?_);at_builtin;refine Kd.R_append k57 (w0:=w) w.heap.size rfl (.tmp 69) (.tmp 75) 39 57 (.agg #[(.int .i64 0),(.slice none 0 0)]) 32 rfl Tryd.underlying39 info57 rfl (by decide) (by omega) (.slice (some cl) E.length ez) E (⟨rd j 0,J⟩:S57) [.int .i64 (rd j 0),.slice bu J.length bv] (fun k_=>(w.heap.size≤k_)) (fun k_=>((fun k_=>(w.heap.size≤k_))) k_∧some k_≠(.slice (some cl) E.length ez:Value).ownBlock) rfl rfl ?aP (fun _ hk=>hk) ?aF ?aO ?aB ?aS ?aL ?_;(case aP=>exact k57_mkM _ _ _ (⟨rd j 0,J⟩:S57) (Kd.R_mono (L.out) (fun k_ hk=>⟨hk.1.1,hk.2⟩)));(case aB=>exact bz);(case aF=>exact(fun k_ hk=>(Nat.le_trans (below_size bz) hk)));(case aO=>exact(Kd.Rz <| Kd.R_mono z.out (fun _ hk=>hk.1)));(case aS=>exact(below_size bz));(case aL=>have:=fi.out;omega);intro h6 io ho hb hg hat;rw[← fj.out] at ho;replace o:=Sd.mk (Kd.V_afterv (ok:=(fun k_=>(aa k_∨w.heap.size≤k_)∧some k_≠(.slice bu J.length bv:Value).ownBlock)) (Kd.Vz <| Kd.V_mono o.out (fun _ hk=>⟨⟨hk.1.1,hk.2⟩,hk.1.2⟩)) hg hat);replace I:=Sd.mk (Kd.V_afterv (ok:=(fun k_=>(aa k_∨w.heap.size≤k_)∧some k_≠(.slice bu J.length bv:Value).ownBlock)) (Kd.Vz <| Kd.V_mono I.out (fun _ hk=>⟨⟨hk.1.1,hk.2⟩,hk.1.2⟩)) hg hat);replace Z:=Sd.mk (Kd.V_afterv (ok:=(fun k_=>(aa k_∨w.heap.size≤k_)∧some k_≠(.slice bu J.length bv:Value).ownBlock)) (Kd.Vz <| Kd.V_mono Z.out (fun _ hk=>⟨⟨hk.1,hk.2.1⟩,hk.2.2⟩)) hg hat);replace ae:=Sd.mk (Kd.R_after (ok:=(fun k_=>(w.heap.size≤k_)∧some k_≠(.slice bu J.length bv:Value).ownBlock)) (Kd.Rz ae.out) hg hat);replace HB:=Sd.mk (hb);have fk:=Sd.mk (ho);clear z L;clear ho hb hg hat))
                     go_roundg X
                     case measure=>have:=ar.out;have:=au.out;have:=av.out;omega
                     case rel=>exact⟨(ai),(eu),(wrap64 (D+1)),(by first|rfl|(simp;done)|(simp[*];done)),H',⟨by have:=ar.out;have:=au.out;have:=av.out;omega⟩,⟨Kd.Vz <| Kd.V_mono Z.out (fun _ hk=>⟨hk.1.1,hk.2⟩)⟩,⟨Kd.Rz fk.out⟩,⟨bz⟩⟩
                    ·rw[if_neg d6] at H
                     exact absurd H (by simp)
                   ·rw[if_neg d5] at H
                    exact absurd H (by simp)
                 ·rw[if_neg d2] at H
                  exact absurd H (by simp)
                ·rw[if_neg d1] at H
                 exact absurd H (by simp)
               ·rw[if_neg b8] at H
                have ff:decide (0<D)=false:=decide_eq_false b8;clear b8
                by_cases d9:0<(j.length:Int)
                ·rw[if_pos d9] at H
                 have g1:decide (0<(j.length:Int))=true:=decide_eq_true d9;have g2:decide (0<j.length)=true:=decide_eq_true (by omega);clear d9
                 by_cases ea:E.length<4398046511104
                 ·rw[if_pos ea] at H
                  have fl:=Sd.mk ea;clear ea;obtain⟨e0,cq⟩:∃ y_:List (S57),y_=(E++[(⟨rd j 0,J⟩:S57)]):=⟨_,rfl⟩;replace H:(impl_takeOrd.l0 X ai e0 (rd l0 0) (wrap64 (D+1)))=some (r1,r2,r3):=hz cq H;have fm:=Sd.mk cq;clear cq;have H':=Sd.mk H;clear H;obtain⟨cr,bw,gb⟩:=Kd.V_slice o.out;subst gb;have e1:(1:Int)≤((j.length:Int):Int):=dz;obtain⟨h7,eb,_,ec,_⟩:=info_parts info3;have hroom46:j.length≤bw:=(Kd.V_reads' o.out).2.1;have e2:Kd.F (Kd.int .i64) _ _ cr j.length j:=(Kd.V_at (base:=w.heap.size) o.out).2.2;have hcut46:=cut_from (P:=Tryd.prog) 22 3 .i64 Tryd.underlying22 eb 1 ec cr j.length bw 1 (by omega) e1;have bx:=Kd.F_cut (m:=(1:Int).toNat) (c:=bw) e2 (by omega) hroom46;obtain⟨e3,cs⟩:∃ Aq_,Aq_=(if bw=(1:Int).toNat then cr else(cr:Option Addr).map (·.add ((1:Int).toNat*1))):=⟨_,rfl⟩;obtain⟨e4,ct⟩:∃ a5,a5=bw-(1:Int).toNat:=⟨_,rfl⟩;have b0:G.length=j.length-(1:Int).toNat:=(by rw[al.out,List.length_drop]<;>omega);rw[show (j).drop (1:Int).toNat=G from al.out.symm] at bx;replace bx:Kd.F (Kd.int .i64) _ _ e3 G.length G:=(by rw[cs];exact bx);rw[← b0,← cs,← ct] at hcut46;have I:=Sd.mk (show Kd.V (Kd.int .i64) 3 _ w.heap.size _ (.slice e3 G.length e4) G from Kd.V_mk (by rw[b0,ct];exact Nat.sub_le_sub_right hroom46 _) bx);have ck:=Sd.mk (show G.length≤e4 from by rw[b0,ct];exact Nat.sub_le_sub_right hroom46 _);clear bx e2 hroom46 eb ec ct;have h8:=Sd.mk b0;have h9:=Sd.mk cs;clear b0 cs;replace e1:=eq_true e1;go_wp2_with (first|((with_reducible refine gate_callee (f:=39) rfl ?_);refine goesL_ (some 48) rfl rfl Tryd.func39 (by kernel_rfl) rfl #[.slice e3 G.length e4] rfl az ?_;(with_reducible refine(ih X (by have:=ar.out;have:=au.out;have:=av.out;omega) (fun k_=>((aa k_∨w.heap.size≤k_)∧some k_≠(u6:Value).ownBlock)) _ _ G J ai true _ ?side1 dc.out).mono ?_);(case side1=>exact I.out);rintro e iq ⟨a1,dj,rfl,ab,bm,hb⟩;refine⟨_,rfl,?_⟩;replace o:=Sd.mk (Kd.V_elder' (Kd.Vz o.out) (Kd.R_base ab) hb);replace I:=Sd.mk (Kd.V_elder' (Kd.Vz I.out) (Kd.R_base ab) hb);have L:=Sd.mk (Kd.R_lower (Kd.R_new' (Kd.R_newM (M:=fun k_=>(w.heap.size≤k_)) (Kd.R_mono (ok':=fun k_=>True) ab (fun _ ac=>trivial)) (below_size bz) (fun k_ h_=>h_)) (Kd.R_lt (Kd.Rz z.out))) (below_size bz));have Z:=Sd.mk (Kd.V_lower (Kd.V_mono (ok':=fun k_=>(aa k_∨w.heap.size≤k_)∧some k_≠(a1:Value).ownBlock∧some k_≠(u6:Value).ownBlock) bm (fun k_ ac=>⟨Or.elim ac.1 (fun aj=>aj.1) (fun ak=>(.inr (Nat.le_trans (below_size bz) ak))),ac.2,Or.elim ac.1 (fun aj=>aj.2) (fun ak=>(Kd.fresh' (Kd.R_lt (Kd.Rz z.out)) k_ ak))⟩)) (below_size bz));replace z:=Sd.mk (Kd.R_elder' (Kd.Rz z.out) (Kd.R_base ab) hb);replace HB:=Sd.mk (below_step bz hb);have dn:0≤(0:Int):=(by omega);have dp:0<(j.length:Int):=dz;obtain⟨g3,gc,cb⟩:=Kd.at_int (Kd.V_reads' o.out).2.2 0 dn dp;cases gc;have g4:(0<j.length)=True:=eq_true (by omega);(try rw[show ((0:Int)).toNat=0 from rfl] at cb);(try rw[Addr.add_zero'] at cb);replace dn:=eq_true dn;replace dp:=eq_true dp;obtain⟨cu,cv,gf⟩:=Kd.R_slice L.out;subst gf)|((with_reducible refine gate_builtin (b:=.append) (xs:=#[.tmp 69,.tmp 75]) rfl ?_);at_builtin;refine Kd.R_append k57 (w0:=w) w.heap.size rfl (.tmp 69) (.tmp 75) 39 57 (.agg #[(.int .i64 0),(.slice none 0 0)]) 32 rfl Tryd.underlying39 info57 rfl (by decide) (by omega) u6 E (⟨rd j 0,J⟩:S57) [.int .i64 (rd j 0),.slice cu J.length cv] (fun k_=>(w.heap.size≤k_)) (fun k_=>((fun k_=>(w.heap.size≤k_))) k_∧some k_≠(u6:Value).ownBlock) rfl rfl ?aP (fun _ hk=>hk) ?aF ?aO ?aB ?aS ?aL ?_;(case aP=>exact k57_mkM _ _ _ (⟨rd j 0,J⟩:S57) (Kd.R_mono (L.out) (fun k_ hk=>⟨hk.1.1,hk.2⟩)));(case aB=>exact bz);(case aF=>exact(fun k_ hk=>(Nat.le_trans (below_size bz) hk)));(case aO=>exact(Kd.Rz <| Kd.R_mono z.out (fun _ hk=>hk.1)));(case aS=>exact(below_size bz));(case aL=>have:=fl.out;omega);intro ia ir ho hb hg hat;rw[← fm.out] at ho;replace o:=Sd.mk (Kd.V_afterv (ok:=(fun k_=>(aa k_∨w.heap.size≤k_)∧some k_≠(.slice cu J.length cv:Value).ownBlock)) (Kd.Vz <| Kd.V_mono o.out (fun _ hk=>⟨⟨hk.1.1,hk.2⟩,hk.1.2⟩)) hg hat);replace I:=Sd.mk (Kd.V_afterv (ok:=(fun k_=>(aa k_∨w.heap.size≤k_)∧some k_≠(.slice cu J.length cv:Value).ownBlock)) (Kd.Vz <| Kd.V_mono I.out (fun _ hk=>⟨⟨hk.1.1,hk.2⟩,hk.1.2⟩)) hg hat);replace Z:=Sd.mk (Kd.V_afterv (ok:=(fun k_=>(aa k_∨w.heap.size≤k_)∧some k_≠(.slice cu J.length cv:Value).ownBlock)) (Kd.Vz <| Kd.V_mono Z.out (fun _ hk=>⟨⟨hk.1,hk.2.1⟩,hk.2.2⟩)) hg hat);replace HB:=Sd.mk (hb);have fn:=Sd.mk (ho);clear z L;clear ho hb hg hat))
                  go_roundg X
                  case measure=>have:=ar.out;have:=au.out;have:=av.out;omega
                  case rel=>exact⟨(ai),(e0),(wrap64 (D+1)),(by first|rfl|(simp;done)|(simp[*];done)),H',⟨by have:=ar.out;have:=au.out;have:=av.out;omega⟩,⟨Kd.Vz <| Kd.V_mono Z.out (fun _ hk=>⟨hk.1.1,hk.2⟩)⟩,⟨Kd.Rz fn.out⟩,⟨bz⟩⟩
                 ·rw[if_neg ea] at H
                  exact absurd H (by simp)
                ·rw[if_neg d9] at H
                 exact absurd H (by simp)
              ·replace d0:=Bool.eq_false_iff.mpr d0
               subst d0;replace H:=ng ft H;simp only[Option.some.injEq,Prod.mk.injEq] at H;obtain⟨rfl,rfl,rfl⟩:=H;obtain⟨cw,b1,gg⟩:=Kd.V_slice o.out;subst gg;have e5:(1:Int)≤((j.length:Int):Int):=dz;obtain⟨ib,ed,_,ee,_⟩:=info_parts info3;have hroom51:j.length≤b1:=(Kd.V_reads' o.out).2.1;have e6:Kd.F (Kd.int .i64) _ _ cw j.length j:=(Kd.V_at (base:=w.heap.size) o.out).2.2;have hcut51:=cut_from (P:=Tryd.prog) 22 3 .i64 Tryd.underlying22 ed 1 ee cw j.length b1 1 (by omega) e5;have b2:=Kd.F_cut (m:=(1:Int).toNat) (c:=b1) e6 (by omega) hroom51;obtain⟨e7,cx⟩:∃ Aq_,Aq_=(if b1=(1:Int).toNat then cw else(cw:Option Addr).map (·.add ((1:Int).toNat*1))):=⟨_,rfl⟩;obtain⟨e8,cy⟩:∃ a5,a5=b1-(1:Int).toNat:=⟨_,rfl⟩;have b3:G.length=j.length-(1:Int).toNat:=(by rw[al.out,List.length_drop]<;>omega);rw[show (j).drop (1:Int).toNat=G from al.out.symm] at b2;replace b2:Kd.F (Kd.int .i64) _ _ e7 G.length G:=(by rw[cx];exact b2);rw[← b3,← cx,← cy] at hcut51;have I:=Sd.mk (show Kd.V (Kd.int .i64) 3 _ w.heap.size _ (.slice e7 G.length e8) G from Kd.V_mk (by rw[b3,cy];exact Nat.sub_le_sub_right hroom51 _) b2);have ck:=Sd.mk (show G.length≤e8 from by rw[b3,cy];exact Nat.sub_le_sub_right hroom51 _);clear b2 e6 hroom51 ed ee cy;have ic:=Sd.mk b3;have id:=Sd.mk cx;clear b3 cx;replace e5:=eq_true e5;go_wp2_with (first|((with_reducible refine gate_callee (f:=39) rfl ?_);refine goesL_ (some 48) rfl rfl Tryd.func39 (by kernel_rfl) rfl #[.slice e7 G.length e8] rfl az ?_;(with_reducible refine(ih X (by have:=ar.out;have:=au.out;have:=av.out;omega) (fun k_=>((aa k_∨w.heap.size≤k_)∧some k_≠(u6:Value).ownBlock)) _ _ G J ai false _ ?side1 dc.out).mono ?_);(case side1=>exact I.out);rintro e it ⟨a1,dj,rfl,ab,bm,hb⟩;refine⟨_,rfl,?_⟩;replace o:=Sd.mk (Kd.V_elder' (Kd.Vz o.out) (Kd.R_base ab) hb);replace I:=Sd.mk (Kd.V_elder' (Kd.Vz I.out) (Kd.R_base ab) hb);have L:=Sd.mk (Kd.R_lower (Kd.R_new' (Kd.R_newM (M:=fun k_=>(w.heap.size≤k_)) (Kd.R_mono (ok':=fun k_=>True) ab (fun _ ac=>trivial)) (below_size bz) (fun k_ h_=>h_)) (Kd.R_lt (Kd.Rz z.out))) (below_size bz));have Z:=Sd.mk (Kd.V_lower (Kd.V_mono (ok':=fun k_=>(aa k_∨w.heap.size≤k_)∧some k_≠(a1:Value).ownBlock∧some k_≠(u6:Value).ownBlock) bm (fun k_ ac=>⟨Or.elim ac.1 (fun aj=>aj.1) (fun ak=>(.inr (Nat.le_trans (below_size bz) ak))),ac.2,Or.elim ac.1 (fun aj=>aj.2) (fun ak=>(Kd.fresh' (Kd.R_lt (Kd.Rz z.out)) k_ ak))⟩)) (below_size bz));replace z:=Sd.mk (Kd.R_elder' (Kd.Rz z.out) (Kd.R_base ab) hb);replace HB:=Sd.mk (below_step bz hb)));go_ret3;exact⟨_,_,by first|rfl|(simp[errW_none,errW_some]<;>rfl)|(simp[*,errW_none,errW_some]<;>rfl),by first|exact Kd.R_nil _ _ _ _ _|exact Kd.N_nil _ _ _ _ _|exact Kd.V_nil _ _ _ _ _|exact Kd.Q_nil _ _ _ _ _|exact Kd.S_nil _ _ _ _ _,Kd.V_nil _ _ _ _ _,bz⟩
             ·rw[if_neg db] at H
              exact absurd H (by simp)
         ·rw[if_neg b5] at H
          have fa:decide (D<(rd l0 0))=false:=decide_eq_false b5;clear b5;simp only[Option.some.injEq,Prod.mk.injEq] at H;obtain⟨rfl,rfl,rfl⟩:=H;go_wp2;go_ret3;exact⟨_,_,by first|rfl|(simp[errW_none,errW_some]<;>rfl)|(simp[*,errW_none,errW_some]<;>rfl),by(with_reducible repeat (first|apply Kd.R_alloc|apply Kd.R_drewN|apply Kd.R_drew));exact z.out,by(with_reducible repeat (first|apply Kd.V_alloc|apply Kd.V_drewN|apply Kd.V_drew));exact o.out,bz⟩
   ·rw[if_neg c4] at H
    exact absurd H (by simp)
  ·rw[if_neg c3] at H
   exact absurd H (by simp)
end Go.Proofs.YtbdbldhpglponaaDoor.P