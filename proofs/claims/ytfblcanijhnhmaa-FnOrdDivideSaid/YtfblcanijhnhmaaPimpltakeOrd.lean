/- One Go function comes to what its Lean function tells. -/
import Derived.Test.YtfblcanijhnhmaaP0
import Derived.Test.YtfblcanijhnhmaaPimplcompare
namespace Go.Proofs.Ytfblcanijhnhmaa.P
open Go.RowKit YtfblcanijhnhmaaW.PrintWords YtfblcanijhnhmaaW.PrintLast YtfblcanijhnhmaaW.PrintMore
set_option linter.unusedVariables false
set_option linter.unusedSimpArgs false
/-! ### impl_takeOrd: function 74 -/
mutual
def impl_takeOrd.j0:Nat→List Int→Int→List (S61)→Bool→Option ((List (S61)) × List Int × Bool)
 | 0,_,_,_,_=>none
 | k+1,x0,x5,x6,x25=>if x25=true then(some (([]:List (S61)),([]:List Int),false)) else(impl_takeOrd.l0 k x0 x6 x5 0)
def impl_takeOrd.l0:Nat→List Int→List (S61)→Int→Int→Option ((List (S61)) × List Int × Bool)
 | 0,_,_,_,_=>none
 | k+1,x0,x6,x26,x27=>if x27<x26 then(if(x0.length:Int)=0 then(impl_takeOrd.j2 k x0 x6 x27 x26 x27 true) else(if 0<(x0.length:Int) then(if(rd x0 0)<1 then(impl_takeOrd.j2 k x0 x6 x27 x26 x27 true) else(impl_takeOrd.j2 k x0 x6 x27 x26 x27 (decide ((rd x0 0)>9999)))) else(none))) else(some (x6,x0,true))
def impl_takeOrd.j2:Nat→List Int→List (S61)→Int→Int→Int→Bool→Option ((List (S61)) × List Int × Bool)
 | 0,_,_,_,_,_,_=>none
 | k+1,x0,x6,x7,x26,x27,x44=>if x44=true then(some (([]:List (S61)),([]:List Int),false)) else(if 1≤(x0.length:Int) then((impl_takeOrd.f k (x0.drop 1)).bind fun bt126=>(if bt126.2.2=true then(if x7>0 then(if 0≤(wrap64 (x7-1)) then(if(wrap64 (x7-1))<(x6.length:Int) then((impl_compare.f k bt126.1 ((rd_T61 x6 (wrap64 (x7-1))).f1)).bind fun t134=>(if t134≥0 then(some (([]:List (S61)),([]:List Int),false)) else(if 0<(x0.length:Int) then(if x6.length<4398046511104 then(impl_takeOrd.l0 k bt126.2.1 (x6++[(⟨rd x0 0,bt126.1⟩:S61)]) x26 (wrap64 (x27+1))) else(none)) else(none)))) else(none)) else(none)) else(if 0<(x0.length:Int) then(if x6.length<4398046511104 then(impl_takeOrd.l0 k bt126.2.1 (x6++[(⟨rd x0 0,bt126.1⟩:S61)]) x26 (wrap64 (x27+1))) else(none)) else(none))) else(some (([]:List (S61)),([]:List Int),false)))) else(none))
def impl_takeOrd.f:Nat→List Int→Option ((List (S61)) × List Int × Bool)
 | 0,_=>none
 | k+1,l0=>if(l0.length:Int)=0 then(some (([]:List (S61)),([]:List Int),false)) else(if 0<(l0.length:Int) then(if 1≤(l0.length:Int) then((some (l0.drop 1:List Int)).bind fun y111=>((some (([]:List (S61)):List (S61))).bind fun y116=>(if(rd l0 0)<0 then(impl_takeOrd.j0 k y111 (rd l0 0) y116 true) else(impl_takeOrd.j0 k y111 (rd l0 0) y116 (decide ((rd l0 0)>60)))))) else(none)) else(none))
end
set_option maxHeartbeats 8000000 in
set_option maxRecDepth 100000 in
theorem impl_takeOrd.calls (k:Nat):∀ (aa:Nat→Prop) (A0:Option Addr) (c0:Nat) (l0:List Int) (r1:List (S61)) (r2:List Int) (r3:Bool) (w:World) (fn:Kd.V (Kd.int .i64) 3 w w.heap.size (fun k_=>aa k_) (.slice A0 l0.length c0) l0) (h:impl_takeOrd.f k l0=some (r1,r2,r3)),
  Calls Try.prog 74 #[.slice A0 l0.length c0] w fun e w'=>∃ eg fo:Value,e=.returned (.tuple #[eg,fo,.bool r3])∧Kd.R k61 61 w' w.heap.size (fun k_=>(w.heap.size≤k_)) eg r1∧Kd.V (Kd.int .i64) 3 w' w.heap.size (fun k_=>(aa k_∨w.heap.size≤k_)∧some k_≠(eg:Value).ownBlock) fo r2∧Below w.heap.size w w':=by
 induction k using Nat.strongRecOn with
 | _ k ih =>
 intro aa A0 c0 l0 r1 r2 r3 w fn h
 cases k with
 | zero=>exact absurd h (by simp[impl_takeOrd.f])
 | succ k =>
 simp only[impl_takeOrd.f] at h;have g4:=Try.underlying61;have cy:=Sd.mk (show Kd.V (Kd.int .i64) 3 w w.heap.size (fun k_=>(aa k_∨w.heap.size≤k_)) (.slice A0 l0.length c0) l0 from Kd.V_mono fn (fun k_ hk=>.inl hk));have HB:=Sd.mk (Below.refl w.heap.size w);have H:(if(l0.length:Int)=0 then(some (([]:List (S61)),([]:List Int),false)) else(if 0<(l0.length:Int) then(if 1≤(l0.length:Int) then((some (l0.drop 1:List Int)).bind fun Y=>((some (([]:List (S61)):List (S61))).bind fun ag=>(if(rd l0 0)<0 then(impl_takeOrd.j0 k Y (rd l0 0) ag true) else(impl_takeOrd.j0 k Y (rd l0 0) ag (decide ((rd l0 0)>60)))))) else(none)) else(none)))=some (r1,r2,r3):=h;clear h
 by_cases c2:(l0.length:Int)=0
 ·rw[if_pos c2] at H
  have fs:((l0.length:Int) == 0)=true:=beq_iff_eq.mpr c2;have fu:((l0.length:Int) != 0)=false:=bne_eq_false_iff_eq.mpr c2;clear c2;simp only[Option.some.injEq,Prod.mk.injEq] at H;obtain⟨rfl,rfl,rfl⟩:=H;go_enter Try.func74,Try.ntmps74;go_wp2;go_ret3;exact⟨_,_,by first|rfl|(simp[errW_none,errW_some]<;>rfl)|(simp[*,errW_none,errW_some]<;>rfl),by first|exact Kd.R_nil _ _ _ _ _|exact Kd.N_nil _ _ _ _ _|exact Kd.V_nil _ _ _ _ _|exact Kd.Q_nil _ _ _ _ _|exact Kd.S_nil _ _ _ _ _,Kd.V_nil _ _ _ _ _,bz⟩
 ·rw[if_neg c2] at H
  have fs:((l0.length:Int) == 0)=false:=beq_eq_false_iff_ne.mpr c2;have fu:((l0.length:Int) != 0)=true:=bne_iff_ne.mpr c2;have g5:¬ (l0=[]):=fun h_=>c2 (by rw[h_];rfl)
  by_cases c3:0<(l0.length:Int)
  ·rw[if_pos c3] at H
   have g6:decide (0<(l0.length:Int))=true:=decide_eq_true c3;have g7:decide (0<l0.length)=true:=decide_eq_true (by omega);clear c3
   by_cases c4:1≤(l0.length:Int)
   ·rw[if_pos c4] at H
    have g8:=eq_true c4;have g9:decide (1≤(l0.length:Int))=true:=decide_eq_true c4;clear c4;obtain⟨Y,cc⟩:∃ y_:List Int,y_=(l0.drop 1):=⟨_,rfl⟩;replace H:((some (([]:List (S61)):List (S61))).bind fun ag=>(if(rd l0 0)<0 then(impl_takeOrd.j0 k Y (rd l0 0) ag true) else(impl_takeOrd.j0 k Y (rd l0 0) ag (decide ((rd l0 0)>60)))))=some (r1,r2,r3):=hz cc H;have dp:=Sd.mk cc;clear cc;obtain⟨ag,cd⟩:∃ y_:List (S61),y_=(([]:List (S61))):=⟨_,rfl⟩;replace H:(if(rd l0 0)<0 then(impl_takeOrd.j0 k Y (rd l0 0) ag true) else(impl_takeOrd.j0 k Y (rd l0 0) ag (decide ((rd l0 0)>60))))=some (r1,r2,r3):=hz cd H;have dq:=Sd.mk cd;clear cd;have eh:=Sd.mk H;clear H;have dc:0≤(0:Int):=(by omega);have dd:0<(l0.length:Int):=dz;obtain⟨bc,fv,b3⟩:=Kd.at_int (Kd.V_reads' cy.out).2.2 0 dc dd;cases fv;have gm:(0<l0.length)=True:=eq_true (by omega)
    (try rw[show ((0:Int)).toNat=0 from rfl] at b3)
    (try rw[Addr.add_zero'] at b3)
    replace dc:=eq_true dc;replace dd:=eq_true dd;have q6:(1:Int)≤((l0.length:Int):Int):=dz;obtain⟨id,ei,_,ej,_⟩:=info_parts info3;have hroom6:l0.length≤c0:=(Kd.V_reads' cy.out).2.1;have fp:Kd.F (Kd.int .i64) _ _ (some bc) l0.length l0:=(Kd.V_at (base:=w.heap.size) cy.out).2.2;have hcut6:=cut_from (P:=Try.prog) 22 3 .i64 Try.underlying22 ei 1 ej (some bc) l0.length c0 1 (by omega) q6;have cz:=Kd.F_cut (m:=(1:Int).toNat) (c:=c0) fp (by omega) hroom6;obtain⟨A6,dr⟩:∃ Aq_,Aq_=(if c0=(1:Int).toNat then(some bc) else((some bc):Option Addr).map (·.add ((1:Int).toNat*1))):=⟨_,rfl⟩;obtain⟨c6,dt⟩:∃ a5,a5=c0-(1:Int).toNat:=⟨_,rfl⟩;have c1:Y.length=l0.length-(1:Int).toNat:=(by rw[dp.out,List.length_drop]<;>omega);rw[show (l0).drop (1:Int).toNat=Y from dp.out.symm] at cz;replace cz:Kd.F (Kd.int .i64) _ _ A6 Y.length Y:=(by rw[dr];exact cz);rw[← c1,← dr,← dt] at hcut6;have bd:=Sd.mk (show Kd.V (Kd.int .i64) 3 _ w.heap.size _ (.slice A6 Y.length c6) Y from Kd.V_mk (by rw[c1,dt];exact Nat.sub_le_sub_right hroom6 _) cz);have gn:=Sd.mk (show Y.length≤c6 from by rw[c1,dt];exact Nat.sub_le_sub_right hroom6 _);clear cz fp hroom6 ei ej dt;have ie:=Sd.mk c1;have ig:=Sd.mk dr;clear c1 dr;replace q6:=eq_true q6;go_enter Try.func74,Try.ntmps74
    go_upto_region 6 with (first|((with_reducible refine gate_dst (N:=19) rfl ?_);refine Kd.R_lit k61 _ 61 ?hg (N:=19) ?hd (xs:=([]:List (S61))) (inner:=[]) (ok:=fun _=>True) (okp:=fun _=>True) ?hr ?hp (fun _ hk=>hk) trivial (Below.refl _ _) (Nat.le_refl _) (by simp) ?_;(case hd=>rfl);(case hg=>rfl);(case hr=>first|(go_simp;done)|(go_simp;rfl));(case hp=>exact(Reps.none _ _));intro ek w7 bf hb gg hnew_;clear gg hnew_;(first|rw[← dq.out] at bf|(simp only[Int.reduceToNat] at bf;rw[← dq.out] at bf));replace cy:=Sd.mk (Kd.V_elder' (Kd.Vz cy.out) (Kd.R_base bf) hb);replace bd:=Sd.mk (Kd.V_elder' (Kd.Vz bd.out) (Kd.R_base bf) hb);have du:=Sd.mk (Kd.R_lower (Kd.R_newM (M:=fun k_=>(w.heap.size≤k_)) bf (below_size bz) (fun k_ h_=>h_)) (below_size bz));replace HB:=Sd.mk (below_step bz hb);clear hb bf))
    (try simp only[Act.put,List.setIfInBounds_toArray,List.set_cons_zero,List.set_cons_succ])
    go_cut [25] (fun gh wc=>∃ (kq:Nat) (be:Bool),gh=.bool be∧Sd (impl_takeOrd.j0 kq Y (rd l0 0) ag be=some (r1,r2,r3))∧Sd (kq≤k)∧Sd (Kd.V (Kd.int .i64) 3 wc w.heap.size (fun k_=>(aa k_∨w.heap.size≤k_)∧some k_≠(ek:Value).ownBlock) (.slice A6 Y.length c6) Y)∧Sd (Kd.R k61 61 wc w.heap.size (fun k_=>(w.heap.size≤k_)) ek ag)∧Sd (Below w.heap.size w wc))
    case first =>
     have H:=eh.out;clear eh
     by_cases c9:(rd l0 0)<0
     ·rw[if_pos c9] at H
      have bg:decide ((rd l0 0)<0)=true:=decide_eq_true c9;clear c9
      (first|rw[bg]|(simp only[i64_w,i32_w];rw[bg])|skip)
      have H':=Sd.mk H;clear H;go_wp2;go_meet
      case rel=>exact⟨_,(true),(by first|rfl|(simp;done)|(simp[*];done)),H',⟨by first|omega|exact Nat.le_refl _⟩,⟨Kd.Vz bd.out⟩,⟨Kd.Rz <| Kd.R_mono du.out (fun _ hk=>hk.1)⟩,⟨bz⟩⟩
     ·rw[if_neg c9] at H
      have bg:decide ((rd l0 0)<0)=false:=decide_eq_false c9;clear c9
      (first|rw[bg]|(simp only[i64_w,i32_w];rw[bg])|skip)
      have H':=Sd.mk H;clear H;go_wp2;go_meet
      case rel=>exact⟨_,(decide ((rd l0 0)>60)),(by first|rfl|(simp;done)|(simp[*];done)),H',⟨by first|omega|exact Nat.le_refl _⟩,⟨Kd.Vz bd.out⟩,⟨Kd.Rz <| Kd.R_mono du.out (fun _ hk=>hk.1)⟩,⟨bz⟩⟩
    case rest =>
     clear eh;obtain⟨kq,be,rfl,HA,ar,o,z,HB⟩:=hcut
     cases kq with
     | zero=>exact absurd HA.out (by simp[impl_takeOrd.j0])
     | succ fq =>
      have H:=HA.out;clear HA;simp only[impl_takeOrd.j0] at H
      by_cases c10:be=true
      ·subst c10
       replace H:=ip rfl H;simp only[Option.some.injEq,Prod.mk.injEq] at H;obtain⟨rfl,rfl,rfl⟩:=H;go_wp2;go_ret3;exact⟨_,_,by first|rfl|(simp[errW_none,errW_some]<;>rfl)|(simp[*,errW_none,errW_some]<;>rfl),by first|exact Kd.R_nil _ _ _ _ _|exact Kd.N_nil _ _ _ _ _|exact Kd.V_nil _ _ _ _ _|exact Kd.Q_nil _ _ _ _ _|exact Kd.S_nil _ _ _ _ _,Kd.V_nil _ _ _ _ _,bz⟩
      ·replace c10:=Bool.eq_false_iff.mpr c10
       subst c10;replace H:=ng ft H;have H':=Sd.mk H;clear H;go_wp2
       go_loopg [0,6,27] fq (fun kq v0 v6 gj w'=>∃ (j:List Int) (E:List (S61)) (D:Int),gj=.int .i64 D∧Sd (impl_takeOrd.l0 kq j E (rd l0 0) D=some (r1,r2,r3))∧Sd (kq≤fq)∧Sd (Kd.V (Kd.int .i64) 3 w' w.heap.size (fun k_=>(aa k_∨w.heap.size≤k_)∧some k_≠(v6:Value).ownBlock) v0 j)∧Sd (Kd.R k61 61 w' w.heap.size (fun k_=>(w.heap.size≤k_)) v6 E)∧Sd (Below w.heap.size w w'))
       case atStart=>exact⟨(Y),(ag),(0),(by first|rfl|(simp;done)|(simp[*];done)),H',⟨Nat.le_refl _⟩,⟨Kd.Vz o.out⟩,⟨Kd.Rz z.out⟩,⟨bz⟩⟩
       case round =>
        clear H';obtain⟨j,E,D,rfl,HA,au,o,z,HB⟩:=hrel
        cases gk with
        | zero=>exact absurd HA.out (by simp[impl_takeOrd.l0])
        | succ k2 =>
         have H:=HA.out;clear HA;simp only[impl_takeOrd.l0] at H
         by_cases b4:D<(rd l0 0)
         ·rw[if_pos b4] at H
          have e9:decide (D<(rd l0 0))=true:=decide_eq_true b4;clear b4;have de:=Sd.mk H;clear H
          go_upto_region 11 with (fail)
          go_cut [44] (fun gl wc=>∃ (kq:Nat) (a6:Bool),gl=.bool a6∧Sd (impl_takeOrd.j2 kq j E D (rd l0 0) D a6=some (r1,r2,r3))∧Sd (kq≤k2)∧Sd (Kd.V (Kd.int .i64) 3 wc w.heap.size (fun k_=>(aa k_∨w.heap.size≤k_)∧some k_≠(u6:Value).ownBlock) u0 j)∧Sd (Kd.R k61 61 wc w.heap.size (fun k_=>(w.heap.size≤k_)) u6 E)∧Sd (Below w.heap.size w wc))
          case first =>
           have H:=de.out;clear de
           by_cases bb:(j.length:Int)=0
           ·rw[if_pos bb] at H
            have a7:((j.length:Int) == 0)=true:=beq_iff_eq.mpr bb;have fa:((j.length:Int) != 0)=false:=bne_eq_false_iff_eq.mpr bb;clear bb
            (first|rw[a7]|(simp only[i64_w,i32_w];rw[a7])|skip)
            have H':=Sd.mk H;clear H;obtain⟨he,hf,fy⟩:=Kd.V_slice o.out;subst fy;go_wp2;go_meet
            case rel=>exact⟨_,(true),(by first|rfl|(simp;done)|(simp[*];done)),H',⟨by have:=ar.out;have:=au.out;first|omega|exact Nat.le_refl _⟩,⟨Kd.Vz o.out⟩,⟨Kd.Rz z.out⟩,⟨bz⟩⟩
           ·rw[if_neg bb] at H
            have a7:((j.length:Int) == 0)=false:=beq_eq_false_iff_ne.mpr bb;have fa:((j.length:Int) != 0)=true:=bne_iff_ne.mpr bb;have go:¬ (j=[]):=fun h_=>bb (by rw[h_];rfl)
            (first|rw[a7]|(simp only[i64_w,i32_w];rw[a7])|skip)
            by_cases dv:0<(j.length:Int)
            ·rw[if_pos dv] at H
             have gp:decide (0<(j.length:Int))=true:=decide_eq_true dv;have gq:decide (0<j.length)=true:=decide_eq_true (by omega);clear dv
             by_cases b5:(rd j 0)<1
             ·rw[if_pos b5] at H
              have fb:decide ((rd j 0)<1)=true:=decide_eq_true b5;clear b5;have H':=Sd.mk H;clear H;obtain⟨hh,hj,fz⟩:=Kd.V_slice o.out;subst fz;have ay:0≤(0:Int):=(by omega);have a0:0<(j.length:Int):=dz;obtain⟨dw,df,am⟩:=Kd.at_int (Kd.V_reads' o.out).2.2 0 ay a0;cases df;have fc:(0<j.length)=True:=eq_true (by omega)
              (try rw[show ((0:Int)).toNat=0 from rfl] at am)
              (try rw[Addr.add_zero'] at am)
              replace ay:=eq_true ay;replace a0:=eq_true a0;go_wp2;go_meet
              case rel=>exact⟨_,(true),(by first|rfl|(simp;done)|(simp[*];done)),H',⟨by have:=ar.out;have:=au.out;first|omega|exact Nat.le_refl _⟩,⟨Kd.Vz o.out⟩,⟨Kd.Rz z.out⟩,⟨bz⟩⟩
             ·rw[if_neg b5] at H
              have fb:decide ((rd j 0)<1)=false:=decide_eq_false b5;clear b5;have H':=Sd.mk H;clear H;obtain⟨hl,hm,f0⟩:=Kd.V_slice o.out;subst f0;have ay:0≤(0:Int):=(by omega);have a0:0<(j.length:Int):=dz;obtain⟨dw,df,am⟩:=Kd.at_int (Kd.V_reads' o.out).2.2 0 ay a0;cases df;have fc:(0<j.length)=True:=eq_true (by omega)
              (try rw[show ((0:Int)).toNat=0 from rfl] at am)
              (try rw[Addr.add_zero'] at am)
              replace ay:=eq_true ay;replace a0:=eq_true a0;have dg:0≤(0:Int):=(by omega);have dh:0<(j.length:Int):=dz;obtain⟨fd,f2,b6⟩:=Kd.at_int (Kd.V_reads' o.out).2.2 0 dg dh;obtain rfl:dw=fd:=(by injection f2);have gr:(0<j.length)=True:=eq_true (by omega)
              (try rw[show ((0:Int)).toNat=0 from rfl] at b6)
              (try rw[Addr.add_zero'] at b6)
              replace dg:=eq_true dg;replace dh:=eq_true dh;go_wp2;go_meet
              case rel=>exact⟨_,(decide ((rd j 0)>9999)),(by first|rfl|(simp;done)|(simp[*];done)),H',⟨by have:=ar.out;have:=au.out;first|omega|exact Nat.le_refl _⟩,⟨Kd.Vz o.out⟩,⟨Kd.Rz z.out⟩,⟨bz⟩⟩
            ·rw[if_neg dv] at H
             exact absurd H (by simp)
          case rest =>
           clear de;obtain⟨kq,a6,rfl,HA,av,o,z,HB⟩:=hcut
           cases kq with
           | zero=>exact absurd HA.out (by simp[impl_takeOrd.j2])
           | succ X =>
            have H:=HA.out;clear HA;simp only[impl_takeOrd.j2] at H
            by_cases dx:a6=true
            ·subst dx
             replace H:=ip rfl H;simp only[Option.some.injEq,Prod.mk.injEq] at H;obtain⟨rfl,rfl,rfl⟩:=H;go_wp2;go_ret3;exact⟨_,_,by first|rfl|(simp[errW_none,errW_some]<;>rfl)|(simp[*,errW_none,errW_some]<;>rfl),by first|exact Kd.R_nil _ _ _ _ _|exact Kd.N_nil _ _ _ _ _|exact Kd.V_nil _ _ _ _ _|exact Kd.Q_nil _ _ _ _ _|exact Kd.S_nil _ _ _ _ _,Kd.V_nil _ _ _ _ _,bz⟩
            ·replace dx:=Bool.eq_false_iff.mpr dx
             subst dx;replace H:=ng ft H
             by_cases da:1≤(j.length:Int)
             ·rw[if_pos da] at H
              have gs:=eq_true da;have gt:decide (1≤(j.length:Int))=true:=decide_eq_true da;clear da;obtain⟨G,ce⟩:∃ y_:List Int,y_=(j.drop 1):=⟨_,rfl⟩;replace H:((impl_takeOrd.f X G).bind fun ax=>(if ax.2.2=true then(if D>0 then(if 0≤(wrap64 (D-1)) then(if(wrap64 (D-1))<(E.length:Int) then((impl_compare.f X ax.1 ((rd_T61 E (wrap64 (D-1))).f1)).bind fun ah=>(if ah≥0 then(some (([]:List (S61)),([]:List Int),false)) else(if 0<(j.length:Int) then(if E.length<4398046511104 then(impl_takeOrd.l0 X ax.2.1 (E++[(⟨rd j 0,ax.1⟩:S61)]) (rd l0 0) (wrap64 (D+1))) else(none)) else(none)))) else(none)) else(none)) else(if 0<(j.length:Int) then(if E.length<4398046511104 then(impl_takeOrd.l0 X ax.2.1 (E++[(⟨rd j 0,ax.1⟩:S61)]) (rd l0 0) (wrap64 (D+1))) else(none)) else(none))) else(some (([]:List (S61)),([]:List Int),false))))=some (r1,r2,r3):=hz ce H;have al:=Sd.mk ce;clear ce;replace H:=Option.bind_eq_some_iff.mp H;obtain⟨⟨J,ai,el⟩,em,H⟩:=H;replace H:(if el=true then(if D>0 then(if 0≤(wrap64 (D-1)) then(if(wrap64 (D-1))<(E.length:Int) then((impl_compare.f X J ((rd_T61 E (wrap64 (D-1))).f1)).bind fun ah=>(if ah≥0 then(some (([]:List (S61)),([]:List Int),false)) else(if 0<(j.length:Int) then(if E.length<4398046511104 then(impl_takeOrd.l0 X ai (E++[(⟨rd j 0,J⟩:S61)]) (rd l0 0) (wrap64 (D+1))) else(none)) else(none)))) else(none)) else(none)) else(if 0<(j.length:Int) then(if E.length<4398046511104 then(impl_takeOrd.l0 X ai (E++[(⟨rd j 0,J⟩:S61)]) (rd l0 0) (wrap64 (D+1))) else(none)) else(none))) else(some (([]:List (S61)),([]:List Int),false)))=some (r1,r2,r3):=H;have db:=Sd.mk em;clear em
              by_cases dy:el=true
              ·subst dy
               replace H:=ip rfl H
               by_cases b7:D>0
               ·rw[if_pos b7] at H
                have fe:decide (0<D)=true:=decide_eq_true b7;clear b7;obtain⟨O,a8⟩:∃ j_:Int,(wrap64 (D-1))=j_:=⟨_,rfl⟩
                replace H:(if 0≤(O) then(if(O)<(E.length:Int) then((impl_compare.f X J ((rd_T61 E (O)).f1)).bind fun ah=>(if ah≥0 then(some (([]:List (S61)),([]:List Int),false)) else(if 0<(j.length:Int) then(if E.length<4398046511104 then(impl_takeOrd.l0 X ai (E++[(⟨rd j 0,J⟩:S61)]) (rd l0 0) (wrap64 (D+1))) else(none)) else(none)))) else(none)) else(none))=some (r1,r2,r3):=by first|(rw[a8] at H;exact H)|(simp only[a8] at H ⊢;exact H)
                (try rw[a8] at db)
                have hji24w:(IntKind.i64.wrap (D-1))=O:=(i64_w _).trans a8
                by_cases d0:0≤(O)
                ·rw[if_pos d0] at H
                 have gu:decide (0≤(O))=true:=decide_eq_true d0;clear d0
                 by_cases d1:(O)<(E.length:Int)
                 ·rw[if_pos d1] at H
                  have gv:decide ((O)<(E.length:Int))=true:=decide_eq_true d1;clear d1;obtain⟨ah,fr,H⟩:=bs H
                  by_cases b8:ah≥0
                  ·rw[if_pos b8] at H
                   have ff:decide (0≤ah)=true:=decide_eq_true b8;clear b8;simp only[Option.some.injEq,Prod.mk.injEq] at H;obtain⟨rfl,rfl,rfl⟩:=H;obtain⟨cf,bj,f3⟩:=Kd.V_slice o.out;subst f3;have en:(1:Int)≤((j.length:Int):Int):=dz;obtain⟨hn,d2,_,d3,_⟩:=info_parts info3;have hroom29:j.length≤bj:=(Kd.V_reads' o.out).2.1;have eo:Kd.F (Kd.int .i64) _ _ cf j.length j:=(Kd.V_at (base:=w.heap.size) o.out).2.2;have hcut29:=cut_from (P:=Try.prog) 22 3 .i64 Try.underlying22 d2 1 d3 cf j.length bj 1 (by omega) en;have bk:=Kd.F_cut (m:=(1:Int).toNat) (c:=bj) eo (by omega) hroom29;obtain⟨ep,ch⟩:∃ Aq_,Aq_=(if bj=(1:Int).toNat then cf else(cf:Option Addr).map (·.add ((1:Int).toNat*1))):=⟨_,rfl⟩;obtain⟨eq,ci⟩:∃ a5,a5=bj-(1:Int).toNat:=⟨_,rfl⟩;have bl:G.length=j.length-(1:Int).toNat:=(by rw[al.out,List.length_drop]<;>omega);rw[show (j).drop (1:Int).toNat=G from al.out.symm] at bk;replace bk:Kd.F (Kd.int .i64) _ _ ep G.length G:=(by rw[ch];exact bk);rw[← bl,← ch,← ci] at hcut29;have I:=Sd.mk (show Kd.V (Kd.int .i64) 3 _ w.heap.size _ (.slice ep G.length eq) G from Kd.V_mk (by rw[bl,ci];exact Nat.sub_le_sub_right hroom29 _) bk);have cj:=Sd.mk (show G.length≤eq from by rw[bl,ci];exact Nat.sub_le_sub_right hroom29 _);clear bk eo hroom29 d2 d3 ci;have hq:=Sd.mk bl;have hs:=Sd.mk ch;clear bl ch;replace en:=eq_true en;go_wp2_with (first|((with_reducible refine gate_callee (f:=74) rfl ?_);refine goesL_ (some 48) rfl rfl Try.func74 (by kernel_rfl) rfl #[.slice ep G.length eq] rfl az ?_;(with_reducible refine(ih X (by have:=ar.out;have:=au.out;have:=av.out;omega) (fun k_=>((aa k_∨w.heap.size≤k_)∧some k_≠(u6:Value).ownBlock)) _ _ G J ai true _ ?side1 db.out).mono ?_);(case side1=>exact I.out);rintro e ii ⟨a1,di,rfl,ab,bm,hb⟩;refine⟨_,rfl,?_⟩;replace o:=Sd.mk (Kd.V_elder' (Kd.Vz o.out) (Kd.R_base ab) hb);replace I:=Sd.mk (Kd.V_elder' (Kd.Vz I.out) (Kd.R_base ab) hb);have L:=Sd.mk (Kd.R_lower (Kd.R_new' (Kd.R_newM (M:=fun k_=>(w.heap.size≤k_)) (Kd.R_mono (ok':=fun k_=>True) ab (fun _ ac=>trivial)) (below_size bz) (fun k_ h_=>h_)) (Kd.R_lt (Kd.Rz z.out))) (below_size bz));have Z:=Sd.mk (Kd.V_lower (Kd.V_mono (ok':=fun k_=>(aa k_∨w.heap.size≤k_)∧some k_≠(a1:Value).ownBlock∧some k_≠(u6:Value).ownBlock) bm (fun k_ ac=>⟨Or.elim ac.1 (fun aj=>aj.1) (fun ak=>(.inr (Nat.le_trans (below_size bz) ak))),ac.2,Or.elim ac.1 (fun aj=>aj.2) (fun ak=>(Kd.fresh' (Kd.R_lt (Kd.Rz z.out)) k_ ak))⟩)) (below_size bz));replace z:=Sd.mk (Kd.R_elder' (Kd.Rz z.out) (Kd.R_base ab) hb);replace HB:=Sd.mk (below_step bz hb);obtain⟨ht,hu,f4⟩:=Kd.R_slice z.out;subst f4;have ap:0≤((O):Int):=dz;have aq:(O)<(E.length:Int):=dz;obtain⟨ck,er,es,dj,ee,a9,an,ao⟩:=at_T61 (Kd.R_reads' z.out).2.2 (O) ap aq;cases dj;obtain⟨fg,bn,bo,aw⟩:=Kd.R_get z.out z61 (O) ap (by first|exact aq|exact dz|(have e_:=(Kd.R_reads' z.out).1;omega));obtain⟨ef,rfl,ad⟩:=k61_openM bo;have U:=aw 1 _ rfl;rw[add_field _ _ 1 (by omega)] at U;replace U:=Option.some.inj (U.symm.trans a9);rw[U] at ad;have ae:=Sd.mk (show Kd.R k61 61 _ _ _ _ ((rd_T61 E (O)).f1) from ad);clear U ad;clear aw bn;have af:=Sd.mk ao;have ba:=Sd.mk an;clear ao an;replace ap:=eq_true ap;replace aq:=eq_true aq;obtain⟨hx,h0,f5⟩:=Kd.R_slice L.out;subst f5)|(go_at_call 50;(with_reducible refine(impl_compare.calls X _ _ J _ _ ((rd_T61 E (O)).f1) ah _ ?side1 ?side2 ?side3 ?side4 fr.out).mono ?_);(case side1=>exact Kd.Cz (Kd.R_reads' L.out).2.2);(case side2=>exact(Kd.R_reads' L.out).2.1);(case side3=>exact(Kd.Cz af.out));(case side4=>exact ba.out);rintro e ij ⟨rfl,hb⟩;replace o:=Sd.mk (Kd.V_below (Kd.Vz o.out) hb);replace z:=Sd.mk (Kd.R_below (Kd.Rz z.out) hb);replace I:=Sd.mk (Kd.V_below (Kd.Vz I.out) hb);replace L:=Sd.mk (Kd.R_below (Kd.Rz L.out) hb);replace Z:=Sd.mk (Kd.V_below (Kd.Vz Z.out) hb);replace ae:=Sd.mk (Kd.R_below (Kd.Rz ae.out) hb);replace af:=Sd.mk (Kd.C_below (Kd.Cz af.out) hb);replace HB:=Sd.mk (below_step bz hb)));go_ret3;exact⟨_,_,by first|rfl|(simp[errW_none,errW_some]<;>rfl)|(simp only[← a8];first|rfl|(simp[errW_none,errW_some]<;>rfl))|(simp[*,errW_none,errW_some]<;>rfl),by first|exact Kd.R_nil _ _ _ _ _|exact Kd.N_nil _ _ _ _ _|exact Kd.V_nil _ _ _ _ _|exact Kd.Q_nil _ _ _ _ _|exact Kd.S_nil _ _ _ _ _,Kd.V_nil _ _ _ _ _,bz⟩
                  ·rw[if_neg b8] at H
                   have ff:decide (0≤ah)=false:=decide_eq_false b8;clear b8
                   by_cases d4:0<(j.length:Int)
                   ·rw[if_pos d4] at H
                    have gw:decide (0<(j.length:Int))=true:=decide_eq_true d4;have gx:decide (0<j.length)=true:=decide_eq_true (by omega);clear d4
                    by_cases d5:E.length<4398046511104
                    ·rw[if_pos d5] at H
                     have fh:=Sd.mk d5;clear d5;obtain⟨et,cl⟩:∃ y_:List (S61),y_=(E++[(⟨rd j 0,J⟩:S61)]):=⟨_,rfl⟩;replace H:(impl_takeOrd.l0 X ai et (rd l0 0) (wrap64 (D+1)))=some (r1,r2,r3):=hz cl H;have fi:=Sd.mk cl;clear cl;have H':=Sd.mk H;clear H;obtain⟨cm,bp,f6⟩:=Kd.V_slice o.out;subst f6;have eu:(1:Int)≤((j.length:Int):Int):=dz;obtain⟨h1,d6,_,d7,_⟩:=info_parts info3;have hroom37:j.length≤bp:=(Kd.V_reads' o.out).2.1;have ev:Kd.F (Kd.int .i64) _ _ cm j.length j:=(Kd.V_at (base:=w.heap.size) o.out).2.2;have hcut37:=cut_from (P:=Try.prog) 22 3 .i64 Try.underlying22 d6 1 d7 cm j.length bp 1 (by omega) eu;have bq:=Kd.F_cut (m:=(1:Int).toNat) (c:=bp) ev (by omega) hroom37;obtain⟨ew,cn⟩:∃ Aq_,Aq_=(if bp=(1:Int).toNat then cm else(cm:Option Addr).map (·.add ((1:Int).toNat*1))):=⟨_,rfl⟩;obtain⟨ex,co⟩:∃ a5,a5=bp-(1:Int).toNat:=⟨_,rfl⟩;have br:G.length=j.length-(1:Int).toNat:=(by rw[al.out,List.length_drop]<;>omega);rw[show (j).drop (1:Int).toNat=G from al.out.symm] at bq;replace bq:Kd.F (Kd.int .i64) _ _ ew G.length G:=(by rw[cn];exact bq);rw[← br,← cn,← co] at hcut37;have I:=Sd.mk (show Kd.V (Kd.int .i64) 3 _ w.heap.size _ (.slice ew G.length ex) G from Kd.V_mk (by rw[br,co];exact Nat.sub_le_sub_right hroom37 _) bq);have cj:=Sd.mk (show G.length≤ex from by rw[br,co];exact Nat.sub_le_sub_right hroom37 _);clear bq ev hroom37 d6 d7 co;have h2:=Sd.mk br;have h3:=Sd.mk cn;clear br cn;replace eu:=eq_true eu;go_wp2_with (first|((with_reducible refine gate_callee (f:=74) rfl ?_);refine goesL_ (some 48) rfl rfl Try.func74 (by kernel_rfl) rfl #[.slice ew G.length ex] rfl az ?_;(with_reducible refine(ih X (by have:=ar.out;have:=au.out;have:=av.out;omega) (fun k_=>((aa k_∨w.heap.size≤k_)∧some k_≠(u6:Value).ownBlock)) _ _ G J ai true _ ?side1 db.out).mono ?_);(case side1=>exact I.out);rintro e ik ⟨a1,di,rfl,ab,bm,hb⟩;refine⟨_,rfl,?_⟩;replace o:=Sd.mk (Kd.V_elder' (Kd.Vz o.out) (Kd.R_base ab) hb);replace I:=Sd.mk (Kd.V_elder' (Kd.Vz I.out) (Kd.R_base ab) hb);have L:=Sd.mk (Kd.R_lower (Kd.R_new' (Kd.R_newM (M:=fun k_=>(w.heap.size≤k_)) (Kd.R_mono (ok':=fun k_=>True) ab (fun _ ac=>trivial)) (below_size bz) (fun k_ h_=>h_)) (Kd.R_lt (Kd.Rz z.out))) (below_size bz));have Z:=Sd.mk (Kd.V_lower (Kd.V_mono (ok':=fun k_=>(aa k_∨w.heap.size≤k_)∧some k_≠(a1:Value).ownBlock∧some k_≠(u6:Value).ownBlock) bm (fun k_ ac=>⟨Or.elim ac.1 (fun aj=>aj.1) (fun ak=>(.inr (Nat.le_trans (below_size bz) ak))),ac.2,Or.elim ac.1 (fun aj=>aj.2) (fun ak=>(Kd.fresh' (Kd.R_lt (Kd.Rz z.out)) k_ ak))⟩)) (below_size bz));replace z:=Sd.mk (Kd.R_elder' (Kd.Rz z.out) (Kd.R_base ab) hb);replace HB:=Sd.mk (below_step bz hb);obtain⟨h4,ey,f7⟩:=Kd.R_slice z.out;subst f7;have ap:0≤((O):Int):=dz;have aq:(O)<(E.length:Int):=dz;obtain⟨ck,er,es,dj,ee,a9,an,ao⟩:=at_T61 (Kd.R_reads' z.out).2.2 (O) ap aq;cases dj;obtain⟨fg,bn,bo,aw⟩:=Kd.R_get z.out z61 (O) ap (by first|exact aq|exact dz|(have e_:=(Kd.R_reads' z.out).1;omega));obtain⟨ef,rfl,ad⟩:=k61_openM bo;have U:=aw 1 _ rfl;rw[add_field _ _ 1 (by omega)] at U;replace U:=Option.some.inj (U.symm.trans a9);rw[U] at ad;have ae:=Sd.mk (show Kd.R k61 61 _ _ _ _ ((rd_T61 E (O)).f1) from ad);clear U ad;clear aw bn;have af:=Sd.mk ao;have ba:=Sd.mk an;clear ao an;replace ap:=eq_true ap;replace aq:=eq_true aq;obtain⟨bt,bu,f8⟩:=Kd.R_slice L.out;subst f8)|(go_at_call 50;(with_reducible refine(impl_compare.calls X _ _ J _ _ ((rd_T61 E (O)).f1) ah _ ?side1 ?side2 ?side3 ?side4 fr.out).mono ?_);(case side1=>exact Kd.Cz (Kd.R_reads' L.out).2.2);(case side2=>exact(Kd.R_reads' L.out).2.1);(case side3=>exact(Kd.Cz af.out));(case side4=>exact ba.out);rintro e il ⟨rfl,hb⟩;replace o:=Sd.mk (Kd.V_below (Kd.Vz o.out) hb);replace z:=Sd.mk (Kd.R_below (Kd.Rz z.out) hb);replace I:=Sd.mk (Kd.V_below (Kd.Vz I.out) hb);replace L:=Sd.mk (Kd.R_below (Kd.Rz L.out) hb);replace Z:=Sd.mk (Kd.V_below (Kd.Vz Z.out) hb);replace ae:=Sd.mk (Kd.R_below (Kd.Rz ae.out) hb);replace af:=Sd.mk (Kd.C_below (Kd.Cz af.out) hb);replace HB:=Sd.mk (below_step bz hb);have dk:0≤(0:Int):=(by omega);have dl:0<(j.length:Int):=dz;obtain⟨gy,f9,b9⟩:=Kd.at_int (Kd.V_reads' o.out).2.2 0 dk dl;cases f9;have gz:(0<j.length)=True:=eq_true (by omega);(try rw[show ((0:Int)).toNat=0 from rfl] at b9);(try rw[Addr.add_zero'] at b9);replace dk:=eq_true dk;replace dl:=eq_true dl)|((with_reducible refine gate_builtin (b:=.append) (xs:=#[.tmp 69,.tmp 75]) rfl ?_);at_builtin;refine Kd.R_append k61 (w0:=w) w.heap.size rfl (.tmp 69) (.tmp 75) 46 61 (.agg #[(.int .i64 0),(.slice none 0 0)]) 32 rfl Try.underlying46 info61 rfl (by decide) (by omega) (.slice (some ck) E.length ey) E (⟨rd j 0,J⟩:S61) [.int .i64 (rd j 0),.slice bt J.length bu] (fun k_=>(w.heap.size≤k_)) (fun k_=>((fun k_=>(w.heap.size≤k_))) k_∧some k_≠(.slice (some ck) E.length ey:Value).ownBlock) rfl rfl ?aP (fun _ hk=>hk) ?aF ?aO ?aB ?aS ?aL ?_;(case aP=>exact k61_mkM _ _ _ (⟨rd j 0,J⟩:S61) (Kd.R_mono (L.out) (fun k_ hk=>⟨hk.1.1,hk.2⟩)));(case aB=>exact bz);(case aF=>exact(fun k_ hk=>(Nat.le_trans (below_size bz) hk)));(case aO=>exact(Kd.Rz <| Kd.R_mono z.out (fun _ hk=>hk.1)));(case aS=>exact(below_size bz));(case aL=>have:=fh.out;omega);intro h5 im ho hb hg hat;rw[← fi.out] at ho;replace o:=Sd.mk (Kd.V_afterv (ok:=(fun k_=>(aa k_∨w.heap.size≤k_)∧some k_≠(.slice bt J.length bu:Value).ownBlock)) (Kd.Vz <| Kd.V_mono o.out (fun _ hk=>⟨⟨hk.1.1,hk.2⟩,hk.1.2⟩)) hg hat);replace I:=Sd.mk (Kd.V_afterv (ok:=(fun k_=>(aa k_∨w.heap.size≤k_)∧some k_≠(.slice bt J.length bu:Value).ownBlock)) (Kd.Vz <| Kd.V_mono I.out (fun _ hk=>⟨⟨hk.1.1,hk.2⟩,hk.1.2⟩)) hg hat);replace Z:=Sd.mk (Kd.V_afterv (ok:=(fun k_=>(aa k_∨w.heap.size≤k_)∧some k_≠(.slice bt J.length bu:Value).ownBlock)) (Kd.Vz <| Kd.V_mono Z.out (fun _ hk=>⟨⟨hk.1,hk.2.1⟩,hk.2.2⟩)) hg hat);replace ae:=Sd.mk (Kd.R_after (ok:=(fun k_=>(w.heap.size≤k_)∧some k_≠(.slice bt J.length bu:Value).ownBlock)) (Kd.Rz ae.out) hg hat);replace HB:=Sd.mk (hb);have fj:=Sd.mk (ho);clear z L;clear ho hb hg hat))
                     go_roundg X
                     case measure=>have:=ar.out;have:=au.out;have:=av.out;omega
                     case rel=>exact⟨(ai),(et),(wrap64 (D+1)),(by first|rfl|(simp;done)|(simp[*];done)),H',⟨by have:=ar.out;have:=au.out;have:=av.out;omega⟩,⟨Kd.Vz <| Kd.V_mono Z.out (fun _ hk=>⟨hk.1.1,hk.2⟩)⟩,⟨Kd.Rz fj.out⟩,⟨bz⟩⟩
                    ·rw[if_neg d5] at H
                     exact absurd H (by simp)
                   ·rw[if_neg d4] at H
                    exact absurd H (by simp)
                 ·rw[if_neg d1] at H
                  exact absurd H (by simp)
                ·rw[if_neg d0] at H
                 exact absurd H (by simp)
               ·rw[if_neg b7] at H
                have fe:decide (0<D)=false:=decide_eq_false b7;clear b7
                by_cases d8:0<(j.length:Int)
                ·rw[if_pos d8] at H
                 have g0:decide (0<(j.length:Int))=true:=decide_eq_true d8;have g1:decide (0<j.length)=true:=decide_eq_true (by omega);clear d8
                 by_cases d9:E.length<4398046511104
                 ·rw[if_pos d9] at H
                  have fk:=Sd.mk d9;clear d9;obtain⟨ez,cp⟩:∃ y_:List (S61),y_=(E++[(⟨rd j 0,J⟩:S61)]):=⟨_,rfl⟩;replace H:(impl_takeOrd.l0 X ai ez (rd l0 0) (wrap64 (D+1)))=some (r1,r2,r3):=hz cp H;have fl:=Sd.mk cp;clear cp;have H':=Sd.mk H;clear H;obtain⟨cq,bv,ga⟩:=Kd.V_slice o.out;subst ga;have e0:(1:Int)≤((j.length:Int):Int):=dz;obtain⟨h6,ea,_,eb,_⟩:=info_parts info3;have hroom46:j.length≤bv:=(Kd.V_reads' o.out).2.1;have e1:Kd.F (Kd.int .i64) _ _ cq j.length j:=(Kd.V_at (base:=w.heap.size) o.out).2.2;have hcut46:=cut_from (P:=Try.prog) 22 3 .i64 Try.underlying22 ea 1 eb cq j.length bv 1 (by omega) e0;have bw:=Kd.F_cut (m:=(1:Int).toNat) (c:=bv) e1 (by omega) hroom46;obtain⟨e2,cr⟩:∃ Aq_,Aq_=(if bv=(1:Int).toNat then cq else(cq:Option Addr).map (·.add ((1:Int).toNat*1))):=⟨_,rfl⟩;obtain⟨e3,cs⟩:∃ a5,a5=bv-(1:Int).toNat:=⟨_,rfl⟩;have bx:G.length=j.length-(1:Int).toNat:=(by rw[al.out,List.length_drop]<;>omega);rw[show (j).drop (1:Int).toNat=G from al.out.symm] at bw;replace bw:Kd.F (Kd.int .i64) _ _ e2 G.length G:=(by rw[cr];exact bw);rw[← bx,← cr,← cs] at hcut46;have I:=Sd.mk (show Kd.V (Kd.int .i64) 3 _ w.heap.size _ (.slice e2 G.length e3) G from Kd.V_mk (by rw[bx,cs];exact Nat.sub_le_sub_right hroom46 _) bw);have cj:=Sd.mk (show G.length≤e3 from by rw[bx,cs];exact Nat.sub_le_sub_right hroom46 _);clear bw e1 hroom46 ea eb cs;have h7:=Sd.mk bx;have h8:=Sd.mk cr;clear bx cr;replace e0:=eq_true e0;go_wp2_with (first|((with_reducible refine gate_callee (f:=74) rfl ?_);refine goesL_ (some 48) rfl rfl Try.func74 (by kernel_rfl) rfl #[.slice e2 G.length e3] rfl az ?_;(with_reducible refine(ih X (by have:=ar.out;have:=au.out;have:=av.out;omega) (fun k_=>((aa k_∨w.heap.size≤k_)∧some k_≠(u6:Value).ownBlock)) _ _ G J ai true _ ?side1 db.out).mono ?_);(case side1=>exact I.out);rintro e io ⟨a1,di,rfl,ab,bm,hb⟩;refine⟨_,rfl,?_⟩;replace o:=Sd.mk (Kd.V_elder' (Kd.Vz o.out) (Kd.R_base ab) hb);replace I:=Sd.mk (Kd.V_elder' (Kd.Vz I.out) (Kd.R_base ab) hb);have L:=Sd.mk (Kd.R_lower (Kd.R_new' (Kd.R_newM (M:=fun k_=>(w.heap.size≤k_)) (Kd.R_mono (ok':=fun k_=>True) ab (fun _ ac=>trivial)) (below_size bz) (fun k_ h_=>h_)) (Kd.R_lt (Kd.Rz z.out))) (below_size bz));have Z:=Sd.mk (Kd.V_lower (Kd.V_mono (ok':=fun k_=>(aa k_∨w.heap.size≤k_)∧some k_≠(a1:Value).ownBlock∧some k_≠(u6:Value).ownBlock) bm (fun k_ ac=>⟨Or.elim ac.1 (fun aj=>aj.1) (fun ak=>(.inr (Nat.le_trans (below_size bz) ak))),ac.2,Or.elim ac.1 (fun aj=>aj.2) (fun ak=>(Kd.fresh' (Kd.R_lt (Kd.Rz z.out)) k_ ak))⟩)) (below_size bz));replace z:=Sd.mk (Kd.R_elder' (Kd.Rz z.out) (Kd.R_base ab) hb);replace HB:=Sd.mk (below_step bz hb);have dm:0≤(0:Int):=(by omega);have dn:0<(j.length:Int):=dz;obtain⟨g2,gb,ca⟩:=Kd.at_int (Kd.V_reads' o.out).2.2 0 dm dn;cases gb;have g3:(0<j.length)=True:=eq_true (by omega);(try rw[show ((0:Int)).toNat=0 from rfl] at ca);(try rw[Addr.add_zero'] at ca);replace dm:=eq_true dm;replace dn:=eq_true dn;obtain⟨ct,cu,gc⟩:=Kd.R_slice L.out;subst gc)|((with_reducible refine gate_builtin (b:=.append) (xs:=#[.tmp 69,.tmp 75]) rfl ?_);at_builtin;refine Kd.R_append k61 (w0:=w) w.heap.size rfl (.tmp 69) (.tmp 75) 46 61 (.agg #[(.int .i64 0),(.slice none 0 0)]) 32 rfl Try.underlying46 info61 rfl (by decide) (by omega) u6 E (⟨rd j 0,J⟩:S61) [.int .i64 (rd j 0),.slice ct J.length cu] (fun k_=>(w.heap.size≤k_)) (fun k_=>((fun k_=>(w.heap.size≤k_))) k_∧some k_≠(u6:Value).ownBlock) rfl rfl ?aP (fun _ hk=>hk) ?aF ?aO ?aB ?aS ?aL ?_;(case aP=>exact k61_mkM _ _ _ (⟨rd j 0,J⟩:S61) (Kd.R_mono (L.out) (fun k_ hk=>⟨hk.1.1,hk.2⟩)));(case aB=>exact bz);(case aF=>exact(fun k_ hk=>(Nat.le_trans (below_size bz) hk)));(case aO=>exact(Kd.Rz <| Kd.R_mono z.out (fun _ hk=>hk.1)));(case aS=>exact(below_size bz));(case aL=>have:=fk.out;omega);intro h9 iq ho hb hg hat;rw[← fl.out] at ho;replace o:=Sd.mk (Kd.V_afterv (ok:=(fun k_=>(aa k_∨w.heap.size≤k_)∧some k_≠(.slice ct J.length cu:Value).ownBlock)) (Kd.Vz <| Kd.V_mono o.out (fun _ hk=>⟨⟨hk.1.1,hk.2⟩,hk.1.2⟩)) hg hat);replace I:=Sd.mk (Kd.V_afterv (ok:=(fun k_=>(aa k_∨w.heap.size≤k_)∧some k_≠(.slice ct J.length cu:Value).ownBlock)) (Kd.Vz <| Kd.V_mono I.out (fun _ hk=>⟨⟨hk.1.1,hk.2⟩,hk.1.2⟩)) hg hat);replace Z:=Sd.mk (Kd.V_afterv (ok:=(fun k_=>(aa k_∨w.heap.size≤k_)∧some k_≠(.slice ct J.length cu:Value).ownBlock)) (Kd.Vz <| Kd.V_mono Z.out (fun _ hk=>⟨⟨hk.1,hk.2.1⟩,hk.2.2⟩)) hg hat);replace HB:=Sd.mk (hb);have fm:=Sd.mk (ho);clear z L;clear ho hb hg hat))
                  go_roundg X
                  case measure=>have:=ar.out;have:=au.out;have:=av.out;omega
                  case rel=>exact⟨(ai),(ez),(wrap64 (D+1)),(by first|rfl|(simp;done)|(simp[*];done)),H',⟨by have:=ar.out;have:=au.out;have:=av.out;omega⟩,⟨Kd.Vz <| Kd.V_mono Z.out (fun _ hk=>⟨hk.1.1,hk.2⟩)⟩,⟨Kd.Rz fm.out⟩,⟨bz⟩⟩
                 ·rw[if_neg d9] at H
                  exact absurd H (by simp)
                ·rw[if_neg d8] at H
                 exact absurd H (by simp)
              ·replace dy:=Bool.eq_false_iff.mpr dy
               subst dy;replace H:=ng ft H;simp only[Option.some.injEq,Prod.mk.injEq] at H;obtain⟨rfl,rfl,rfl⟩:=H;obtain⟨cv,b0,gf⟩:=Kd.V_slice o.out;subst gf;have e4:(1:Int)≤((j.length:Int):Int):=dz;obtain⟨ia,ec,_,ed,_⟩:=info_parts info3;have hroom51:j.length≤b0:=(Kd.V_reads' o.out).2.1;have e5:Kd.F (Kd.int .i64) _ _ cv j.length j:=(Kd.V_at (base:=w.heap.size) o.out).2.2;have hcut51:=cut_from (P:=Try.prog) 22 3 .i64 Try.underlying22 ec 1 ed cv j.length b0 1 (by omega) e4;have b1:=Kd.F_cut (m:=(1:Int).toNat) (c:=b0) e5 (by omega) hroom51;obtain⟨e6,cw⟩:∃ Aq_,Aq_=(if b0=(1:Int).toNat then cv else(cv:Option Addr).map (·.add ((1:Int).toNat*1))):=⟨_,rfl⟩;obtain⟨e7,cx⟩:∃ a5,a5=b0-(1:Int).toNat:=⟨_,rfl⟩;have b2:G.length=j.length-(1:Int).toNat:=(by rw[al.out,List.length_drop]<;>omega);rw[show (j).drop (1:Int).toNat=G from al.out.symm] at b1;replace b1:Kd.F (Kd.int .i64) _ _ e6 G.length G:=(by rw[cw];exact b1);rw[← b2,← cw,← cx] at hcut51;have I:=Sd.mk (show Kd.V (Kd.int .i64) 3 _ w.heap.size _ (.slice e6 G.length e7) G from Kd.V_mk (by rw[b2,cx];exact Nat.sub_le_sub_right hroom51 _) b1);have cj:=Sd.mk (show G.length≤e7 from by rw[b2,cx];exact Nat.sub_le_sub_right hroom51 _);clear b1 e5 hroom51 ec ed cx;have ib:=Sd.mk b2;have ic:=Sd.mk cw;clear b2 cw;replace e4:=eq_true e4;go_wp2_with (first|((with_reducible refine gate_callee (f:=74) rfl ?_);refine goesL_ (some 48) rfl rfl Try.func74 (by kernel_rfl) rfl #[.slice e6 G.length e7] rfl az ?_;(with_reducible refine(ih X (by have:=ar.out;have:=au.out;have:=av.out;omega) (fun k_=>((aa k_∨w.heap.size≤k_)∧some k_≠(u6:Value).ownBlock)) _ _ G J ai false _ ?side1 db.out).mono ?_);(case side1=>exact I.out);rintro e ir ⟨a1,di,rfl,ab,bm,hb⟩;refine⟨_,rfl,?_⟩;replace o:=Sd.mk (Kd.V_elder' (Kd.Vz o.out) (Kd.R_base ab) hb);replace I:=Sd.mk (Kd.V_elder' (Kd.Vz I.out) (Kd.R_base ab) hb);have L:=Sd.mk (Kd.R_lower (Kd.R_new' (Kd.R_newM (M:=fun k_=>(w.heap.size≤k_)) (Kd.R_mono (ok':=fun k_=>True) ab (fun _ ac=>trivial)) (below_size bz) (fun k_ h_=>h_)) (Kd.R_lt (Kd.Rz z.out))) (below_size bz));have Z:=Sd.mk (Kd.V_lower (Kd.V_mono (ok':=fun k_=>(aa k_∨w.heap.size≤k_)∧some k_≠(a1:Value).ownBlock∧some k_≠(u6:Value).ownBlock) bm (fun k_ ac=>⟨Or.elim ac.1 (fun aj=>aj.1) (fun ak=>(.inr (Nat.le_trans (below_size bz) ak))),ac.2,Or.elim ac.1 (fun aj=>aj.2) (fun ak=>(Kd.fresh' (Kd.R_lt (Kd.Rz z.out)) k_ ak))⟩)) (below_size bz));replace z:=Sd.mk (Kd.R_elder' (Kd.Rz z.out) (Kd.R_base ab) hb);replace HB:=Sd.mk (below_step bz hb)));go_ret3;exact⟨_,_,by first|rfl|(simp[errW_none,errW_some]<;>rfl)|(simp[*,errW_none,errW_some]<;>rfl),by first|exact Kd.R_nil _ _ _ _ _|exact Kd.N_nil _ _ _ _ _|exact Kd.V_nil _ _ _ _ _|exact Kd.Q_nil _ _ _ _ _|exact Kd.S_nil _ _ _ _ _,Kd.V_nil _ _ _ _ _,bz⟩
             ·rw[if_neg da] at H
              exact absurd H (by simp)
         ·rw[if_neg b4] at H
          have e9:decide (D<(rd l0 0))=false:=decide_eq_false b4;clear b4;simp only[Option.some.injEq,Prod.mk.injEq] at H;obtain⟨rfl,rfl,rfl⟩:=H;go_wp2;go_ret3;exact⟨_,_,by first|rfl|(simp[errW_none,errW_some]<;>rfl)|(simp[*,errW_none,errW_some]<;>rfl),by(with_reducible repeat (first|apply Kd.R_alloc|apply Kd.R_drewN|apply Kd.R_drew));exact z.out,by(with_reducible repeat (first|apply Kd.V_alloc|apply Kd.V_drewN|apply Kd.V_drew));exact o.out,bz⟩
   ·rw[if_neg c4] at H
    exact absurd H (by simp)
  ·rw[if_neg c3] at H
   exact absurd H (by simp)
end Go.Proofs.Ytfblcanijhnhmaa.P