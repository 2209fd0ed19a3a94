/- One Go function comes to what its Lean function tells. -/
import Derived.Test.YtfblcanijhnhmaaP0
import Derived.Test.YtfblcanijhnhmaaPimplcompare
namespace Go.Proofs.Ytfblcanijhnhmaa.P
open Go.RowKit YtfblcanijhnhmaaW.PrintWords YtfblcanijhnhmaaW.PrintLast YtfblcanijhnhmaaW.PrintMore
set_option linter.unusedVariables false
set_option linter.unusedSimpArgs false
/-! ### impl_minus: function 51 -/
def impl_minus.l0:Nat→List (S61)→List (S61)→Int→Int→Option ((List (S61)))
 | 0,_,_,_,_=>none
 | k+1,x0,x1,x7,x8=>if x8<x7 then(if 0≤x8 then(if x8<(x0.length:Int) then(if x8<(x1.length:Int) then((impl_compare.f k ((rd_T61 x0 x8).f1) ((rd_T61 x1 x8).f1)).bind fun t685=>(if t685>0 then(if x8≤(x0.length:Int) then(some (x0.drop (x8:Int).toNat)) else(none)) else(if((rd_T61 x0 x8).f0)>((rd_T61 x1 x8).f0) then((some (([(⟨wrap64 (((rd_T61 x0 x8).f0)-((rd_T61 x1 x8).f0)),(rd_T61 x0 x8).f1⟩:S61)]:List (S61)):List (S61))).bind fun y696=>(if 0≤(wrap64 (x8+1)) then(if(wrap64 (x8+1))≤(x0.length:Int) then((some (x0.drop ((wrap64 (x8+1)):Int).toNat:List (S61))).bind fun y699=>(if y696.length+y699.length<4398046511104 then(some (y696++y699)) else(none))) else(none)) else(none))) else(impl_minus.l0 k x0 x1 x7 (wrap64 (x8+1)))))) else(none)) else(none)) else(none)) else(if 0≤(x1.length:Int) then(if(x1.length:Int)≤(x0.length:Int) then(some (x0.drop ((x1.length:Int):Int).toNat)) else(none)) else(none))
def impl_minus.f (k:Nat)(l0:List (S61))(l1:List (S61)):Option ((List (S61))):=impl_minus.l0 k l0 l1 (l1.length:Int) 0
def impl_minus.T4:Bool × List (List Nat × List Nat):=(true,[([],[]),([],[]),([0,1],[0,1]),([2],[2]),([3],[3]),([],[]),([],[]),([5,6],[5,6]),([7],[7]),([8],[8]),([4,9],[4,9]),([10],[10])])
def impl_minus.B4:List Nat:=[0,0,3,7,15,0,0,96,224,480,1023,2047]
theorem impl_minus.tab4:rtab .any (opsOf Try.f51 4)=impl_minus.T4:=by kernel_rfl
theorem impl_minus.bits4:waitsOk impl_minus.T4.2 impl_minus.B4=true:=by kernel_rfl
def impl_minus.T6:Bool × List (List Nat × List Nat):=(true,[([],[]),([],[]),([0,1],[0,1]),([2],[2]),([3],[3]),([],[]),([],[]),([5,6],[5,6]),([7],[7]),([8],[8]),([4,9],[4,9])])
def impl_minus.B6:List Nat:=[0,0,3,7,15,0,0,96,224,480,1023]
theorem impl_minus.tab6:rtab .any (opsOf Try.f51 6)=impl_minus.T6:=by kernel_rfl
theorem impl_minus.bits6:waitsOk impl_minus.T6.2 impl_minus.B6=true:=by kernel_rfl
def impl_minus.T7:Bool × List (List Nat × List Nat):=(true,[([],[]),([],[]),([0,1],[0,1]),([2],[2]),([3],[3]),([],[]),([],[]),([5,6],[5,6]),([7],[7]),([8],[8]),([4,9],[4,9]),([],[]),([],[]),([11,12],[11,12]),([13],[13]),([14],[14]),([10,15],[10,15]),([16],[16]),([],[]),([],[]),([19],[19]),([18,20],[18,20]),([17,21],[17,21]),([22,22,0,1,2,3,4,5,6,7,8,9,10,11,12,13,14,15,16,17,18,19,20,21,22],[22])])
def impl_minus.B7:List Nat:=[0,0,3,7,15,0,0,96,224,480,1023,0,0,6144,14336,30720,65535,131071,0,0,524288,1835008,4194303,8388607]
theorem impl_minus.tab7:rtab .any (opsOf Try.f51 7)=impl_minus.T7:=by kernel_rfl
theorem impl_minus.bits7:waitsOk impl_minus.T7.2 impl_minus.B7=true:=by kernel_rfl
set_option maxHeartbeats 8000000 in
set_option maxRecDepth 100000 in
theorem impl_minus.calls (k:Nat)(av:Nat→Prop)(A0:Option Addr)(c0:Nat)(l0:List (S61))(A1:Option Addr)(c1:Nat)(l1:List (S61))(r:List (S61))(w:World)(go:Kd.V k61 61 w w.heap.size (fun k_=>av k_) (.slice A0 l0.length c0) l0)(fn:Kd.C k61 w A1 l1.length l1)(fo:l1.length≤c1)(h:impl_minus.f k l0 l1=some r) :
  Calls Try.prog 51 #[.slice A0 l0.length c0,.slice A1 l1.length c1] w fun e w'=>∃ fp:Value,e=.returned (fp)∧Kd.V k61 61 w' w.heap.size (fun k_=>(av k_∨w.heap.size≤k_)) fp r∧Below w.heap.size w w':=by
 have hl:=Try.underlying61;have gp:=Sd.mk (show Kd.V k61 61 w w.heap.size (fun k_=>(av k_∨w.heap.size≤k_)) (.slice A0 l0.length c0) l0 from Kd.V_mono go (fun k_ hk=>.inl hk));have cy:=Sd.mk fn;have h8:=Sd.mk fo;clear fn fo;have HB:=Sd.mk (Below.refl w.heap.size w);have H:(impl_minus.l0 k l0 l1 (l1.length:Int) 0)=some r:=h;clear h;have H':=Sd.mk H;clear H;go_enter Try.func51,Try.ntmps51;go_wp2
 go_loopg [8] k (fun kq v8 w'=>∃ (j:Int),v8=.int .i64 j∧Sd (impl_minus.l0 kq l0 l1 (l1.length:Int) j=some r)∧Sd (kq≤k)∧Sd (Kd.V k61 61 w' w.heap.size (fun k_=>(av k_∨w.heap.size≤k_)) (.slice A0 l0.length c0) l0)∧Sd (Below w.heap.size w w'))
 case atStart=>exact⟨(0),(by first|rfl|(simp;done)|(simp[*];done)),H',⟨Nat.le_refl _⟩,⟨Kd.Vz gp.out⟩,⟨bz⟩⟩
 case round =>
  clear H';obtain⟨j,rfl,HA,fq,o,HB⟩:=hrel
  cases gk with
  | zero=>exact absurd HA.out (by simp[impl_minus.l0])
  | succ k1 =>
   have H:=HA.out;clear HA;simp only[impl_minus.l0] at H
   by_cases c3:j<(l1.length:Int)
   ·rw[if_pos c3] at H
    have fz:decide (j<(l1.length:Int))=true:=decide_eq_true c3;clear c3
    by_cases c4:0≤j
    ·rw[if_pos c4] at H
     have hn:decide (0≤j)=true:=decide_eq_true c4;clear c4
     by_cases c5:j<(l0.length:Int)
     ·rw[if_pos c5] at H
      have hq:decide (j<(l0.length:Int))=true:=decide_eq_true c5;clear c5
      by_cases c6:j<(l1.length:Int)
      ·rw[if_pos c6] at H
       have hs:decide (j<(l1.length:Int))=true:=decide_eq_true c6;clear c6;obtain⟨cf,A7,H⟩:=bs H
       by_cases c8:cf>0
       ·rw[if_pos c8] at H
        have f2:decide (0<cf)=true:=decide_eq_true c8;clear c8;have ht:=eq_true (dz:0≤j)
        by_cases c10:j≤(l0.length:Int)
        ·rw[if_pos c10] at H
         have g0:=eq_true c10;have g1:decide (j≤(l0.length:Int))=true:=decide_eq_true c10;clear c10;obtain⟨bm,dk⟩:∃ y_:List (S61),y_=(l0.drop (j:Int).toNat):=⟨_,rfl⟩;replace H:(some bm)=some r:=hz dk H;have eh:=Sd.mk dk;clear dk;obtain rfl:=Option.some.inj H
         try go_wp2
         replace o:=Sd.mk (Kd.V_drew o.out);replace HB:=Sd.mk (below_drew1 HB.out);have ar:0≤(j:Int):=dz;have au:j<(l0.length:Int):=dz;obtain⟨D,ag,ah,co,ak,X,al,am⟩:=at_T61 (Kd.V_reads' o.out).2.2 j ar au;cases co;obtain⟨ei,bn,bo,a0⟩:=Kd.V_get o.out z61 j ar (by first|exact au|exact dz|(have e_:=(Kd.V_reads' o.out).1;omega));obtain⟨cz,da,rfl,Y,Z⟩:=k61_openF bo;have L:=a0 1 _ rfl;rw[add_field _ _ 1 (by omega)] at L;replace L:=Option.some.inj (L.symm.trans X)
         injection L with hva_ hvn_ hvc_
         rw[hva_] at Z;rw[hvc_] at Y;have E:=Sd.mk (show Kd.V k61 61 _ w.heap.size _ _ ((rd_T61 l0 j).f1) from Kd.V_mk Y Z);clear hva_ hvn_ hvc_ Z Y;clear a0 bn;have z:=Sd.mk am;have a5:=Sd.mk al;clear am al;replace ar:=eq_true ar;replace au:=eq_true au;have a2:0≤(j:Int):=dz;have a3:j<(l1.length:Int):=dz;obtain⟨J,ai,aj,cp,G,I,an,ao⟩:=at_T61 cy.out j a2 a3;have M:=I;have O:=G;cases cp;replace G:=(HB.out.cell (World.block_lt_of_cell? w _ G)).trans G;replace I:=(HB.out.cell (World.block_lt_of_cell? w _ I)).trans I;have ap:=Sd.mk ao;have a6:=Sd.mk an;clear ao an;replace a2:=eq_true a2;replace a3:=eq_true a3;refine start_ (n:=12) (S:=fun w'=>w'.cell? (D.add ((j).toNat*2))=some (.int .i64 ((rd_T61 l0 j).f0))∧w'.cell? ⟨(D.add ((j).toNat*2)).block,(D.add ((j).toNat*2)).off+1,none⟩=some (.slice ag ((rd_T61 l0 j).f1).length ah)∧w'.cell? (J.add ((j).toNat*2))=some (.int .i64 ((rd_T61 l1 j).f0))∧w'.cell? ⟨(J.add ((j).toNat*2)).block,(J.add ((j).toNat*2)).off+1,none⟩=some (.slice ai ((rd_T61 l1 j).f1).length aj)) (ds:=[]) #[F,F,F,F,F,F,F,F,F,F,F,F] (by kernel_rfl) rfl rfl ⟨ak,X,((HB.out.cell (World.block_lt_of_cell? w _ O)).trans O),((HB.out.cell (World.block_lt_of_cell? w _ M)).trans M)⟩ (fun hHeld=>?_);refine with_tabW impl_minus.tab4 impl_minus.bits4 (fun HT_ HW_=>?_)
         generalize wr.drew=h9 at o HB E z ap ak X G I hHeld ⊢
         refine qs 0 11 HT_.out ?_;refine qs 1 12 HT_.out ?_;refine qs 2 13 HT_.out ?_;refine qs 3 14 HT_.out ?_;refine qs 5 16 HT_.out ?_;refine qs 6 17 HT_.out ?_;refine qs 7 18 HT_.out ?_;refine qs 8 19 HT_.out ?_;refine tk 4 15 HT_.out HW_.out hHeld rfl rfl (by rintro w' ⟨s0,s1,s2,s3⟩;go_simp;with_reducible rfl) ?_;refine tk 9 20 HT_.out HW_.out hHeld rfl rfl (by rintro w' ⟨s0,s1,s2,s3⟩;go_simp;with_reducible rfl) ?_;refine on 10 21 HT_.out (fun K hK=>?_);refine goes_ Try.func50 (by kernel_rfl) rfl #[.slice ag ((rd_T61 l0 j).f1).length ah,.slice ai ((rd_T61 l1 j).f1).length aj] (by rfl) rfl rfl az ?_
         with_reducible refine(impl_compare.calls k1 _ _ ((rd_T61 l0 j).f1) _ _ ((rd_T61 l1 j).f1) cf _ ?side1 ?side2 ?side3 ?side4 A7.out).mono ?_
         (case side1=>exact(Kd.Cz z.out))
         (case side2=>exact a5.out)
         (case side3=>exact Kd.Cz (Kd.C_below ap.out HB.out))
         (case side4=>exact a6.out)
         rintro e ia ⟨rfl,hb⟩;have b4:=cg hb hHeld.1;have b5:=cg hb hHeld.2.1;refine⟨_,rfl,?_⟩;replace o:=Sd.mk (Kd.V_below (Kd.Vz o.out) hb);replace E:=Sd.mk (Kd.V_below (Kd.Vz E.out) hb);replace z:=Sd.mk (Kd.C_below (Kd.Cz z.out) hb);replace HB:=Sd.mk (below_step bz hb);refine hK.out _ _ ⟨b4,b5,((HB.out.cell (World.block_lt_of_cell? w _ O)).trans O),((HB.out.cell (World.block_lt_of_cell? w _ M)).trans M)⟩ (fun hHeld=>?_);clear hK K;refine nm (some 21) ?_;refine qs 11 22 HT_.out ?_;refine done_ (done_of HT_.out (by kernel_rfl)) ?_;have ez:(j:Int)≤((l0.length:Int):Int):=dz;obtain⟨hu,ej,_,ek,_⟩:=info_parts info61;have hroom13:l0.length≤c0:=(Kd.V_reads' o.out).2.1;have e0:Kd.F k61 _ _ (some D) l0.length l0:=(Kd.V_at (base:=w.heap.size) o.out).2.2;have f3:(0:Int)≤(j:Int):=dz;have hcut13:=cut_from (P:=Try.prog) 46 61 .i64 Try.underlying46 ej 2 ek (some D) l0.length c0 j f3 ez;have cq:=Kd.F_cut (m:=(j:Int).toNat) (c:=c0) e0 (by omega) hroom13;obtain⟨fr,dl⟩:∃ Aq_,Aq_=(if c0=(j:Int).toNat then(some D) else((some D):Option Addr).map (·.add ((j:Int).toNat*2))):=⟨_,rfl⟩;obtain⟨fs,dm⟩:∃ d5,d5=c0-(j:Int).toNat:=⟨_,rfl⟩;have cr:bm.length=l0.length-(j:Int).toNat:=(by rw[eh.out,List.length_drop]<;>omega);rw[show (l0).drop (j:Int).toNat=bm from eh.out.symm] at cq;replace cq:Kd.F k61 _ _ fr bm.length bm:=(by rw[dl];exact cq);rw[← cr,← dl,← dm] at hcut13;have fd:=Sd.mk (show Kd.V k61 61 _ w.heap.size _ (.slice fr bm.length fs) bm from Kd.V_mk (by rw[cr,dm];exact Nat.sub_le_sub_right hroom13 _) cq);have g2:=Sd.mk (show bm.length≤fs from by rw[cr,dm];exact Nat.sub_le_sub_right hroom13 _);clear cq e0 hroom13 ej ek dm;have hx:=Sd.mk cr;have h0:=Sd.mk dl;clear cr dl;replace ez:=eq_true ez
         try go_wp2
         go_ret;exact⟨_,by first|rfl|(simp[errW_none,errW_some]<;>rfl)|(simp[*,errW_none,errW_some]<;>rfl),by(with_reducible repeat (first|apply Kd.V_alloc|apply Kd.V_drewN|apply Kd.V_drew));exact fd.out,bz⟩
        ·rw[if_neg c10] at H
         exact absurd H (by simp)
       ·rw[if_neg c8] at H
        have f2:decide (0<cf)=false:=decide_eq_false c8;clear c8
        by_cases db:((rd_T61 l0 j).f0)>((rd_T61 l1 j).f0)
        ·rw[if_pos db] at H
         have fe:decide (((rd_T61 l1 j).f0)<((rd_T61 l0 j).f0))=true:=decide_eq_true db;clear db;obtain⟨bj,dn⟩:∃ y_:List (S61),y_=(([(⟨wrap64 (((rd_T61 l0 j).f0)-((rd_T61 l1 j).f0)),(rd_T61 l0 j).f1⟩:S61)]:List (S61))):=⟨_,rfl⟩;replace H:(if 0≤(wrap64 (j+1)) then(if(wrap64 (j+1))≤(l0.length:Int) then((some (l0.drop ((wrap64 (j+1)):Int).toNat:List (S61))).bind fun ac=>(if bj.length+ac.length<4398046511104 then(some (bj++ac)) else(none))) else(none)) else(none))=some r:=hz dn H;have el:=Sd.mk dn;clear dn;obtain⟨ad,b8⟩:∃ j_:Int,(wrap64 (j+1))=j_:=⟨_,rfl⟩
         replace H:(if 0≤(ad) then(if(ad)≤(l0.length:Int) then((some (l0.drop ((ad):Int).toNat:List (S61))).bind fun ac=>(if bj.length+ac.length<4398046511104 then(some (bj++ac)) else(none))) else(none)) else(none))=some r:=by first|(rw[b8] at H;exact H)|(simp only[b8] at H ⊢;exact H)
         (try rw[b8] at A7)
         have hji15w:(IntKind.i64.wrap (j+1))=ad:=(i64_w _).trans b8
         by_cases d6:0≤(ad)
         ·rw[if_pos d6] at H
          have g3:=eq_true d6;have g4:decide (0≤(ad))=true:=decide_eq_true d6;clear d6
          by_cases d7:(ad)≤(l0.length:Int)
          ·rw[if_pos d7] at H
           have g5:=eq_true d7;have g6:decide ((ad)≤(l0.length:Int))=true:=decide_eq_true d7;clear d7;obtain⟨ac,dp⟩:∃ y_:List (S61),y_=(l0.drop ((ad):Int).toNat):=⟨_,rfl⟩;replace H:(if bj.length+ac.length<4398046511104 then(some (bj++ac)) else(none))=some r:=hz dp H;have em:=Sd.mk dp;clear dp
           by_cases en:bj.length+ac.length<4398046511104
           ·rw[if_pos en] at H
            have ff:=Sd.mk en;clear en;obtain⟨f4,dq⟩:∃ y_:List (S61),y_=(bj++ac):=⟨_,rfl⟩;replace H:(some f4)=some r:=hz dq H;have fg:=Sd.mk dq;clear dq;obtain rfl:=Option.some.inj H
            try go_wp2
            replace o:=Sd.mk (Kd.V_drew o.out);replace HB:=Sd.mk (below_drew1 HB.out);have ar:0≤(j:Int):=dz;have au:j<(l0.length:Int):=dz;obtain⟨D,ag,ah,co,ak,X,al,am⟩:=at_T61 (Kd.V_reads' o.out).2.2 j ar au;cases co;obtain⟨ei,bn,bo,a0⟩:=Kd.V_get o.out z61 j ar (by first|exact au|exact dz|(have e_:=(Kd.V_reads' o.out).1;omega));obtain⟨cz,da,rfl,Y,Z⟩:=k61_openF bo;have L:=a0 1 _ rfl;rw[add_field _ _ 1 (by omega)] at L;replace L:=Option.some.inj (L.symm.trans X)
            injection L with hva_ hvn_ hvc_
            rw[hva_] at Z;rw[hvc_] at Y;have E:=Sd.mk (show Kd.V k61 61 _ w.heap.size _ _ ((rd_T61 l0 j).f1) from Kd.V_mk Y Z);clear hva_ hvn_ hvc_ Z Y;clear a0 bn;have z:=Sd.mk am;have a5:=Sd.mk al;clear am al;replace ar:=eq_true ar;replace au:=eq_true au;have a2:0≤(j:Int):=dz;have a3:j<(l1.length:Int):=dz;obtain⟨J,ai,aj,cp,G,I,an,ao⟩:=at_T61 cy.out j a2 a3;have M:=I;have O:=G;cases cp;replace G:=(HB.out.cell (World.block_lt_of_cell? w _ G)).trans G;replace I:=(HB.out.cell (World.block_lt_of_cell? w _ I)).trans I;have ap:=Sd.mk ao;have a6:=Sd.mk an;clear ao an;replace a2:=eq_true a2;replace a3:=eq_true a3;refine start_ (n:=12) (S:=fun w'=>w'.cell? (D.add ((j).toNat*2))=some (.int .i64 ((rd_T61 l0 j).f0))∧w'.cell? ⟨(D.add ((j).toNat*2)).block,(D.add ((j).toNat*2)).off+1,none⟩=some (.slice ag ((rd_T61 l0 j).f1).length ah)∧w'.cell? (J.add ((j).toNat*2))=some (.int .i64 ((rd_T61 l1 j).f0))∧w'.cell? ⟨(J.add ((j).toNat*2)).block,(J.add ((j).toNat*2)).off+1,none⟩=some (.slice ai ((rd_T61 l1 j).f1).length aj)) (ds:=[]) #[F,F,F,F,F,F,F,F,F,F,F,F] (by kernel_rfl) rfl rfl ⟨ak,X,((HB.out.cell (World.block_lt_of_cell? w _ O)).trans O),((HB.out.cell (World.block_lt_of_cell? w _ M)).trans M)⟩ (fun hHeld=>?_);refine with_tabW impl_minus.tab4 impl_minus.bits4 (fun HT_ HW_=>?_)
            generalize wr.drew=ib at o HB E z ap ak X G I hHeld ⊢
            refine qs 0 11 HT_.out ?_;refine qs 1 12 HT_.out ?_;refine qs 2 13 HT_.out ?_;refine qs 3 14 HT_.out ?_;refine qs 5 16 HT_.out ?_;refine qs 6 17 HT_.out ?_;refine qs 7 18 HT_.out ?_;refine qs 8 19 HT_.out ?_;refine tk 4 15 HT_.out HW_.out hHeld rfl rfl (by rintro w' ⟨s0,s1,s2,s3⟩;go_simp;with_reducible rfl) ?_;refine tk 9 20 HT_.out HW_.out hHeld rfl rfl (by rintro w' ⟨s0,s1,s2,s3⟩;go_simp;with_reducible rfl) ?_;refine on 10 21 HT_.out (fun K hK=>?_);refine goes_ Try.func50 (by kernel_rfl) rfl #[.slice ag ((rd_T61 l0 j).f1).length ah,.slice ai ((rd_T61 l1 j).f1).length aj] (by rfl) rfl rfl az ?_
            with_reducible refine(impl_compare.calls k1 _ _ ((rd_T61 l0 j).f1) _ _ ((rd_T61 l1 j).f1) cf _ ?side1 ?side2 ?side3 ?side4 A7.out).mono ?_
            (case side1=>exact(Kd.Cz z.out))
            (case side2=>exact a5.out)
            (case side3=>exact Kd.Cz (Kd.C_below ap.out HB.out))
            (case side4=>exact a6.out)
            rintro e gq ⟨rfl,hb⟩;have b4:=cg hb hHeld.1;have b5:=cg hb hHeld.2.1;refine⟨_,rfl,?_⟩;replace o:=Sd.mk (Kd.V_below (Kd.Vz o.out) hb);replace E:=Sd.mk (Kd.V_below (Kd.Vz E.out) hb);replace z:=Sd.mk (Kd.C_below (Kd.Cz z.out) hb);replace HB:=Sd.mk (below_step bz hb);refine hK.out _ _ ⟨b4,b5,((HB.out.cell (World.block_lt_of_cell? w _ O)).trans O),((HB.out.cell (World.block_lt_of_cell? w _ M)).trans M)⟩ (fun hHeld=>?_);clear hK K;refine nm (some 21) ?_;refine qs 11 22 HT_.out ?_;refine done_ (done_of HT_.out (by kernel_rfl)) ?_
            try go_wp2
            replace o:=Sd.mk (Kd.V_drew o.out);replace E:=Sd.mk (Kd.V_drew E.out);replace z:=Sd.mk (Kd.C_drew z.out);replace HB:=Sd.mk (below_drew1 HB.out);have bk:0≤(j:Int):=dz;have bl:j<(l0.length:Int):=dz;obtain⟨dr,b9,ca,ec,a7,ae,a8,a9⟩:=at_T61 (Kd.V_reads' o.out).2.2 j bk bl;obtain rfl:D=dr:=(by injection ec);obtain⟨fh,cs,ct,bp⟩:=Kd.V_get o.out z61 j bk (by first|exact bl|exact dz|(have e_:=(Kd.V_reads' o.out).1;omega));obtain⟨eu,ev,rfl,aw,ax⟩:=k61_openF ct;have af:=bp 1 _ rfl;rw[add_field _ _ 1 (by omega)] at af;replace af:=Option.some.inj (af.symm.trans ae)
            injection af with hva_ hvn_ hvc_
            rw[hva_] at ax;rw[hvc_] at aw;have ab:=Sd.mk (show Kd.V k61 61 _ w.heap.size _ _ ((rd_T61 l0 j).f1) from Kd.V_mk aw ax);clear hva_ hvn_ hvc_ ax aw;clear bp cs
            (try (have bq:=Option.some.inj (ae.symm.trans (show _=some (Value.slice ag _ ah) from by assumption));injection bq with br bt bu;clear bt;subst br;subst bu))
            have aq:=Sd.mk a9;have ew:=Sd.mk a8;clear a9 a8;replace bk:=eq_true bk;replace bl:=eq_true bl;have b6:0≤(j:Int):=dz;have b7:j<(l1.length:Int):=dz;obtain⟨dt,cb,cc,ed,aa,U,ba,bb⟩:=at_T61 cy.out j b6 b7;have bc:=U;have bd:=aa;obtain rfl:J=dt:=(by injection ed);replace aa:=(HB.out.cell (World.block_lt_of_cell? w _ aa)).trans aa;replace U:=(HB.out.cell (World.block_lt_of_cell? w _ U)).trans U
            (try (have bq:=Option.some.inj (U.symm.trans (show _=some (Value.slice ai _ aj) from by assumption));injection bq with br bt bu;clear bt;subst br;subst bu))
            have ch:=Sd.mk bb;have ex:=Sd.mk ba;clear bb ba;replace b6:=eq_true b6;replace b7:=eq_true b7;refine start_ (n:=11) (S:=fun w'=>w'.cell? (D.add ((j).toNat*2))=some (.int .i64 ((rd_T61 l0 j).f0))∧w'.cell? ⟨(D.add ((j).toNat*2)).block,(D.add ((j).toNat*2)).off+1,none⟩=some (.slice b9 ((rd_T61 l0 j).f1).length ca)∧w'.cell? (J.add ((j).toNat*2))=some (.int .i64 ((rd_T61 l1 j).f0))∧w'.cell? ⟨(J.add ((j).toNat*2)).block,(J.add ((j).toNat*2)).off+1,none⟩=some (.slice cb ((rd_T61 l1 j).f1).length cc)) (ds:=[]) #[F,F,F,F,F,F,F,F,F,F,F] (by kernel_rfl) rfl rfl ⟨a7,ae,((HB.out.cell (World.block_lt_of_cell? w _ bd)).trans bd),((HB.out.cell (World.block_lt_of_cell? w _ bc)).trans bc)⟩ (fun hHeld=>?_);refine with_tabW impl_minus.tab6 impl_minus.bits6 (fun HT_ HW_=>?_)
            generalize gq.drew=gr at o E z HB ab aq ch a7 ae aa U hHeld ⊢
            refine qs 0 26 HT_.out ?_;refine qs 1 27 HT_.out ?_;refine qs 2 28 HT_.out ?_;refine qs 3 29 HT_.out ?_;refine qs 5 31 HT_.out ?_;refine qs 6 32 HT_.out ?_;refine qs 7 33 HT_.out ?_;refine qs 8 34 HT_.out ?_;refine tk 4 30 HT_.out HW_.out hHeld rfl rfl (by rintro w' ⟨s0,s1,s2,s3⟩;go_simp;with_reducible rfl) ?_;refine tk 9 35 HT_.out HW_.out hHeld rfl rfl (by rintro w' ⟨s0,s1,s2,s3⟩;go_simp;with_reducible rfl) ?_;refine qs 10 36 HT_.out ?_;refine done_ (done_of HT_.out (by kernel_rfl)) ?_
            try go_wp2
            replace o:=Sd.mk (Kd.V_drew o.out);replace E:=Sd.mk (Kd.V_drew E.out);replace ab:=Sd.mk (Kd.V_drew ab.out);replace z:=Sd.mk (Kd.C_drew z.out);replace aq:=Sd.mk (Kd.C_drew aq.out);replace HB:=Sd.mk (below_drew1 HB.out);have du:0≤(j:Int):=dz;have dv:j<(l0.length:Int):=dz;obtain⟨fi,cd,ce,f5,dc,be,dd,de⟩:=at_T61 (Kd.V_reads' o.out).2.2 j du dv;obtain rfl:D=fi:=(by injection f5);obtain⟨g7,e1,e2,d8⟩:=Kd.V_get o.out z61 j du (by first|exact dv|exact dz|(have e_:=(Kd.V_reads' o.out).1;omega));obtain⟨gc,gf,rfl,ci,cj⟩:=k61_openF e2;have bw:=d8 1 _ rfl;rw[add_field _ _ 1 (by omega)] at bw;replace bw:=Option.some.inj (bw.symm.trans be)
            injection bw with hva_ hvn_ hvc_
            rw[hva_] at cj;rw[hvc_] at ci;have bf:=Sd.mk (show Kd.V k61 61 _ w.heap.size _ _ ((rd_T61 l0 j).f1) from Kd.V_mk ci cj);clear hva_ hvn_ hvc_ cj ci;clear d8 e1
            (try (have bq:=Option.some.inj (be.symm.trans (show _=some (Value.slice b9 _ ca) from by assumption));injection bq with br bt bu;clear bt;subst br;subst bu))
            have ck:=Sd.mk de;have gg:=Sd.mk dd;clear de dd;replace du:=eq_true du;replace dv:=eq_true dv;have ee:0≤(j:Int):=dz;have ef:j<(l1.length:Int):=dz;obtain⟨fj,e3,e4,f6,bg,a1,df,dg⟩:=at_T61 cy.out j ee ef;have bx:=a1;have b0:=bg;obtain rfl:J=fj:=(by injection f6);replace bg:=(HB.out.cell (World.block_lt_of_cell? w _ bg)).trans bg;replace a1:=(HB.out.cell (World.block_lt_of_cell? w _ a1)).trans a1
            (try (have bq:=Option.some.inj (a1.symm.trans (show _=some (Value.slice cb _ cc) from by assumption));injection bq with br bt bu;clear bt;subst br;subst bu))
            have ey:=Sd.mk dg;have gh:=Sd.mk df;clear dg df;replace ee:=eq_true ee;replace ef:=eq_true ef;have dw:0≤(j:Int):=dz;have dx:j<(l0.length:Int):=dz;obtain⟨fk,gs,gt,f7,dh,b1,di,dj⟩:=at_T61 (Kd.V_reads' o.out).2.2 j dw dx;obtain rfl:D=fk:=(by injection f7);obtain⟨g8,e5,e6,d9⟩:=Kd.V_get o.out z61 j dw (by first|exact dx|exact dz|(have e_:=(Kd.V_reads' o.out).1;omega));obtain⟨gi,gj,rfl,cl,cm⟩:=k61_openF e6;have b2:=d9 1 _ rfl;rw[add_field _ _ 1 (by omega)] at b2;replace b2:=Option.some.inj (b2.symm.trans b1)
            injection b2 with hva_ hvn_ hvc_
            rw[hva_] at cm;rw[hvc_] at cl;have ay:=Sd.mk (show Kd.V k61 61 _ w.heap.size _ _ ((rd_T61 l0 j).f1) from Kd.V_mk cl cm);clear hva_ hvn_ hvc_ cm cl;clear d9 e5;have cn:=Sd.mk dj;have gl:=Sd.mk di;clear dj di;replace dw:=eq_true dw;replace dx:=eq_true dx;have e7:=Option.some.inj (be.symm.trans b1)
            injection e7 with e7 gu gv
            subst e7;subst gv;clear gu;have e8:((ad):Int)≤((l0.length:Int):Int):=dz;obtain⟨h1,eo,_,ep,_⟩:=info_parts info61;have hroom23:l0.length≤c0:=(Kd.V_reads' o.out).2.1;have e9:Kd.F k61 _ _ (some D) l0.length l0:=(Kd.V_at (base:=w.heap.size) o.out).2.2;have f8:(0:Int)≤((ad):Int):=dz;have hcut23:=cut_from (P:=Try.prog) 46 61 .i64 Try.underlying46 eo 2 ep (some D) l0.length c0 (ad) f8 e8;have cu:=Kd.F_cut (m:=((ad):Int).toNat) (c:=c0) e9 (by omega) hroom23;obtain⟨fu,dy⟩:∃ Aq_,Aq_=(if c0=((ad):Int).toNat then(some D) else((some D):Option Addr).map (·.add (((ad):Int).toNat*2))):=⟨_,rfl⟩;obtain⟨fv,d0⟩:∃ d5,d5=c0-((ad):Int).toNat:=⟨_,rfl⟩;have cv:ac.length=l0.length-((ad):Int).toNat:=(by rw[em.out,List.length_drop]<;>omega);rw[show (l0).drop ((ad):Int).toNat=ac from em.out.symm] at cu;replace cu:Kd.F k61 _ _ fu ac.length ac:=(by rw[dy];exact cu);rw[← cv,← dy,← d0] at hcut23;have b3:=Sd.mk (show Kd.V k61 61 _ w.heap.size _ (.slice fu ac.length fv) ac from Kd.V_mk (by rw[cv,d0];exact Nat.sub_le_sub_right hroom23 _) cu);have g9:=Sd.mk (show ac.length≤fv from by rw[cv,d0];exact Nat.sub_le_sub_right hroom23 _);clear cu e9 hroom23 eo ep d0;have h2:=Sd.mk cv;have h3:=Sd.mk dy;clear cv dy;replace e8:=eq_true e8;refine start_ (n:=24) (S:=fun w'=>w'.cell? (D.add ((j).toNat*2))=some (.int .i64 ((rd_T61 l0 j).f0))∧w'.cell? ⟨(D.add ((j).toNat*2)).block,(D.add ((j).toNat*2)).off+1,none⟩=some (.slice cd ((rd_T61 l0 j).f1).length ce)∧w'.cell? (J.add ((j).toNat*2))=some (.int .i64 ((rd_T61 l1 j).f0))∧w'.cell? ⟨(J.add ((j).toNat*2)).block,(J.add ((j).toNat*2)).off+1,none⟩=some (.slice e3 ((rd_T61 l1 j).f1).length e4)∧w'.cell? (D.add ((j).toNat*2))=some (.int .i64 ((rd_T61 l0 j).f0))∧w'.cell? ⟨(D.add ((j).toNat*2)).block,(D.add ((j).toNat*2)).off+1,none⟩=some (.slice cd ((rd_T61 l0 j).f1).length ce)) (ds:=[22]) #[F,F,F,F,F,F,F,F,F,F,F,F,F,F,F,F,F,F,F,F,F,F,F,F] (by kernel_rfl) rfl rfl ⟨dc,be,((HB.out.cell (World.block_lt_of_cell? w _ b0)).trans b0),((HB.out.cell (World.block_lt_of_cell? w _ bx)).trans bx),dh,b1⟩ (fun hHeld=>?_);refine with_tabW impl_minus.tab7 impl_minus.bits7 (fun HT_ HW_=>?_)
            generalize gr.drew=gw at o E ab z aq HB bf ay b3 ck ey cn dc be bg a1 dh b1 hHeld ⊢
            refine qs 0 37 HT_.out ?_;refine qs 1 38 HT_.out ?_;refine qs 2 39 HT_.out ?_;refine qs 3 40 HT_.out ?_;refine qs 5 42 HT_.out ?_;refine qs 6 43 HT_.out ?_;refine qs 7 44 HT_.out ?_;refine qs 8 45 HT_.out ?_;refine qs 11 48 HT_.out ?_;refine qs 12 49 HT_.out ?_;refine qs 13 50 HT_.out ?_;refine qs 14 51 HT_.out ?_;refine qs 18 55 HT_.out ?_;refine qs 19 56 HT_.out ?_;refine qs 20 57 HT_.out ?_;refine qs 21 58 HT_.out ?_;refine tk 4 41 HT_.out HW_.out hHeld rfl rfl (by rintro w' ⟨s0,s1,s2,s3,s4,s5⟩;go_simp;with_reducible rfl) ?_;refine tk 9 46 HT_.out HW_.out hHeld rfl rfl (by rintro w' ⟨s0,s1,s2,s3,s4,s5⟩;go_simp;with_reducible rfl) ?_;refine qs 10 47 HT_.out ?_;refine tk 15 52 HT_.out HW_.out hHeld rfl rfl (by rintro w' ⟨s0,s1,s2,s3,s4,s5⟩;go_simp;with_reducible rfl) ?_;refine qs 16 53 HT_.out ?_;refine on 17 54 HT_.out (fun K hK=>?_);refine Kd.N_lit_step k61 _ 61 ?hg (N':=54) ?hd (xs:=([(⟨wrap64 (((rd_T61 l0 j).f0)-((rd_T61 l1 j).f0)),(rd_T61 l0 j).f1⟩:S61)]:List (S61))) (inner:=[.int .i64 (wrap64 (((rd_T61 l0 j).f0)-((rd_T61 l1 j).f0))),.slice cd ((rd_T61 l0 j).f1).length ce]) (ok:=(fun k_=>(av k_∨w.heap.size≤k_))) (okp:=(fun k_=>(av k_∨w.heap.size≤k_))) ?hr ?hp (fun _ hk=>hk) ((show ∀ k_,gw.heap.size≤k_→(fun k_=>(av k_∨w.heap.size≤k_)) k_ from fun k_ hk=>(.inr (Nat.le_trans (below_size bz) hk))) _ (Nat.le_refl _)) (Below.refl _ _) (Nat.le_refl _) (by simp) ?_;(case hd=>rfl);(case hg=>rfl);(case hr=>first|(go_simp;done)|(go_simp;rfl));(case hp=>exact(Reps.c2 (show Kd.FK k61 _ _ (⟨wrap64 (((rd_T61 l0 j).f0)-((rd_T61 l1 j).f0)),(rd_T61 l0 j).f1⟩:S61) [.int .i64 (wrap64 (((rd_T61 l0 j).f0)-((rd_T61 l1 j).f0))),.slice cd ((rd_T61 l0 j).f1).length ce] from(k61_mkF _ _ (⟨wrap64 (((rd_T61 l0 j).f0)-((rd_T61 l1 j).f0)),(rd_T61 l0 j).f1⟩:S61) (Kd.V_reads' (Kd.V_mono (ok':=(fun k_=>(av k_∨w.heap.size≤k_))) (ay.out) (fun k_ hk=>hk))).2.1 (Kd.V_F (Kd.V_mono (ok':=(fun k_=>(av k_∨w.heap.size≤k_))) (ay.out) (fun k_ hk=>hk))))) (Reps.none _ _)));intro eg ic a4 hb gy hnew_;have b4:=cg hb hHeld.1;have b5:=cg hb hHeld.2.1;have f9:=cg hb hHeld.2.2.2.2.1;have ga:=cg hb hHeld.2.2.2.2.2;clear gy hnew_
            (first|rw[← el.out] at a4|(simp only[Int.reduceToNat] at a4;rw[← el.out] at a4))
            replace o:=Sd.mk (Kd.V_elder' (Kd.Vz o.out) (Kd.N_base a4) hb);replace E:=Sd.mk (Kd.V_elder' (Kd.Vz E.out) (Kd.N_base a4) hb);replace ab:=Sd.mk (Kd.V_elder' (Kd.Vz ab.out) (Kd.N_base a4) hb);replace bf:=Sd.mk (Kd.V_elder' (Kd.Vz bf.out) (Kd.N_base a4) hb);replace ay:=Sd.mk (Kd.V_elder' (Kd.Vz ay.out) (Kd.N_base a4) hb);replace b3:=Sd.mk (Kd.V_elder' (Kd.Vz b3.out) (Kd.N_base a4) hb);have eq:=Sd.mk (Kd.N_lower a4 (below_size bz));replace z:=Sd.mk (Kd.C_below (Kd.Cz z.out) hb);replace aq:=Sd.mk (Kd.C_below (Kd.Cz aq.out) hb);replace ck:=Sd.mk (Kd.C_below (Kd.Cz ck.out) hb);replace cn:=Sd.mk (Kd.C_below (Kd.Cz cn.out) hb);replace HB:=Sd.mk (below_step bz hb);clear hb a4;refine hK.out _ _ ⟨b4,b5,((HB.out.cell (World.block_lt_of_cell? w _ b0)).trans b0),((HB.out.cell (World.block_lt_of_cell? w _ bx)).trans bx),f9,ga⟩ (fun hHeld=>?_);clear hK K;refine nm (some 54) ?_;refine la 22 59 HT_.out (fun K hK=>?_);refine Kd.N_append_rows_step k61 (w0:=w) w.heap.size (by rfl) (.tmp 54) (.tmp 58) 46 61 (.agg #[(.int .i64 0),(.slice none 0 0)]) 32 rfl Try.underlying46 info61 rfl (by decide) (by omega) eg bj ac _ _ _ (fun k_=>(av k_∨w.heap.size≤k_)) (fun k_=>((fun k_=>(av k_∨w.heap.size≤k_))) k_∧some k_≠(eg:Value).ownBlock) rfl rfl ?aO ?aR (fun _ hk=>hk) ?aF ?aB ?aS ?aL ?_
            (case aR=>exact(by skip;exact Kd.V_F (Kd.V_mono (ok':=(fun k_=>((fun k_=>(av k_∨w.heap.size≤k_))) k_∧some k_≠(eg:Value).ownBlock)) (b3.out) (fun k_ hk=>⟨hk.1,hk.2⟩))))
            (case aB=>exact bz)
            (case aF=>exact(fun k_ hk=>(.inr (Nat.le_trans (below_size bz) hk))))
            (case aO=>exact(Kd.Nz eq.out))
            (case aS=>exact(below_size bz))
            (case aL=>have:=ff.out;omega)
            intro h4 id ho hb hg hat;rw[← fg.out] at ho;replace o:=Sd.mk (Kd.V_afterv (ok:=(fun k_=>(av k_∨w.heap.size≤k_))) (Kd.Vz o.out) hg hat);replace E:=Sd.mk (Kd.V_afterv (ok:=(fun k_=>(av k_∨w.heap.size≤k_))) (Kd.Vz E.out) hg hat);replace ab:=Sd.mk (Kd.V_afterv (ok:=(fun k_=>(av k_∨w.heap.size≤k_))) (Kd.Vz ab.out) hg hat);replace bf:=Sd.mk (Kd.V_afterv (ok:=(fun k_=>(av k_∨w.heap.size≤k_))) (Kd.Vz bf.out) hg hat);replace ay:=Sd.mk (Kd.V_afterv (ok:=(fun k_=>(av k_∨w.heap.size≤k_))) (Kd.Vz ay.out) hg hat);replace b3:=Sd.mk (Kd.V_afterv (ok:=(fun k_=>(av k_∨w.heap.size≤k_))) (Kd.Vz b3.out) hg hat);replace HB:=Sd.mk (hb);have fl:=Sd.mk (ho);clear eq;clear ho hb hg hat;refine hK.out _ _ ?_;clear hK K;refine nm (some 59) ?_;refine qs 23 4 HT_.out ?_;refine done_ (done_of HT_.out (by kernel_rfl)) ?_
            try go_wp2
            go_ret;exact⟨_,by first|rfl|(simp[errW_none,errW_some]<;>rfl)|(simp only[← b8];first|rfl|(simp[errW_none,errW_some]<;>rfl))|(simp[*,errW_none,errW_some]<;>rfl),Kd.N_V (Kd.Nz fl.out),bz⟩
           ·rw[if_neg en] at H
            exact absurd H (by simp)
          ·rw[if_neg d7] at H
           exact absurd H (by simp)
         ·rw[if_neg d6] at H
          exact absurd H (by simp)
        ·rw[if_neg db] at H
         have fe:decide (((rd_T61 l1 j).f0)<((rd_T61 l0 j).f0))=false:=decide_eq_false db;clear db;have H':=Sd.mk H;clear H
         try go_wp2
         replace o:=Sd.mk (Kd.V_drew o.out);replace HB:=Sd.mk (below_drew1 HB.out);have ar:0≤(j:Int):=dz;have au:j<(l0.length:Int):=dz;obtain⟨D,ag,ah,co,ak,X,al,am⟩:=at_T61 (Kd.V_reads' o.out).2.2 j ar au;cases co;obtain⟨ei,bn,bo,a0⟩:=Kd.V_get o.out z61 j ar (by first|exact au|exact dz|(have e_:=(Kd.V_reads' o.out).1;omega));obtain⟨cz,da,rfl,Y,Z⟩:=k61_openF bo;have L:=a0 1 _ rfl;rw[add_field _ _ 1 (by omega)] at L;replace L:=Option.some.inj (L.symm.trans X)
         injection L with hva_ hvn_ hvc_
         rw[hva_] at Z;rw[hvc_] at Y;have E:=Sd.mk (show Kd.V k61 61 _ w.heap.size _ _ ((rd_T61 l0 j).f1) from Kd.V_mk Y Z);clear hva_ hvn_ hvc_ Z Y;clear a0 bn;have z:=Sd.mk am;have a5:=Sd.mk al;clear am al;replace ar:=eq_true ar;replace au:=eq_true au;have a2:0≤(j:Int):=dz;have a3:j<(l1.length:Int):=dz;obtain⟨J,ai,aj,cp,G,I,an,ao⟩:=at_T61 cy.out j a2 a3;have M:=I;have O:=G;cases cp;replace G:=(HB.out.cell (World.block_lt_of_cell? w _ G)).trans G;replace I:=(HB.out.cell (World.block_lt_of_cell? w _ I)).trans I;have ap:=Sd.mk ao;have a6:=Sd.mk an;clear ao an;replace a2:=eq_true a2;replace a3:=eq_true a3;refine start_ (n:=12) (S:=fun w'=>w'.cell? (D.add ((j).toNat*2))=some (.int .i64 ((rd_T61 l0 j).f0))∧w'.cell? ⟨(D.add ((j).toNat*2)).block,(D.add ((j).toNat*2)).off+1,none⟩=some (.slice ag ((rd_T61 l0 j).f1).length ah)∧w'.cell? (J.add ((j).toNat*2))=some (.int .i64 ((rd_T61 l1 j).f0))∧w'.cell? ⟨(J.add ((j).toNat*2)).block,(J.add ((j).toNat*2)).off+1,none⟩=some (.slice ai ((rd_T61 l1 j).f1).length aj)) (ds:=[]) #[F,F,F,F,F,F,F,F,F,F,F,F] (by kernel_rfl) rfl rfl ⟨ak,X,((HB.out.cell (World.block_lt_of_cell? w _ O)).trans O),((HB.out.cell (World.block_lt_of_cell? w _ M)).trans M)⟩ (fun hHeld=>?_);refine with_tabW impl_minus.tab4 impl_minus.bits4 (fun HT_ HW_=>?_)
         generalize wr.drew=ie at o HB E z ap ak X G I hHeld ⊢
         refine qs 0 11 HT_.out ?_;refine qs 1 12 HT_.out ?_;refine qs 2 13 HT_.out ?_;refine qs 3 14 HT_.out ?_;refine qs 5 16 HT_.out ?_;refine qs 6 17 HT_.out ?_;refine qs 7 18 HT_.out ?_;refine qs 8 19 HT_.out ?_;refine tk 4 15 HT_.out HW_.out hHeld rfl rfl (by rintro w' ⟨s0,s1,s2,s3⟩;go_simp;with_reducible rfl) ?_;refine tk 9 20 HT_.out HW_.out hHeld rfl rfl (by rintro w' ⟨s0,s1,s2,s3⟩;go_simp;with_reducible rfl) ?_;refine on 10 21 HT_.out (fun K hK=>?_);refine goes_ Try.func50 (by kernel_rfl) rfl #[.slice ag ((rd_T61 l0 j).f1).length ah,.slice ai ((rd_T61 l1 j).f1).length aj] (by rfl) rfl rfl az ?_
         with_reducible refine(impl_compare.calls k1 _ _ ((rd_T61 l0 j).f1) _ _ ((rd_T61 l1 j).f1) cf _ ?side1 ?side2 ?side3 ?side4 A7.out).mono ?_
         (case side1=>exact(Kd.Cz z.out))
         (case side2=>exact a5.out)
         (case side3=>exact Kd.Cz (Kd.C_below ap.out HB.out))
         (case side4=>exact a6.out)
         rintro e gz ⟨rfl,hb⟩;have b4:=cg hb hHeld.1;have b5:=cg hb hHeld.2.1;refine⟨_,rfl,?_⟩;replace o:=Sd.mk (Kd.V_below (Kd.Vz o.out) hb);replace E:=Sd.mk (Kd.V_below (Kd.Vz E.out) hb);replace z:=Sd.mk (Kd.C_below (Kd.Cz z.out) hb);replace HB:=Sd.mk (below_step bz hb);refine hK.out _ _ ⟨b4,b5,((HB.out.cell (World.block_lt_of_cell? w _ O)).trans O),((HB.out.cell (World.block_lt_of_cell? w _ M)).trans M)⟩ (fun hHeld=>?_);clear hK K;refine nm (some 21) ?_;refine qs 11 22 HT_.out ?_;refine done_ (done_of HT_.out (by kernel_rfl)) ?_
         try go_wp2
         replace o:=Sd.mk (Kd.V_drew o.out);replace E:=Sd.mk (Kd.V_drew E.out);replace z:=Sd.mk (Kd.C_drew z.out);replace HB:=Sd.mk (below_drew1 HB.out);have bk:0≤(j:Int):=dz;have bl:j<(l0.length:Int):=dz;obtain⟨dr,b9,ca,ec,a7,ae,a8,a9⟩:=at_T61 (Kd.V_reads' o.out).2.2 j bk bl;obtain rfl:D=dr:=(by injection ec);obtain⟨fh,cs,ct,bp⟩:=Kd.V_get o.out z61 j bk (by first|exact bl|exact dz|(have e_:=(Kd.V_reads' o.out).1;omega));obtain⟨eu,ev,rfl,aw,ax⟩:=k61_openF ct;have af:=bp 1 _ rfl;rw[add_field _ _ 1 (by omega)] at af;replace af:=Option.some.inj (af.symm.trans ae)
         injection af with hva_ hvn_ hvc_
         rw[hva_] at ax;rw[hvc_] at aw;have ab:=Sd.mk (show Kd.V k61 61 _ w.heap.size _ _ ((rd_T61 l0 j).f1) from Kd.V_mk aw ax);clear hva_ hvn_ hvc_ ax aw;clear bp cs
         (try (have bq:=Option.some.inj (ae.symm.trans (show _=some (Value.slice ag _ ah) from by assumption));injection bq with br bt bu;clear bt;subst br;subst bu))
         have aq:=Sd.mk a9;have ew:=Sd.mk a8;clear a9 a8;replace bk:=eq_true bk;replace bl:=eq_true bl;have b6:0≤(j:Int):=dz;have b7:j<(l1.length:Int):=dz;obtain⟨dt,cb,cc,ed,aa,U,ba,bb⟩:=at_T61 cy.out j b6 b7;have bc:=U;have bd:=aa;obtain rfl:J=dt:=(by injection ed);replace aa:=(HB.out.cell (World.block_lt_of_cell? w _ aa)).trans aa;replace U:=(HB.out.cell (World.block_lt_of_cell? w _ U)).trans U
         (try (have bq:=Option.some.inj (U.symm.trans (show _=some (Value.slice ai _ aj) from by assumption));injection bq with br bt bu;clear bt;subst br;subst bu))
         have ch:=Sd.mk bb;have ex:=Sd.mk ba;clear bb ba;replace b6:=eq_true b6;replace b7:=eq_true b7;refine start_ (n:=11) (S:=fun w'=>w'.cell? (D.add ((j).toNat*2))=some (.int .i64 ((rd_T61 l0 j).f0))∧w'.cell? ⟨(D.add ((j).toNat*2)).block,(D.add ((j).toNat*2)).off+1,none⟩=some (.slice b9 ((rd_T61 l0 j).f1).length ca)∧w'.cell? (J.add ((j).toNat*2))=some (.int .i64 ((rd_T61 l1 j).f0))∧w'.cell? ⟨(J.add ((j).toNat*2)).block,(J.add ((j).toNat*2)).off+1,none⟩=some (.slice cb ((rd_T61 l1 j).f1).length cc)) (ds:=[]) #[F,F,F,F,F,F,F,F,F,F,F] (by kernel_rfl) rfl rfl ⟨a7,ae,((HB.out.cell (World.block_lt_of_cell? w _ bd)).trans bd),((HB.out.cell (World.block_lt_of_cell? w _ bc)).trans bc)⟩ (fun hHeld=>?_);refine with_tabW impl_minus.tab6 impl_minus.bits6 (fun HT_ HW_=>?_)
         generalize gz.drew=ig at o E z HB ab aq ch a7 ae aa U hHeld ⊢
         refine qs 0 26 HT_.out ?_;refine qs 1 27 HT_.out ?_;refine qs 2 28 HT_.out ?_;refine qs 3 29 HT_.out ?_;refine qs 5 31 HT_.out ?_;refine qs 6 32 HT_.out ?_;refine qs 7 33 HT_.out ?_;refine qs 8 34 HT_.out ?_;refine tk 4 30 HT_.out HW_.out hHeld rfl rfl (by rintro w' ⟨s0,s1,s2,s3⟩;go_simp;with_reducible rfl) ?_;refine tk 9 35 HT_.out HW_.out hHeld rfl rfl (by rintro w' ⟨s0,s1,s2,s3⟩;go_simp;with_reducible rfl) ?_;refine qs 10 36 HT_.out ?_;refine done_ (done_of HT_.out (by kernel_rfl)) ?_
         try go_wp2
         go_roundg k1
         case measure=>have:=fq.out;omega
         case rel=>exact⟨(wrap64 (j+1)),(by first|rfl|(simp;done)|(simp[*];done)),H',⟨by have:=fq.out;omega⟩,⟨Kd.Vz o.out⟩,⟨bz⟩⟩
      ·rw[if_neg c6] at H
       exact absurd H (by simp)
     ·rw[if_neg c5] at H
      exact absurd H (by simp)
    ·rw[if_neg c4] at H
     exact absurd H (by simp)
   ·rw[if_neg c3] at H
    have fz:decide (j<(l1.length:Int))=false:=decide_eq_false c3;clear c3
    by_cases ea:0≤(l1.length:Int)
    ·rw[if_pos ea] at H
     have hc:=eq_true ea;have he:decide (0≤(l1.length:Int))=true:=decide_eq_true ea;clear ea
     by_cases eb:(l1.length:Int)≤(l0.length:Int)
     ·rw[if_pos eb] at H
      have hf:=eq_true eb;have hh:decide ((l1.length:Int)≤(l0.length:Int))=true:=decide_eq_true eb;clear eb;obtain⟨bv,d1⟩:∃ y_:List (S61),y_=(l0.drop ((l1.length:Int):Int).toNat):=⟨_,rfl⟩;replace H:(some bv)=some r:=hz d1 H;have er:=Sd.mk d1;clear d1;obtain rfl:=Option.some.inj H;have fa:((l1.length:Int):Int)≤((l0.length:Int):Int):=dz;obtain⟨h5,es,_,et,_⟩:=info_parts info61;have hroom32:l0.length≤c0:=(Kd.V_reads' o.out).2.1;have fb:Kd.F k61 _ _ A0 l0.length l0:=(Kd.V_at (base:=w.heap.size) o.out).2.2;have gb:(0:Int)≤((l1.length:Int):Int):=dz;have hcut32:=cut_from (P:=Try.prog) 46 61 .i64 Try.underlying46 es 2 et A0 l0.length c0 (l1.length:Int) gb fa;have cw:=Kd.F_cut (m:=((l1.length:Int):Int).toNat) (c:=c0) fb (by omega) hroom32;obtain⟨fw,d2⟩:∃ Aq_,Aq_=(if c0=((l1.length:Int):Int).toNat then A0 else(A0:Option Addr).map (·.add (((l1.length:Int):Int).toNat*2))):=⟨_,rfl⟩;obtain⟨fx,d3⟩:∃ d5,d5=c0-((l1.length:Int):Int).toNat:=⟨_,rfl⟩;have cx:bv.length=l0.length-((l1.length:Int):Int).toNat:=(by rw[er.out,List.length_drop]<;>omega);rw[show (l0).drop ((l1.length:Int):Int).toNat=bv from er.out.symm] at cw;replace cw:Kd.F k61 _ _ fw bv.length bv:=(by rw[d2];exact cw);rw[← cx,← d2,← d3] at hcut32;have fm:=Sd.mk (show Kd.V k61 61 _ w.heap.size _ (.slice fw bv.length fx) bv from Kd.V_mk (by rw[cx,d3];exact Nat.sub_le_sub_right hroom32 _) cw);have hj:=Sd.mk (show bv.length≤fx from by rw[cx,d3];exact Nat.sub_le_sub_right hroom32 _);clear cw fb hroom32 es et d3;have h6:=Sd.mk cx;have h7:=Sd.mk d2;clear cx d2;replace fa:=eq_true fa;go_wp2;go_ret;exact⟨_,by first|rfl|(simp[errW_none,errW_some]<;>rfl)|(simp[*,errW_none,errW_some]<;>rfl),by(with_reducible repeat (first|apply Kd.V_alloc|apply Kd.V_drewN|apply Kd.V_drew));exact fm.out,bz⟩
     ·rw[if_neg eb] at H
      exact absurd H (by simp)
    ·rw[if_neg ea] at H
     exact absurd H (by simp)
end Go.Proofs.Ytfblcanijhnhmaa.P