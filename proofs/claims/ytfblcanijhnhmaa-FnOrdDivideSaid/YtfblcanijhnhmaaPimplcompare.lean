/- One Go function comes to what its Lean function tells. -/
import Derived.Test.YtfblcanijhnhmaaP0
import Derived.Test.YtfblcanijhnhmaaPcmpCompareint
namespace Go.Proofs.Ytfblcanijhnhmaa.P
open Go.RowKit YtfblcanijhnhmaaW.PrintWords YtfblcanijhnhmaaW.PrintLast YtfblcanijhnhmaaW.PrintMore
set_option linter.unusedVariables false
set_option linter.unusedSimpArgs false
/-! ### impl_compare: function 50 -/
mutual
def impl_compare.l0:Nat→List (S61)→List (S61)→Int→Option (Int)
 | 0,_,_,_=>none
 | k+1,x0,x1,x5=>if x5<(x0.length:Int) then(impl_compare.j1 k x0 x1 x5 (decide (x5<(x1.length:Int)))) else(impl_compare.j1 k x0 x1 x5 false)
def impl_compare.j1:Nat→List (S61)→List (S61)→Int→Bool→Option (Int)
 | 0,_,_,_,_=>none
 | k+1,x0,x1,x5,x17=>if x17=true then(if 0≤x5 then(if x5<(x0.length:Int) then(if x5<(x1.length:Int) then((impl_compare.f k ((rd_T61 x0 x5).f1) ((rd_T61 x1 x5).f1)).bind fun t106=>(if t106=0 then((cmp_Compare_int.f ((rd_T61 x0 x5).f0) ((rd_T61 x1 x5).f0)).bind fun t109=>(if t109=0 then(impl_compare.l0 k x0 x1 (wrap64 (x5+1))) else(some t109))) else(some t106))) else(none)) else(none)) else(none)) else((cmp_Compare_int.f (x0.length:Int) (x1.length:Int)).bind fun t103=>(some t103))
def impl_compare.f:Nat→List (S61)→List (S61)→Option (Int)
 | 0,_,_=>none
 | k+1,l0,l1=>impl_compare.l0 k l0 l1 0
end
def impl_compare.T4:Bool × List (List Nat × List Nat):=(true,[([],[]),([],[]),([0,1],[0,1]),([2],[2]),([3],[3]),([],[]),([],[]),([5,6],[5,6]),([7],[7]),([8],[8]),([4,9],[4,9]),([10,10,0,1,2,3,4,5,6,7,8,9,10],[10])])
def impl_compare.B4:List Nat:=[0,0,3,7,15,0,0,96,224,480,1023,2047]
theorem impl_compare.tab4:rtab .any (opsOf Try.f50 4)=impl_compare.T4:=by kernel_rfl
theorem impl_compare.bits4:waitsOk impl_compare.T4.2 impl_compare.B4=true:=by kernel_rfl
def impl_compare.T7:Bool × List (List Nat × List Nat):=(true,[([],[]),([],[]),([0,1],[0,1]),([2],[2]),([3],[3]),([],[]),([],[]),([5,6],[5,6]),([7],[7]),([8],[8]),([4,9],[4,9]),([10,10,0,1,2,3,4,5,6,7,8,9,10],[10])])
def impl_compare.B7:List Nat:=[0,0,3,7,15,0,0,96,224,480,1023,2047]
theorem impl_compare.tab7:rtab .any (opsOf Try.f50 7)=impl_compare.T7:=by kernel_rfl
theorem impl_compare.bits7:waitsOk impl_compare.T7.2 impl_compare.B7=true:=by kernel_rfl
set_option maxHeartbeats 8000000 in
set_option maxRecDepth 100000 in
theorem impl_compare.calls (k:Nat):∀ (A0:Option Addr) (c0:Nat) (l0:List (S61)) (A1:Option Addr) (c1:Nat) (l1:List (S61)) (r:Int) (w:World) (b1:Kd.C k61 w A0 l0.length l0) (b2:l0.length≤c0) (b3:Kd.C k61 w A1 l1.length l1) (b4:l1.length≤c1) (h:impl_compare.f k l0 l1=some r),
  Calls Try.prog 50 #[.slice A0 l0.length c0,.slice A1 l1.length c1] w fun e w'=>e=.returned (.int .i64 r)∧Below w.heap.size w w':=by
 induction k using Nat.strongRecOn with
 | _ k ih =>
 intro A0 c0 l0 A1 c1 l1 r w b1 b2 b3 b4 h
 cases k with
 | zero=>exact absurd h (by simp[impl_compare.f])
 | succ k =>
 simp only[impl_compare.f] at h;have bp:=Sd.mk b1;have cq:=Sd.mk b2;clear b1 b2;have bq:=Sd.mk b3;have cr:=Sd.mk b4;clear b3 b4;have HB:=Sd.mk (Below.refl w.heap.size w);have H:(impl_compare.l0 k l0 l1 0)=some r:=h;clear h;have H':=Sd.mk H;clear H;go_enter Try.func50,Try.ntmps50;go_wp2
 go_loopg [5] k (fun kq v5 w'=>∃ (j:Int),v5=.int .i64 j∧Sd (impl_compare.l0 kq l0 l1 j=some r)∧Sd (kq≤k)∧Sd (Below w.heap.size w w'))
 case atStart=>exact⟨(0),(by first|rfl|(simp;done)|(simp[*];done)),H',⟨Nat.le_refl _⟩,⟨bz⟩⟩
 case round =>
  clear H';obtain⟨j,rfl,HA,a9,HB⟩:=hrel
  cases gk with
  | zero=>exact absurd HA.out (by simp[impl_compare.l0])
  | succ k1 =>
   have H:=HA.out;clear HA;simp only[impl_compare.l0] at H;have b5:=Sd.mk H;clear H
   go_upto_region 2 with (fail)
   go_cut [17] (fun ci wc=>∃ (kq:Nat) (a8:Bool),ci=.bool a8∧Sd (impl_compare.j1 kq l0 l1 j a8=some r)∧Sd (kq≤k1)∧Sd (Below w.heap.size w wc))
   case first =>
    have H:=b5.out;clear b5
    by_cases c4:j<(l0.length:Int)
    ·rw[if_pos c4] at H
     have ba:decide (j<(l0.length:Int))=true:=decide_eq_true c4;clear c4
     (first|rw[ba]|(simp only[i64_w,i32_w];rw[ba])|skip)
     have H':=Sd.mk H;clear H;go_wp2;go_meet
     case rel=>exact⟨_,(decide (j<(l1.length:Int))),(by first|rfl|(simp;done)|(simp[*];done)),H',⟨by have:=a9.out;first|omega|exact Nat.le_refl _⟩,⟨bz⟩⟩
    ·rw[if_neg c4] at H
     have ba:decide (j<(l0.length:Int))=false:=decide_eq_false c4;clear c4
     (first|rw[ba]|(simp only[i64_w,i32_w];rw[ba])|skip)
     have H':=Sd.mk H;clear H;go_wp2;go_meet
     case rel=>exact⟨_,(false),(by first|rfl|(simp;done)|(simp[*];done)),H',⟨by have:=a9.out;first|omega|exact Nat.le_refl _⟩,⟨bz⟩⟩
   case rest =>
    clear b5;obtain⟨kq,a8,rfl,HA,br,HB⟩:=hcut
    cases kq with
    | zero=>exact absurd HA.out (by simp[impl_compare.j1])
    | succ bw =>
     have H:=HA.out;clear HA;simp only[impl_compare.j1] at H
     by_cases c5:a8=true
     ·subst c5
      replace H:=ip rfl H
      by_cases c6:0≤j
      ·rw[if_pos c6] at H
       have cn:decide (0≤j)=true:=decide_eq_true c6;clear c6
       by_cases c7:j<(l0.length:Int)
       ·rw[if_pos c7] at H
        have co:decide (j<(l0.length:Int))=true:=decide_eq_true c7;clear c7
        by_cases c8:j<(l1.length:Int)
        ·rw[if_pos c8] at H
         have cp:decide (j<(l1.length:Int))=true:=decide_eq_true c8;clear c8;obtain⟨a0,A9,H⟩:=bs H
         by_cases c10:a0=0
         ·rw[if_pos c10] at H
          have b6:(a0 == 0)=true:=beq_iff_eq.mpr c10;have b7:(a0 != 0)=false:=bne_eq_false_iff_eq.mpr c10;clear c10;obtain⟨a1,ca,H⟩:=bs H
          by_cases bb:a1=0
          ·rw[if_pos bb] at H
           have b8:(a1 == 0)=true:=beq_iff_eq.mpr bb;have b9:(a1 != 0)=false:=bne_eq_false_iff_eq.mpr bb;clear bb;have H':=Sd.mk H;clear H
           try go_wp2
           replace HB:=Sd.mk (below_drew1 HB.out);have an:0≤(j:Int):=dz;have ao:j<(l0.length:Int):=dz;obtain⟨L,ad,ae,bc,m,o,ah,ai⟩:=at_T61 bp.out j an ao;have E:=o;have G:=m;cases bc;replace m:=(HB.out.cell (World.block_lt_of_cell? w _ m)).trans m;replace o:=(HB.out.cell (World.block_lt_of_cell? w _ o)).trans o;have aj:=Sd.mk ai;have ar:=Sd.mk ah;clear ai ah;replace an:=eq_true an;replace ao:=eq_true ao;have ap:0≤(j:Int):=dz;have aq:j<(l1.length:Int):=dz;obtain⟨M,af,ag,bd,z,D,ak,al⟩:=at_T61 bq.out j ap aq;have I:=D;have J:=z;cases bd;replace z:=(HB.out.cell (World.block_lt_of_cell? w _ z)).trans z;replace D:=(HB.out.cell (World.block_lt_of_cell? w _ D)).trans D;have am:=Sd.mk al;have au:=Sd.mk ak;clear al ak;replace ap:=eq_true ap;replace aq:=eq_true aq;refine start_ (n:=12) (S:=fun w'=>w'.cell? (L.add ((j).toNat*2))=some (.int .i64 ((rd_T61 l0 j).f0))∧w'.cell? ⟨(L.add ((j).toNat*2)).block,(L.add ((j).toNat*2)).off+1,none⟩=some (.slice ad ((rd_T61 l0 j).f1).length ae)∧w'.cell? (M.add ((j).toNat*2))=some (.int .i64 ((rd_T61 l1 j).f0))∧w'.cell? ⟨(M.add ((j).toNat*2)).block,(M.add ((j).toNat*2)).off+1,none⟩=some (.slice af ((rd_T61 l1 j).f1).length ag)) (ds:=[]) #[F,F,F,F,F,F,F,F,F,F,F,F] (by kernel_rfl) rfl rfl ⟨((HB.out.cell (World.block_lt_of_cell? w _ G)).trans G),((HB.out.cell (World.block_lt_of_cell? w _ E)).trans E),((HB.out.cell (World.block_lt_of_cell? w _ J)).trans J),((HB.out.cell (World.block_lt_of_cell? w _ I)).trans I)⟩ (fun hHeld=>?_);refine with_tabW impl_compare.tab4 impl_compare.bits4 (fun HT_ HW_=>?_)
           generalize wc.drew=cs at HB aj am m o z D hHeld ⊢
           refine qs 0 20 HT_.out ?_;refine qs 1 21 HT_.out ?_;refine qs 2 22 HT_.out ?_;refine qs 3 23 HT_.out ?_;refine qs 5 25 HT_.out ?_;refine qs 6 26 HT_.out ?_;refine qs 7 27 HT_.out ?_;refine qs 8 28 HT_.out ?_;refine tk 4 24 HT_.out HW_.out hHeld rfl rfl (by rintro w' ⟨s0,s1,s2,s3⟩;go_simp;with_reducible rfl) ?_;refine tk 9 29 HT_.out HW_.out hHeld rfl rfl (by rintro w' ⟨s0,s1,s2,s3⟩;go_simp;with_reducible rfl) ?_;refine on 10 30 HT_.out (fun K hK=>?_);refine goes_ Try.func50 (by kernel_rfl) rfl #[.slice ad ((rd_T61 l0 j).f1).length ae,.slice af ((rd_T61 l1 j).f1).length ag] (by rfl) rfl rfl az ?_
           with_reducible refine(ih bw (by have:=a9.out;have:=br.out;omega) _ _ ((rd_T61 l0 j).f1) _ _ ((rd_T61 l1 j).f1) a0 _ ?side1 ?side2 ?side3 ?side4 A9.out).mono ?_
           (case side1=>exact Kd.Cz (Kd.C_below aj.out HB.out))
           (case side2=>exact ar.out)
           (case side3=>exact Kd.Cz (Kd.C_below am.out HB.out))
           (case side4=>exact au.out)
           rintro e cj ⟨rfl,hb⟩;refine⟨_,rfl,?_⟩;replace HB:=Sd.mk (below_step bz hb);refine hK.out _ _ ⟨((HB.out.cell (World.block_lt_of_cell? w _ G)).trans G),((HB.out.cell (World.block_lt_of_cell? w _ E)).trans E),((HB.out.cell (World.block_lt_of_cell? w _ J)).trans J),((HB.out.cell (World.block_lt_of_cell? w _ I)).trans I)⟩ (fun hHeld=>?_);clear hK K;refine nm (some 30) ?_;refine qs 11 6 HT_.out ?_;refine done_ (done_of HT_.out (by kernel_rfl)) ?_
           try go_wp2
           replace HB:=Sd.mk (below_drew1 HB.out);have a2:0≤(j:Int):=dz;have a3:j<(l0.length:Int):=dz;obtain⟨bn,be,bf,bu,X,O,av,aw⟩:=at_T61 bp.out j a2 a3;have Z:=O;have aa:=X;obtain rfl:L=bn:=(by injection bu);replace X:=(HB.out.cell (World.block_lt_of_cell? w _ X)).trans X;replace O:=(HB.out.cell (World.block_lt_of_cell? w _ O)).trans O
           (try (have bg:=Option.some.inj (O.symm.trans (show _=some (Value.slice ad _ ae) from by assumption));injection bg with bh bj bk;clear bj;subst bh;subst bk))
           have a6:=Sd.mk aw;have bx:=Sd.mk av;clear aw av;replace a2:=eq_true a2;replace a3:=eq_true a3;have a4:0≤(j:Int):=dz;have a5:j<(l1.length:Int):=dz;obtain⟨bo,bl,bm,bv,Y,U,ax,ay⟩:=at_T61 bq.out j a4 a5;have ab:=U;have ac:=Y;obtain rfl:M=bo:=(by injection bv);replace Y:=(HB.out.cell (World.block_lt_of_cell? w _ Y)).trans Y;replace U:=(HB.out.cell (World.block_lt_of_cell? w _ U)).trans U
           (try (have bg:=Option.some.inj (U.symm.trans (show _=some (Value.slice af _ ag) from by assumption));injection bg with bh bj bk;clear bj;subst bh;subst bk))
           have a7:=Sd.mk ay;have b0:=Sd.mk ax;clear ay ax;replace a4:=eq_true a4;replace a5:=eq_true a5;refine start_ (n:=12) (S:=fun w'=>w'.cell? (L.add ((j).toNat*2))=some (.int .i64 ((rd_T61 l0 j).f0))∧w'.cell? ⟨(L.add ((j).toNat*2)).block,(L.add ((j).toNat*2)).off+1,none⟩=some (.slice be ((rd_T61 l0 j).f1).length bf)∧w'.cell? (M.add ((j).toNat*2))=some (.int .i64 ((rd_T61 l1 j).f0))∧w'.cell? ⟨(M.add ((j).toNat*2)).block,(M.add ((j).toNat*2)).off+1,none⟩=some (.slice bl ((rd_T61 l1 j).f1).length bm)) (ds:=[]) #[F,F,F,F,F,F,F,F,F,F,F,F] (by kernel_rfl) rfl rfl ⟨((HB.out.cell (World.block_lt_of_cell? w _ aa)).trans aa),((HB.out.cell (World.block_lt_of_cell? w _ Z)).trans Z),((HB.out.cell (World.block_lt_of_cell? w _ ac)).trans ac),((HB.out.cell (World.block_lt_of_cell? w _ ab)).trans ab)⟩ (fun hHeld=>?_);refine with_tabW impl_compare.tab7 impl_compare.bits7 (fun HT_ HW_=>?_)
           generalize cj.drew=ct at HB a6 a7 X O Y U hHeld ⊢
           refine qs 0 34 HT_.out ?_;refine qs 1 35 HT_.out ?_;refine qs 2 36 HT_.out ?_;refine qs 3 37 HT_.out ?_;refine qs 5 39 HT_.out ?_;refine qs 6 40 HT_.out ?_;refine qs 7 41 HT_.out ?_;refine qs 8 42 HT_.out ?_;refine tk 4 38 HT_.out HW_.out hHeld rfl rfl (by rintro w' ⟨s0,s1,s2,s3⟩;go_simp;with_reducible rfl) ?_;refine tk 9 43 HT_.out HW_.out hHeld rfl rfl (by rintro w' ⟨s0,s1,s2,s3⟩;go_simp;with_reducible rfl) ?_;refine on 10 44 HT_.out (fun K hK=>?_);refine goes_ Try.func72 (by kernel_rfl) rfl #[.int .i64 ((rd_T61 l0 j).f0),.int .i64 ((rd_T61 l1 j).f0)] (by rfl) rfl rfl az ?_
           with_reducible refine(cmp_Compare_int.calls ((rd_T61 l0 j).f0) ((rd_T61 l1 j).f0) a1 _ ca.out).mono ?_
           rintro e w' ⟨rfl,⟨nd,rfl⟩⟩;refine⟨_,rfl,?_⟩;refine hK.out _ _ ⟨((HB.out.cell (World.block_lt_of_cell? w _ aa)).trans aa),((HB.out.cell (World.block_lt_of_cell? w _ Z)).trans Z),((HB.out.cell (World.block_lt_of_cell? w _ ac)).trans ac),((HB.out.cell (World.block_lt_of_cell? w _ ab)).trans ab)⟩ (fun hHeld=>?_);clear hK K;refine nm (some 44) ?_;refine qs 11 7 HT_.out ?_;refine done_ (done_of HT_.out (by kernel_rfl)) ?_
           try go_wp2
           go_roundg bw
           case measure=>have:=a9.out;have:=br.out;omega
           case rel=>exact⟨(wrap64 (j+1)),(by first|rfl|(simp;done)|(simp[*];done)),H',⟨by have:=a9.out;have:=br.out;omega⟩,⟨bz⟩⟩
          ·rw[if_neg bb] at H
           have b8:(a1 == 0)=false:=beq_eq_false_iff_ne.mpr bb;have b9:(a1 != 0)=true:=bne_iff_ne.mpr bb;obtain rfl:=Option.some.inj H
           try go_wp2
           replace HB:=Sd.mk (below_drew1 HB.out);have an:0≤(j:Int):=dz;have ao:j<(l0.length:Int):=dz;obtain⟨L,ad,ae,bc,m,o,ah,ai⟩:=at_T61 bp.out j an ao;have E:=o;have G:=m;cases bc;replace m:=(HB.out.cell (World.block_lt_of_cell? w _ m)).trans m;replace o:=(HB.out.cell (World.block_lt_of_cell? w _ o)).trans o;have aj:=Sd.mk ai;have ar:=Sd.mk ah;clear ai ah;replace an:=eq_true an;replace ao:=eq_true ao;have ap:0≤(j:Int):=dz;have aq:j<(l1.length:Int):=dz;obtain⟨M,af,ag,bd,z,D,ak,al⟩:=at_T61 bq.out j ap aq;have I:=D;have J:=z;cases bd;replace z:=(HB.out.cell (World.block_lt_of_cell? w _ z)).trans z;replace D:=(HB.out.cell (World.block_lt_of_cell? w _ D)).trans D;have am:=Sd.mk al;have au:=Sd.mk ak;clear al ak;replace ap:=eq_true ap;replace aq:=eq_true aq;refine start_ (n:=12) (S:=fun w'=>w'.cell? (L.add ((j).toNat*2))=some (.int .i64 ((rd_T61 l0 j).f0))∧w'.cell? ⟨(L.add ((j).toNat*2)).block,(L.add ((j).toNat*2)).off+1,none⟩=some (.slice ad ((rd_T61 l0 j).f1).length ae)∧w'.cell? (M.add ((j).toNat*2))=some (.int .i64 ((rd_T61 l1 j).f0))∧w'.cell? ⟨(M.add ((j).toNat*2)).block,(M.add ((j).toNat*2)).off+1,none⟩=some (.slice af ((rd_T61 l1 j).f1).length ag)) (ds:=[]) #[F,F,F,F,F,F,F,F,F,F,F,F] (by kernel_rfl) rfl rfl ⟨((HB.out.cell (World.block_lt_of_cell? w _ G)).trans G),((HB.out.cell (World.block_lt_of_cell? w _ E)).trans E),((HB.out.cell (World.block_lt_of_cell? w _ J)).trans J),((HB.out.cell (World.block_lt_of_cell? w _ I)).trans I)⟩ (fun hHeld=>?_);refine with_tabW impl_compare.tab4 impl_compare.bits4 (fun HT_ HW_=>?_)
           generalize wc.drew=cu at HB aj am m o z D hHeld ⊢
           refine qs 0 20 HT_.out ?_;refine qs 1 21 HT_.out ?_;refine qs 2 22 HT_.out ?_;refine qs 3 23 HT_.out ?_;refine qs 5 25 HT_.out ?_;refine qs 6 26 HT_.out ?_;refine qs 7 27 HT_.out ?_;refine qs 8 28 HT_.out ?_;refine tk 4 24 HT_.out HW_.out hHeld rfl rfl (by rintro w' ⟨s0,s1,s2,s3⟩;go_simp;with_reducible rfl) ?_;refine tk 9 29 HT_.out HW_.out hHeld rfl rfl (by rintro w' ⟨s0,s1,s2,s3⟩;go_simp;with_reducible rfl) ?_;refine on 10 30 HT_.out (fun K hK=>?_);refine goes_ Try.func50 (by kernel_rfl) rfl #[.slice ad ((rd_T61 l0 j).f1).length ae,.slice af ((rd_T61 l1 j).f1).length ag] (by rfl) rfl rfl az ?_
           with_reducible refine(ih bw (by have:=a9.out;have:=br.out;omega) _ _ ((rd_T61 l0 j).f1) _ _ ((rd_T61 l1 j).f1) a0 _ ?side1 ?side2 ?side3 ?side4 A9.out).mono ?_
           (case side1=>exact Kd.Cz (Kd.C_below aj.out HB.out))
           (case side2=>exact ar.out)
           (case side3=>exact Kd.Cz (Kd.C_below am.out HB.out))
           (case side4=>exact au.out)
           rintro e ck ⟨rfl,hb⟩;refine⟨_,rfl,?_⟩;replace HB:=Sd.mk (below_step bz hb);refine hK.out _ _ ⟨((HB.out.cell (World.block_lt_of_cell? w _ G)).trans G),((HB.out.cell (World.block_lt_of_cell? w _ E)).trans E),((HB.out.cell (World.block_lt_of_cell? w _ J)).trans J),((HB.out.cell (World.block_lt_of_cell? w _ I)).trans I)⟩ (fun hHeld=>?_);clear hK K;refine nm (some 30) ?_;refine qs 11 6 HT_.out ?_;refine done_ (done_of HT_.out (by kernel_rfl)) ?_
           try go_wp2
           replace HB:=Sd.mk (below_drew1 HB.out);have a2:0≤(j:Int):=dz;have a3:j<(l0.length:Int):=dz;obtain⟨bn,be,bf,bu,X,O,av,aw⟩:=at_T61 bp.out j a2 a3;have Z:=O;have aa:=X;obtain rfl:L=bn:=(by injection bu);replace X:=(HB.out.cell (World.block_lt_of_cell? w _ X)).trans X;replace O:=(HB.out.cell (World.block_lt_of_cell? w _ O)).trans O
           (try (have bg:=Option.some.inj (O.symm.trans (show _=some (Value.slice ad _ ae) from by assumption));injection bg with bh bj bk;clear bj;subst bh;subst bk))
           have a6:=Sd.mk aw;have bx:=Sd.mk av;clear aw av;replace a2:=eq_true a2;replace a3:=eq_true a3;have a4:0≤(j:Int):=dz;have a5:j<(l1.length:Int):=dz;obtain⟨bo,bl,bm,bv,Y,U,ax,ay⟩:=at_T61 bq.out j a4 a5;have ab:=U;have ac:=Y;obtain rfl:M=bo:=(by injection bv);replace Y:=(HB.out.cell (World.block_lt_of_cell? w _ Y)).trans Y;replace U:=(HB.out.cell (World.block_lt_of_cell? w _ U)).trans U
           (try (have bg:=Option.some.inj (U.symm.trans (show _=some (Value.slice af _ ag) from by assumption));injection bg with bh bj bk;clear bj;subst bh;subst bk))
           have a7:=Sd.mk ay;have b0:=Sd.mk ax;clear ay ax;replace a4:=eq_true a4;replace a5:=eq_true a5;refine start_ (n:=12) (S:=fun w'=>w'.cell? (L.add ((j).toNat*2))=some (.int .i64 ((rd_T61 l0 j).f0))∧w'.cell? ⟨(L.add ((j).toNat*2)).block,(L.add ((j).toNat*2)).off+1,none⟩=some (.slice be ((rd_T61 l0 j).f1).length bf)∧w'.cell? (M.add ((j).toNat*2))=some (.int .i64 ((rd_T61 l1 j).f0))∧w'.cell? ⟨(M.add ((j).toNat*2)).block,(M.add ((j).toNat*2)).off+1,none⟩=some (.slice bl ((rd_T61 l1 j).f1).length bm)) (ds:=[]) #[F,F,F,F,F,F,F,F,F,F,F,F] (by kernel_rfl) rfl rfl ⟨((HB.out.cell (World.block_lt_of_cell? w _ aa)).trans aa),((HB.out.cell (World.block_lt_of_cell? w _ Z)).trans Z),((HB.out.cell (World.block_lt_of_cell? w _ ac)).trans ac),((HB.out.cell (World.block_lt_of_cell? w _ ab)).trans ab)⟩ (fun hHeld=>?_);refine with_tabW impl_compare.tab7 impl_compare.bits7 (fun HT_ HW_=>?_)
           generalize ck.drew=cv at HB a6 a7 X O Y U hHeld ⊢
           refine qs 0 34 HT_.out ?_;refine qs 1 35 HT_.out ?_;refine qs 2 36 HT_.out ?_;refine qs 3 37 HT_.out ?_;refine qs 5 39 HT_.out ?_;refine qs 6 40 HT_.out ?_;refine qs 7 41 HT_.out ?_;refine qs 8 42 HT_.out ?_;refine tk 4 38 HT_.out HW_.out hHeld rfl rfl (by rintro w' ⟨s0,s1,s2,s3⟩;go_simp;with_reducible rfl) ?_;refine tk 9 43 HT_.out HW_.out hHeld rfl rfl (by rintro w' ⟨s0,s1,s2,s3⟩;go_simp;with_reducible rfl) ?_;refine on 10 44 HT_.out (fun K hK=>?_);refine goes_ Try.func72 (by kernel_rfl) rfl #[.int .i64 ((rd_T61 l0 j).f0),.int .i64 ((rd_T61 l1 j).f0)] (by rfl) rfl rfl az ?_
           with_reducible refine(cmp_Compare_int.calls ((rd_T61 l0 j).f0) ((rd_T61 l1 j).f0) a1 _ ca.out).mono ?_
           rintro e w' ⟨rfl,⟨nd,rfl⟩⟩;refine⟨_,rfl,?_⟩;refine hK.out _ _ ⟨((HB.out.cell (World.block_lt_of_cell? w _ aa)).trans aa),((HB.out.cell (World.block_lt_of_cell? w _ Z)).trans Z),((HB.out.cell (World.block_lt_of_cell? w _ ac)).trans ac),((HB.out.cell (World.block_lt_of_cell? w _ ab)).trans ab)⟩ (fun hHeld=>?_);clear hK K;refine nm (some 44) ?_;refine qs 11 7 HT_.out ?_;refine done_ (done_of HT_.out (by kernel_rfl)) ?_
           try go_wp2
           go_ret;exact⟨by first|rfl|(simp[errW_none,errW_some]<;>rfl)|(simp[*,errW_none,errW_some]<;>rfl),bz⟩
         ·rw[if_neg c10] at H
          have b6:(a0 == 0)=false:=beq_eq_false_iff_ne.mpr c10;have b7:(a0 != 0)=true:=bne_iff_ne.mpr c10;obtain rfl:=Option.some.inj H
          try go_wp2
          replace HB:=Sd.mk (below_drew1 HB.out);have an:0≤(j:Int):=dz;have ao:j<(l0.length:Int):=dz;obtain⟨L,ad,ae,bc,m,o,ah,ai⟩:=at_T61 bp.out j an ao;have E:=o;have G:=m;cases bc;replace m:=(HB.out.cell (World.block_lt_of_cell? w _ m)).trans m;replace o:=(HB.out.cell (World.block_lt_of_cell? w _ o)).trans o;have aj:=Sd.mk ai;have ar:=Sd.mk ah;clear ai ah;replace an:=eq_true an;replace ao:=eq_true ao;have ap:0≤(j:Int):=dz;have aq:j<(l1.length:Int):=dz;obtain⟨M,af,ag,bd,z,D,ak,al⟩:=at_T61 bq.out j ap aq;have I:=D;have J:=z;cases bd;replace z:=(HB.out.cell (World.block_lt_of_cell? w _ z)).trans z;replace D:=(HB.out.cell (World.block_lt_of_cell? w _ D)).trans D;have am:=Sd.mk al;have au:=Sd.mk ak;clear al ak;replace ap:=eq_true ap;replace aq:=eq_true aq;refine start_ (n:=12) (S:=fun w'=>w'.cell? (L.add ((j).toNat*2))=some (.int .i64 ((rd_T61 l0 j).f0))∧w'.cell? ⟨(L.add ((j).toNat*2)).block,(L.add ((j).toNat*2)).off+1,none⟩=some (.slice ad ((rd_T61 l0 j).f1).length ae)∧w'.cell? (M.add ((j).toNat*2))=some (.int .i64 ((rd_T61 l1 j).f0))∧w'.cell? ⟨(M.add ((j).toNat*2)).block,(M.add ((j).toNat*2)).off+1,none⟩=some (.slice af ((rd_T61 l1 j).f1).length ag)) (ds:=[]) #[F,F,F,F,F,F,F,F,F,F,F,F] (by kernel_rfl) rfl rfl ⟨((HB.out.cell (World.block_lt_of_cell? w _ G)).trans G),((HB.out.cell (World.block_lt_of_cell? w _ E)).trans E),((HB.out.cell (World.block_lt_of_cell? w _ J)).trans J),((HB.out.cell (World.block_lt_of_cell? w _ I)).trans I)⟩ (fun hHeld=>?_);refine with_tabW impl_compare.tab4 impl_compare.bits4 (fun HT_ HW_=>?_)
          generalize wc.drew=cw at HB aj am m o z D hHeld ⊢
          refine qs 0 20 HT_.out ?_;refine qs 1 21 HT_.out ?_;refine qs 2 22 HT_.out ?_;refine qs 3 23 HT_.out ?_;refine qs 5 25 HT_.out ?_;refine qs 6 26 HT_.out ?_;refine qs 7 27 HT_.out ?_;refine qs 8 28 HT_.out ?_;refine tk 4 24 HT_.out HW_.out hHeld rfl rfl (by rintro w' ⟨s0,s1,s2,s3⟩;go_simp;with_reducible rfl) ?_;refine tk 9 29 HT_.out HW_.out hHeld rfl rfl (by rintro w' ⟨s0,s1,s2,s3⟩;go_simp;with_reducible rfl) ?_;refine on 10 30 HT_.out (fun K hK=>?_);refine goes_ Try.func50 (by kernel_rfl) rfl #[.slice ad ((rd_T61 l0 j).f1).length ae,.slice af ((rd_T61 l1 j).f1).length ag] (by rfl) rfl rfl az ?_
          with_reducible refine(ih bw (by have:=a9.out;have:=br.out;omega) _ _ ((rd_T61 l0 j).f1) _ _ ((rd_T61 l1 j).f1) a0 _ ?side1 ?side2 ?side3 ?side4 A9.out).mono ?_
          (case side1=>exact Kd.Cz (Kd.C_below aj.out HB.out))
          (case side2=>exact ar.out)
          (case side3=>exact Kd.Cz (Kd.C_below am.out HB.out))
          (case side4=>exact au.out)
          rintro e cx ⟨rfl,hb⟩;refine⟨_,rfl,?_⟩;replace HB:=Sd.mk (below_step bz hb);refine hK.out _ _ ⟨((HB.out.cell (World.block_lt_of_cell? w _ G)).trans G),((HB.out.cell (World.block_lt_of_cell? w _ E)).trans E),((HB.out.cell (World.block_lt_of_cell? w _ J)).trans J),((HB.out.cell (World.block_lt_of_cell? w _ I)).trans I)⟩ (fun hHeld=>?_);clear hK K;refine nm (some 30) ?_;refine qs 11 6 HT_.out ?_;refine done_ (done_of HT_.out (by kernel_rfl)) ?_
          try go_wp2
          go_ret;exact⟨by first|rfl|(simp[errW_none,errW_some]<;>rfl)|(simp[*,errW_none,errW_some]<;>rfl),bz⟩
        ·rw[if_neg c8] at H
         exact absurd H (by simp)
       ·rw[if_neg c7] at H
        exact absurd H (by simp)
      ·rw[if_neg c6] at H
       exact absurd H (by simp)
     ·replace c5:=Bool.eq_false_iff.mpr c5
      subst c5;replace H:=ng ft H;obtain⟨ch,cl,H⟩:=bs H;obtain rfl:=Option.some.inj H;go_wp2_with (first|((with_reducible refine gate_callee (f:=72) rfl ?_);refine goesL_ (some 52) rfl rfl Try.func72 (by kernel_rfl) rfl #[.int .i64 (l0.length:Int),.int .i64 (l1.length:Int)] rfl az ?_;(with_reducible refine(cmp_Compare_int.calls (l0.length:Int) (l1.length:Int) ch _ cl.out).mono ?_);rintro e w' ⟨rfl,⟨nd,rfl⟩⟩;refine⟨_,rfl,?_⟩));go_ret;exact⟨by first|rfl|(simp[errW_none,errW_some]<;>rfl)|(simp[*,errW_none,errW_some]<;>rfl),bz⟩
end Go.Proofs.Ytfblcanijhnhmaa.P