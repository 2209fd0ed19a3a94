/- One Go function comes to what its Lean function tells. -/
import Derived.Test.YtbdbldhpglponaaDoorP0
import Derived.Test.YtbdbldhpglponaaDoorPcmpCompareint
namespace Go.Proofs.YtbdbldhpglponaaDoor.P
open Go.RowKit YtbdbldhpglponaaDoorW.PrintWords YtbdbldhpglponaaDoorW.PrintLast YtbdbldhpglponaaDoorW.PrintMore
set_option linter.unusedVariables false
set_option linter.unusedSimpArgs false
/-! ### impl_compare: function 57 -/
mutual
def impl_compare.l0:Nat→List (S57)→List (S57)→Int→Option (Int)
 | 0,_,_,_=>none
 | k+1,x0,x1,x5=>if x5<(x0.length:Int) then(impl_compare.j1 k x0 x1 x5 (decide (x5<(x1.length:Int)))) else(impl_compare.j1 k x0 x1 x5 false)
def impl_compare.j1:Nat→List (S57)→List (S57)→Int→Bool→Option (Int)
 | 0,_,_,_,_=>none
 | k+1,x0,x1,x5,x17=>if x17=true then(if 0≤x5 then(if x5<(x0.length:Int) then(if x5<(x1.length:Int) then((impl_compare.f k ((rd_T57 x0 x5).f1) ((rd_T57 x1 x5).f1)).bind fun t344=>(if t344=0 then((cmp_Compare_int.f ((rd_T57 x0 x5).f0) ((rd_T57 x1 x5).f0)).bind fun t347=>(if t347=0 then(impl_compare.l0 k x0 x1 (wrap64 (x5+1))) else(some t347))) else(some t344))) else(none)) else(none)) else(none)) else((cmp_Compare_int.f (x0.length:Int) (x1.length:Int)).bind fun t341=>(some t341))
def impl_compare.f:Nat→List (S57)→List (S57)→Option (Int)
 | 0,_,_=>none
 | k+1,l0,l1=>impl_compare.l0 k l0 l1 0
end
def impl_compare.T4:Bool × List (List Nat × List Nat):=(true,[([],[]),([],[]),([0,1],[0,1]),([2],[2]),([3],[3]),([],[]),([],[]),([5,6],[5,6]),([7],[7]),([8],[8]),([4,9],[4,9]),([10,10,0,1,2,3,4,5,6,7,8,9,10],[10])])
def impl_compare.B4:List Nat:=[0,0,3,7,15,0,0,96,224,480,1023,2047]
theorem impl_compare.tab4:rtab .any (opsOf Tryd.f57 4)=impl_compare.T4:=by kernel_rfl
theorem impl_compare.bits4:waitsOk impl_compare.T4.2 impl_compare.B4=true:=by kernel_rfl
def impl_compare.T7:Bool × List (List Nat × List Nat):=(true,[([],[]),([],[]),([0,1],[0,1]),([2],[2]),([3],[3]),([],[]),([],[]),([5,6],[5,6]),([7],[7]),([8],[8]),([4,9],[4,9]),([10,10,0,1,2,3,4,5,6,7,8,9,10],[10])])
def impl_compare.B7:List Nat:=[0,0,3,7,15,0,0,96,224,480,1023,2047]
theorem impl_compare.tab7:rtab .any (opsOf Tryd.f57 7)=impl_compare.T7:=by kernel_rfl
theorem impl_compare.bits7:waitsOk impl_compare.T7.2 impl_compare.B7=true:=by kernel_rfl
set_option maxHeartbeats 8000000 in
set_option maxRecDepth 100000 in
theorem impl_compare.calls (k:Nat):∀ (A0:Option Addr) (c0:Nat) (l0:List (S57)) (A1:Option Addr) (c1:Nat) (l1:List (S57)) (r:Int) (w:World) (b2:Kd.C k57 w A0 l0.length l0) (b3:l0.length≤c0) (b4:Kd.C k57 w A1 l1.length l1) (b5:l1.length≤c1) (h:impl_compare.f k l0 l1=some r),
  Calls Tryd.prog 57 #[.slice A0 l0.length c0,.slice A1 l1.length c1] w fun e w'=>e=.returned (.int .i64 r)∧Below w.heap.size w w':=by
 induction k using Nat.strongRecOn with
 | _ k ih =>
 intro A0 c0 l0 A1 c1 l1 r w b2 b3 b4 b5 h
 cases k with
 | zero=>exact absurd h (by simp[impl_compare.f])
 | succ k =>
 simp only[impl_compare.f] at h;have bp:=Sd.mk b2;have cr:=Sd.mk b3;clear b2 b3;have bq:=Sd.mk b4;have cs:=Sd.mk b5;clear b4 b5;have HB:=Sd.mk (Below.refl w.heap.size w);have H:(impl_compare.l0 k l0 l1 0)=some r:=h;clear h;have H':=Sd.mk H;clear H;go_enter Tryd.func57,Tryd.ntmps57;go_wp2
 go_loopg [5] k (fun kq v5 w'=>∃ (j:Int),v5=.int .i64 j∧Sd (impl_compare.l0 kq l0 l1 j=some r)∧Sd (kq≤k)∧Sd (Below w.heap.size w w'))
 case atStart=>exact⟨(0),(by first|rfl|(simp;done)|(simp[*];done)),H',⟨Nat.le_refl _⟩,⟨bz⟩⟩
 case round =>
  clear H';obtain⟨j,rfl,HA,a9,HB⟩:=hrel
  cases gk with
  | zero=>exact absurd HA.out (by simp[impl_compare.l0])
  | succ k1 =>
   have H:=HA.out;clear HA;simp only[impl_compare.l0] at H;have b6:=Sd.mk H;clear H
   go_upto_region 2 with (fail)
   go_cut [17] (fun cj wc=>∃ (kq:Nat) (a8:Bool),cj=.bool a8∧Sd (impl_compare.j1 kq l0 l1 j a8=some r)∧Sd (kq≤k1)∧Sd (Below w.heap.size w wc))
   case first =>
    have H:=b6.out;clear b6
    by_cases c4:j<(l0.length:Int)
    ·rw[if_pos c4] at H
     have ba:decide (j<(l0.length:Int))=true:=decide_eq_true c4;clear c4
     (first|rw[ba]|(simp only[i64_w,i32_w];rw[ba])|skip)
     have H':=Sd.mk H;clear H;go_wp2;go_meet
     case rel=>exact⟨_,(decide (j<(l1.length:Int))),(by first|rfl|(simp;done)|(simp[*];done)),H',⟨by have:=a9.out;first|omega|exact Nat.le_refl _⟩,⟨bz⟩⟩
    ·rw[if_neg c4] at H
     have ba:decide (j<(l0.length:Int))=false:=decide_eq_false c4;clear c4
     (first|rw[ba]|(simp only[i64_w,i32_w];rw[ba])|skip)
     have H':=Sd.mk H;clear H;go_wp2;go_meet
     case rel=>exact⟨_,(false),(by first|rfl|(simp;done)|(simp[*];done)),H',⟨by have:=a9.out;first|omega|exact Nat.le_refl _⟩,⟨bz⟩⟩
   case rest =>
    clear b6;obtain⟨kq,a8,rfl,HA,br,HB⟩:=hcut
    cases kq with
    | zero=>exact absurd HA.out (by simp[impl_compare.j1])
    | succ bx =>
     have H:=HA.out;clear HA;simp only[impl_compare.j1] at H
     by_cases c5:a8=true
     ·subst c5
      replace H:=ip rfl H
      by_cases c6:0≤j
      ·rw[if_pos c6] at H
       have co:decide (0≤j)=true:=decide_eq_true c6;clear c6
       by_cases c7:j<(l0.length:Int)
       ·rw[if_pos c7] at H
        have cp:decide (j<(l0.length:Int))=true:=decide_eq_true c7;clear c7
        by_cases c8:j<(l1.length:Int)
        ·rw[if_pos c8] at H
         have cq:decide (j<(l1.length:Int))=true:=decide_eq_true c8;clear c8;obtain⟨a0,A9,H⟩:=bs H
         by_cases c10:a0=0
         ·rw[if_pos c10] at H
          have b7:(a0 == 0)=true:=beq_iff_eq.mpr c10;have b8:(a0 != 0)=false:=bne_eq_false_iff_eq.mpr c10;clear c10;obtain⟨a1,cb,H⟩:=bs H
          by_cases bb:a1=0
          ·rw[if_pos bb] at H
           have b9:(a1 == 0)=true:=beq_iff_eq.mpr bb;have ca:(a1 != 0)=false:=bne_eq_false_iff_eq.mpr bb;clear bb;have H':=Sd.mk H;clear H
           try go_wp2
           replace HB:=Sd.mk (below_drew1 HB.out);have an:0≤(j:Int):=dz;have ao:j<(l0.length:Int):=dz;obtain⟨L,ad,ae,bc,z,m,ah,ai⟩:=at_T57 bp.out j an ao;have E:=m;have G:=z;cases bc;replace z:=(HB.out.cell (World.block_lt_of_cell? w _ z)).trans z;replace m:=(HB.out.cell (World.block_lt_of_cell? w _ m)).trans m;have aj:=Sd.mk ai;have ar:=Sd.mk ah;clear ai ah;replace an:=eq_true an;replace ao:=eq_true ao;have ap:0≤(j:Int):=dz;have aq:j<(l1.length:Int):=dz;obtain⟨M,af,ag,bd,D,o,ak,al⟩:=at_T57 bq.out j ap aq;have I:=o;have J:=D;cases bd;replace D:=(HB.out.cell (World.block_lt_of_cell? w _ D)).trans D;replace o:=(HB.out.cell (World.block_lt_of_cell? w _ o)).trans o;have am:=Sd.mk al;have au:=Sd.mk ak;clear al ak;replace ap:=eq_true ap;replace aq:=eq_true aq;refine start_ (n:=12) (S:=fun w'=>w'.cell? (L.add ((j).toNat*2))=some (.int .i64 ((rd_T57 l0 j).f0))∧w'.cell? ⟨(L.add ((j).toNat*2)).block,(L.add ((j).toNat*2)).off+1,none⟩=some (.slice ad ((rd_T57 l0 j).f1).length ae)∧w'.cell? (M.add ((j).toNat*2))=some (.int .i64 ((rd_T57 l1 j).f0))∧w'.cell? ⟨(M.add ((j).toNat*2)).block,(M.add ((j).toNat*2)).off+1,none⟩=some (.slice af ((rd_T57 l1 j).f1).length ag)) (ds:=[]) #[F,F,F,F,F,F,F,F,F,F,F,F] (by kernel_rfl) rfl rfl ⟨((HB.out.cell (World.block_lt_of_cell? w _ G)).trans G),((HB.out.cell (World.block_lt_of_cell? w _ E)).trans E),((HB.out.cell (World.block_lt_of_cell? w _ J)).trans J),((HB.out.cell (World.block_lt_of_cell? w _ I)).trans I)⟩ (fun hHeld=>?_);refine with_tabW impl_compare.tab4 impl_compare.bits4 (fun HT_ HW_=>?_)
           generalize wc.drew=ct at HB aj am z m D o hHeld ⊢
           refine qs 0 20 HT_.out ?_;refine qs 1 21 HT_.out ?_;refine qs 2 22 HT_.out ?_;refine qs 3 23 HT_.out ?_;refine qs 5 25 HT_.out ?_;refine qs 6 26 HT_.out ?_;refine qs 7 27 HT_.out ?_;refine qs 8 28 HT_.out ?_;refine tk 4 24 HT_.out HW_.out hHeld rfl rfl (by rintro w' ⟨s0,s1,s2,s3⟩;go_simp;with_reducible rfl) ?_;refine tk 9 29 HT_.out HW_.out hHeld rfl rfl (by rintro w' ⟨s0,s1,s2,s3⟩;go_simp;with_reducible rfl) ?_;refine on 10 30 HT_.out (fun K hK=>?_);refine goes_ Tryd.func57 (by kernel_rfl) rfl #[.slice ad ((rd_T57 l0 j).f1).length ae,.slice af ((rd_T57 l1 j).f1).length ag] (by rfl) rfl rfl az ?_
           with_reducible refine(ih bx (by have:=a9.out;have:=br.out;omega) _ _ ((rd_T57 l0 j).f1) _ _ ((rd_T57 l1 j).f1) a0 _ ?side1 ?side2 ?side3 ?side4 A9.out).mono ?_
           (case side1=>exact Kd.Cz (Kd.C_below aj.out HB.out))
           (case side2=>exact ar.out)
           (case side3=>exact Kd.Cz (Kd.C_below am.out HB.out))
           (case side4=>exact au.out)
           rintro e ck ⟨rfl,hb⟩;refine⟨_,rfl,?_⟩;replace HB:=Sd.mk (below_step bz hb);refine hK.out _ _ ⟨((HB.out.cell (World.block_lt_of_cell? w _ G)).trans G),((HB.out.cell (World.block_lt_of_cell? w _ E)).trans E),((HB.out.cell (World.block_lt_of_cell? w _ J)).trans J),((HB.out.cell (World.block_lt_of_cell? w _ I)).trans I)⟩ (fun hHeld=>?_);clear hK K;refine nm (some 30) ?_;refine qs 11 6 HT_.out ?_;refine done_ (done_of HT_.out (by kernel_rfl)) ?_
           try go_wp2
           replace HB:=Sd.mk (below_drew1 HB.out);have a2:0≤(j:Int):=dz;have a3:j<(l0.length:Int):=dz;obtain⟨bn,be,bf,bv,X,O,av,aw⟩:=at_T57 bp.out j a2 a3;have Z:=O;have aa:=X;obtain rfl:L=bn:=(by injection bv);replace X:=(HB.out.cell (World.block_lt_of_cell? w _ X)).trans X;replace O:=(HB.out.cell (World.block_lt_of_cell? w _ O)).trans O
           (try (have bg:=Option.some.inj (O.symm.trans (show _=some (Value.slice ad _ ae) from by first|assumption|exact m));injection bg with bh bj bk;clear bj;subst bh;subst bk))
           have a6:=Sd.mk aw;have b0:=Sd.mk av;clear aw av;replace a2:=eq_true a2;replace a3:=eq_true a3;have a4:0≤(j:Int):=dz;have a5:j<(l1.length:Int):=dz;obtain⟨bo,bl,bm,bw,Y,U,ax,ay⟩:=at_T57 bq.out j a4 a5;have ab:=U;have ac:=Y;obtain rfl:M=bo:=(by injection bw);replace Y:=(HB.out.cell (World.block_lt_of_cell? w _ Y)).trans Y;replace U:=(HB.out.cell (World.block_lt_of_cell? w _ U)).trans U
           (try (have bg:=Option.some.inj (U.symm.trans (show _=some (Value.slice af _ ag) from by first|assumption|exact o));injection bg with bh bj bk;clear bj;subst bh;subst bk))
           have a7:=Sd.mk ay;have b1:=Sd.mk ax;clear ay ax;replace a4:=eq_true a4;replace a5:=eq_true a5;refine start_ (n:=12) (S:=fun w'=>w'.cell? (L.add ((j).toNat*2))=some (.int .i64 ((rd_T57 l0 j).f0))∧w'.cell? ⟨(L.add ((j).toNat*2)).block,(L.add ((j).toNat*2)).off+1,none⟩=some (.slice be ((rd_T57 l0 j).f1).length bf)∧w'.cell? (M.add ((j).toNat*2))=some (.int .i64 ((rd_T57 l1 j).f0))∧w'.cell? ⟨(M.add ((j).toNat*2)).block,(M.add ((j).toNat*2)).off+1,none⟩=some (.slice bl ((rd_T57 l1 j).f1).length bm)) (ds:=[]) #[F,F,F,F,F,F,F,F,F,F,F,F] (by kernel_rfl) rfl rfl ⟨((HB.out.cell (World.block_lt_of_cell? w _ aa)).trans aa),((HB.out.cell (World.block_lt_of_cell? w _ Z)).trans Z),((HB.out.cell (World.block_lt_of_cell? w _ ac)).trans ac),((HB.out.cell (World.block_lt_of_cell? w _ ab)).trans ab)⟩ (fun hHeld=>?_);refine with_tabW impl_compare.tab7 impl_compare.bits7 (fun HT_ HW_=>?_)
           generalize ck.drew=cu at HB a6 a7 X O Y U hHeld ⊢
           refine qs 0 34 HT_.out ?_;refine qs 1 35 HT_.out ?_;refine qs 2 36 HT_.out ?_;refine qs 3 37 HT_.out ?_;refine qs 5 39 HT_.out ?_;refine qs 6 40 HT_.out ?_;refine qs 7 41 HT_.out ?_;refine qs 8 42 HT_.out ?_;refine tk 4 38 HT_.out HW_.out hHeld rfl rfl (by rintro w' ⟨s0,s1,s2,s3⟩;go_simp;with_reducible rfl) ?_;refine tk 9 43 HT_.out HW_.out hHeld rfl rfl (by rintro w' ⟨s0,s1,s2,s3⟩;go_simp;with_reducible rfl) ?_;refine on 10 44 HT_.out (fun K hK=>?_);refine goes_ Tryd.func64 (by kernel_rfl) rfl #[.int .i64 ((rd_T57 l0 j).f0),.int .i64 ((rd_T57 l1 j).f0)] (by rfl) rfl rfl az ?_
           with_reducible refine(cmp_Compare_int.calls ((rd_T57 l0 j).f0) ((rd_T57 l1 j).f0) a1 _ cb.out).mono ?_
           rintro e w' ⟨rfl,⟨nd,rfl⟩⟩;refine⟨_,rfl,?_⟩;refine hK.out _ _ ⟨((HB.out.cell (World.block_lt_of_cell? w _ aa)).trans aa),((HB.out.cell (World.block_lt_of_cell? w _ Z)).trans Z),((HB.out.cell (World.block_lt_of_cell? w _ ac)).trans ac),((HB.out.cell (World.block_lt_of_cell? w _ ab)).trans ab)⟩ (fun hHeld=>?_);clear hK K;refine nm (some 44) ?_;refine qs 11 7 HT_.out ?_;refine done_ (done_of HT_.out (by kernel_rfl)) ?_
           try go_wp2
           go_roundg bx
           case measure=>have:=a9.out;have:=br.out;omega
           case rel=>exact⟨(wrap64 (j+1)),(by first|rfl|(simp;done)|(simp[*];done)),H',⟨by have:=a9.out;have:=br.out;omega⟩,⟨bz⟩⟩
          ·rw[if_neg bb] at H
           have b9:(a1 == 0)=false:=beq_eq_false_iff_ne.mpr bb;have ca:(a1 != 0)=true:=bne_iff_ne.mpr bb;obtain rfl:=Option.some.inj H
           try go_wp2
           replace HB:=Sd.mk (below_drew1 HB.out);have an:0≤(j:Int):=dz;have ao:j<(l0.length:Int):=dz;obtain⟨L,ad,ae,bc,z,m,ah,ai⟩:=at_T57 bp.out j an ao;have E:=m;have G:=z;cases bc;replace z:=(HB.out.cell (World.block_lt_of_cell? w _ z)).trans z;replace m:=(HB.out.cell (World.block_lt_of_cell? w _ m)).trans m;have aj:=Sd.mk ai;have ar:=Sd.mk ah;clear ai ah;replace an:=eq_true an;replace ao:=eq_true ao;have ap:0≤(j:Int):=dz;have aq:j<(l1.length:Int):=dz;obtain⟨M,af,ag,bd,D,o,ak,al⟩:=at_T57 bq.out j ap aq;have I:=o;have J:=D;cases bd;replace D:=(HB.out.cell (World.block_lt_of_cell? w _ D)).trans D;replace o:=(HB.out.cell (World.block_lt_of_cell? w _ o)).trans o;have am:=Sd.mk al;have au:=Sd.mk ak;clear al ak;replace ap:=eq_true ap;replace aq:=eq_true aq;refine start_ (n:=12) (S:=fun w'=>w'.cell? (L.add ((j).toNat*2))=some (.int .i64 ((rd_T57 l0 j).f0))∧w'.cell? ⟨(L.add ((j).toNat*2)).block,(L.add ((j).toNat*2)).off+1,none⟩=some (.slice ad ((rd_T57 l0 j).f1).length ae)∧w'.cell? (M.add ((j).toNat*2))=some (.int .i64 ((rd_T57 l1 j).f0))∧w'.cell? ⟨(M.add ((j).toNat*2)).block,(M.add ((j).toNat*2)).off+1,none⟩=some (.slice af ((rd_T57 l1 j).f1).length ag)) (ds:=[]) #[F,F,F,F,F,F,F,F,F,F,F,F] (by kernel_rfl) rfl rfl ⟨((HB.out.cell (World.block_lt_of_cell? w _ G)).trans G),((HB.out.cell (World.block_lt_of_cell? w _ E)).trans E),((HB.out.cell (World.block_lt_of_cell? w _ J)).trans J),((HB.out.cell (World.block_lt_of_cell? w _ I)).trans I)⟩ (fun hHeld=>?_);refine with_tabW impl_compare.tab4 impl_compare.bits4 (fun HT_ HW_=>?_)
           generalize wc.drew=cv at HB aj am z m D o hHeld ⊢
           refine qs 0 20 HT_.out ?_;refine qs 1 21 HT_.out ?_;refine qs 2 22 HT_.out ?_;refine qs 3 23 HT_.out ?_;refine qs 5 25 HT_.out ?_;refine qs 6 26 HT_.out ?_;refine qs 7 27 HT_.out ?_;refine qs 8 28 HT_.out ?_;refine tk 4 24 HT_.out HW_.out hHeld rfl rfl (by rintro w' ⟨s0,s1,s2,s3⟩;go_simp;with_reducible rfl) ?_;refine tk 9 29 HT_.out HW_.out hHeld rfl rfl (by rintro w' ⟨s0,s1,s2,s3⟩;go_simp;with_reducible rfl) ?_;refine on 10 30 HT_.out (fun K hK=>?_);refine goes_ Tryd.func57 (by kernel_rfl) rfl #[.slice ad ((rd_T57 l0 j).f1).length ae,.slice af ((rd_T57 l1 j).f1).length ag] (by rfl) rfl rfl az ?_
           with_reducible refine(ih bx (by have:=a9.out;have:=br.out;omega) _ _ ((rd_T57 l0 j).f1) _ _ ((rd_T57 l1 j).f1) a0 _ ?side1 ?side2 ?side3 ?side4 A9.out).mono ?_
           (case side1=>exact Kd.Cz (Kd.C_below aj.out HB.out))
           (case side2=>exact ar.out)
           (case side3=>exact Kd.Cz (Kd.C_below am.out HB.out))
           (case side4=>exact au.out)
           rintro e cl ⟨rfl,hb⟩;refine⟨_,rfl,?_⟩;replace HB:=Sd.mk (below_step bz hb);refine hK.out _ _ ⟨((HB.out.cell (World.block_lt_of_cell? w _ G)).trans G),((HB.out.cell (World.block_lt_of_cell? w _ E)).trans E),((HB.out.cell (World.block_lt_of_cell? w _ J)).trans J),((HB.out.cell (World.block_lt_of_cell? w _ I)).trans I)⟩ (fun hHeld=>?_);clear hK K;refine nm (some 30) ?_;refine qs 11 6 HT_.out ?_;refine done_ (done_of HT_.out (by kernel_rfl)) ?_
           try go_wp2
           replace HB:=Sd.mk (below_drew1 HB.out);have a2:0≤(j:Int):=dz;have a3:j<(l0.length:Int):=dz;obtain⟨bn,be,bf,bv,X,O,av,aw⟩:=at_T57 bp.out j a2 a3;have Z:=O;have aa:=X;obtain rfl:L=bn:=(by injection bv);replace X:=(HB.out.cell (World.block_lt_of_cell? w _ X)).trans X;replace O:=(HB.out.cell (World.block_lt_of_cell? w _ O)).trans O
           (try (have bg:=Option.some.inj (O.symm.trans (show _=some (Value.slice ad _ ae) from by first|assumption|exact m));injection bg with bh bj bk;clear bj;subst bh;subst bk))
           have a6:=Sd.mk aw;have b0:=Sd.mk av;clear aw av;replace a2:=eq_true a2;replace a3:=eq_true a3;have a4:0≤(j:Int):=dz;have a5:j<(l1.length:Int):=dz;obtain⟨bo,bl,bm,bw,Y,U,ax,ay⟩:=at_T57 bq.out j a4 a5;have ab:=U;have ac:=Y;obtain rfl:M=bo:=(by injection bw);replace Y:=(HB.out.cell (World.block_lt_of_cell? w _ Y)).trans Y;replace U:=(HB.out.cell (World.block_lt_of_cell? w _ U)).trans U
           (try (have bg:=Option.some.inj (U.symm.trans (show _=some (Value.slice af _ ag) from by first|assumption|exact o));injection bg with bh bj bk;clear bj;subst bh;subst bk))
           have a7:=Sd.mk ay;have b1:=Sd.mk ax;clear ay ax;replace a4:=eq_true a4;replace a5:=eq_true a5;refine start_ (n:=12) (S:=fun w'=>w'.cell? (L.add ((j).toNat*2))=some (.int .i64 ((rd_T57 l0 j).f0))∧w'.cell? ⟨(L.add ((j).toNat*2)).block,(L.add ((j).toNat*2)).off+1,none⟩=some (.slice be ((rd_T57 l0 j).f1).length bf)∧w'.cell? (M.add ((j).toNat*2))=some (.int .i64 ((rd_T57 l1 j).f0))∧w'.cell? ⟨(M.add ((j).toNat*2)).block,(M.add ((j).toNat*2)).off+1,none⟩=some (.slice bl ((rd_T57 l1 j).f1).length bm)) (ds:=[]) #[F,F,F,F,F,F,F,F,F,F,F,F] (by kernel_rfl) rfl rfl ⟨((HB.out.cell (World.block_lt_of_cell? w _ aa)).trans aa),((HB.out.cell (World.block_lt_of_cell? w _ Z)).trans Z),((HB.out.cell (World.block_lt_of_cell? w _ ac)).trans ac),((HB.out.cell (World.block_lt_of_cell? w _ ab)).trans ab)⟩ (fun hHeld=>?_);refine with_tabW impl_compare.tab7 impl_compare.bits7 (fun HT_ HW_=>?_)
           generalize cl.drew=cw at HB a6 a7 X O Y U hHeld ⊢
           refine qs 0 34 HT_.out ?_;refine qs 1 35 HT_.out ?_;refine qs 2 36 HT_.out ?_;refine qs 3 37 HT_.out ?_;refine qs 5 39 HT_.out ?_;refine qs 6 40 HT_.out ?_;refine qs 7 41 HT_.out ?_;refine qs 8 42 HT_.out ?_;refine tk 4 38 HT_.out HW_.out hHeld rfl rfl (by rintro w' ⟨s0,s1,s2,s3⟩;go_simp;with_reducible rfl) ?_;refine tk 9 43 HT_.out HW_.out hHeld rfl rfl (by rintro w' ⟨s0,s1,s2,s3⟩;go_simp;with_reducible rfl) ?_;refine on 10 44 HT_.out (fun K hK=>?_);refine goes_ Tryd.func64 (by kernel_rfl) rfl #[.int .i64 ((rd_T57 l0 j).f0),.int .i64 ((rd_T57 l1 j).f0)] (by rfl) rfl rfl az ?_
           with_reducible refine(cmp_Compare_int.calls ((rd_T57 l0 j).f0) ((rd_T57 l1 j).f0) a1 _ cb.out).mono ?_
           rintro e w' ⟨rfl,⟨nd,rfl⟩⟩;refine⟨_,rfl,?_⟩;refine hK.out _ _ ⟨((HB.out.cell (World.block_lt_of_cell? w _ aa)).trans aa),((HB.out.cell (World.block_lt_of_cell? w _ Z)).trans Z),((HB.out.cell (World.block_lt_of_cell? w _ ac)).trans ac),((HB.out.cell (World.block_lt_of_cell? w _ ab)).trans ab)⟩ (fun hHeld=>?_);clear hK K;refine nm (some 44) ?_;refine qs 11 7 HT_.out ?_;refine done_ (done_of HT_.out (by kernel_rfl)) ?_
           try go_wp2
           go_ret;exact⟨by first|rfl|(simp[errW_none,errW_some]<;>rfl)|(simp[*,errW_none,errW_some]<;>rfl),bz⟩
         ·rw[if_neg c10] at H
          have b7:(a0 == 0)=false:=beq_eq_false_iff_ne.mpr c10;have b8:(a0 != 0)=true:=bne_iff_ne.mpr c10;obtain rfl:=Option.some.inj H
          try go_wp2
          replace HB:=Sd.mk (below_drew1 HB.out);have an:0≤(j:Int):=dz;have ao:j<(l0.length:Int):=dz;obtain⟨L,ad,ae,bc,z,m,ah,ai⟩:=at_T57 bp.out j an ao;have E:=m;have G:=z;cases bc;replace z:=(HB.out.cell (World.block_lt_of_cell? w _ z)).trans z;replace m:=(HB.out.cell (World.block_lt_of_cell? w _ m)).trans m;have aj:=Sd.mk ai;have ar:=Sd.mk ah;clear ai ah;replace an:=eq_true an;replace ao:=eq_true ao;have ap:0≤(j:Int):=dz;have aq:j<(l1.length:Int):=dz;obtain⟨M,af,ag,bd,D,o,ak,al⟩:=at_T57 bq.out j ap aq;have I:=o;have J:=D;cases bd;replace D:=(HB.out.cell (World.block_lt_of_cell? w _ D)).trans D;replace o:=(HB.out.cell (World.block_lt_of_cell? w _ o)).trans o;have am:=Sd.mk al;have au:=Sd.mk ak;clear al ak;replace ap:=eq_true ap;replace aq:=eq_true aq;refine start_ (n:=12) (S:=fun w'=>w'.cell? (L.add ((j).toNat*2))=some (.int .i64 ((rd_T57 l0 j).f0))∧w'.cell? ⟨(L.add ((j).toNat*2)).block,(L.add ((j).toNat*2)).off+1,none⟩=some (.slice ad ((rd_T57 l0 j).f1).length ae)∧w'.cell? (M.add ((j).toNat*2))=some (.int .i64 ((rd_T57 l1 j).f0))∧w'.cell? ⟨(M.add ((j).toNat*2)).block,(M.add ((j).toNat*2)).off+1,none⟩=some (.slice af ((rd_T57 l1 j).f1).length ag)) (ds:=[]) #[F,F,F,F,F,F,F,F,F,F,F,F] (by kernel_rfl) rfl rfl ⟨((HB.out.cell (World.block_lt_of_cell? w _ G)).trans G),((HB.out.cell (World.block_lt_of_cell? w _ E)).trans E),((HB.out.cell (World.block_lt_of_cell? w _ J)).trans J),((HB.out.cell (World.block_lt_of_cell? w _ I)).trans I)⟩ (fun hHeld=>?_);refine with_tabW impl_compare.tab4 impl_compare.bits4 (fun HT_ HW_=>?_)
          generalize wc.drew=cx at HB aj am z m D o hHeld ⊢
          refine qs 0 20 HT_.out ?_;refine qs 1 21 HT_.out ?_;refine qs 2 22 HT_.out ?_;refine qs 3 23 HT_.out ?_;refine qs 5 25 HT_.out ?_;refine qs 6 26 HT_.out ?_;refine qs 7 27 HT_.out ?_;refine qs 8 28 HT_.out ?_;refine tk 4 24 HT_.out HW_.out hHeld rfl rfl (by rintro w' ⟨s0,s1,s2,s3⟩;go_simp;with_reducible rfl) ?_;refine tk 9 29 HT_.out HW_.out hHeld rfl rfl (by rintro w' ⟨s0,s1,s2,s3⟩;go_simp;with_reducible rfl) ?_;refine on 10 30 HT_.out (fun K hK=>?_);refine goes_ Tryd.func57 (by kernel_rfl) rfl #[.slice ad ((rd_T57 l0 j).f1).length ae,.slice af ((rd_T57 l1 j).f1).length ag] (by rfl) rfl rfl az ?_
          with_reducible refine(ih bx (by have:=a9.out;have:=br.out;omega) _ _ ((rd_T57 l0 j).f1) _ _ ((rd_T57 l1 j).f1) a0 _ ?side1 ?side2 ?side3 ?side4 A9.out).mono ?_
          (case side1=>exact Kd.Cz (Kd.C_below aj.out HB.out))
          (case side2=>exact ar.out)
          (case side3=>exact Kd.Cz (Kd.C_below am.out HB.out))
          (case side4=>exact au.out)
          rintro e cy ⟨rfl,hb⟩;refine⟨_,rfl,?_⟩;replace HB:=Sd.mk (below_step bz hb);refine hK.out _ _ ⟨((HB.out.cell (World.block_lt_of_cell? w _ G)).trans G),((HB.out.cell (World.block_lt_of_cell? w _ E)).trans E),((HB.out.cell (World.block_lt_of_cell? w _ J)).trans J),((HB.out.cell (World.block_lt_of_cell? w _ I)).trans I)⟩ (fun hHeld=>?_);clear hK K;refine nm (some 30) ?_;refine qs 11 6 HT_.out ?_;refine done_ (done_of HT_.out (by kernel_rfl)) ?_
          try go_wp2
          go_ret;exact⟨by first|rfl|(simp[errW_none,errW_some]<;>rfl)|(simp[*,errW_none,errW_some]<;>rfl),bz⟩
        ·rw[if_neg c8] at H
         exact absurd H (by simp)
       ·rw[if_neg c7] at H
        exact absurd H (by simp)
      ·rw[if_neg c6] at H
       exact absurd H (by simp)
     ·replace c5:=Bool.eq_false_iff.mpr c5
      subst c5;replace H:=ng ft H;obtain⟨ci,cm,H⟩:=bs H;obtain rfl:=Option.some.inj H;go_wp2_with (first|((with_reducible refine gate_callee (f:=64) rfl ?_);refine goesL_ (some 52) rfl rfl Tryd.func64 (by kernel_rfl) rfl #[.int .i64 (l0.length:Int),.int .i64 (l1.length:Int)] rfl az ?_;(with_reducible refine(cmp_Compare_int.calls (l0.length:Int) (l1.length:Int) ci _ cm.out).mono ?_);rintro e w' ⟨rfl,⟨nd,rfl⟩⟩;refine⟨_,rfl,?_⟩));go_ret;exact⟨by first|rfl|(simp[errW_none,errW_some]<;>rfl)|(simp[*,errW_none,errW_some]<;>rfl),bz⟩
end Go.Proofs.YtbdbldhpglponaaDoor.P