/- One Go function comes to what its Lean function tells. -/
import Derived.Test.YtfblcanijhnhmaaP0
import Derived.Test.YtfblcanijhnhmaaPspecl1Terms
namespace Go.Proofs.Ytfblcanijhnhmaa.P
open Go.RowKit YtfblcanijhnhmaaW.PrintWords YtfblcanijhnhmaaW.PrintLast YtfblcanijhnhmaaW.PrintMore
set_option linter.unusedVariables false
set_option linter.unusedSimpArgs false
/-! ### spec_l1Compare: function 53 -/
mutual
def spec_l1Compare.l0:Nat→List Int→List (List Int)→List Int→List (List Int)→Int→Option (Int)
 | 0,_,_,_,_,_=>none
 | k+1,x5,x6,x7,x8,x9=>if x9<(x5.length:Int) then(spec_l1Compare.j1 k x5 x6 x7 x8 x9 (decide (x9<(x7.length:Int)))) else(spec_l1Compare.j1 k x5 x6 x7 x8 x9 false)
def spec_l1Compare.j1:Nat→List Int→List (List Int)→List Int→List (List Int)→Int→Bool→Option (Int)
 | 0,_,_,_,_,_,_=>none
 | k+1,x5,x6,x7,x8,x9,x30=>if x30=true then(if 0≤x9 then(if x9<(x6.length:Int) then(if x9<(x8.length:Int) then((spec_l1Compare.f k (rd_L2 x6 x9) (rd_L2 x8 x9)).bind fun t296=>(if t296=0 then(if x9<(x5.length:Int) then(if x9<(x7.length:Int) then(if(rd x5 x9)=(rd x7 x9) then(spec_l1Compare.l0 k x5 x6 x7 x8 (wrap64 (x9+1))) else(if(rd x5 x9)<(rd x7 x9) then(some (-1)) else(some 1))) else(none)) else(none)) else(some t296))) else(none)) else(none)) else(none)) else(if(x5.length:Int)<(x7.length:Int) then(some (-1)) else(if(x5.length:Int)>(x7.length:Int) then(some 1) else(some 0)))
def spec_l1Compare.f:Nat→List Int→List Int→Option (Int)
 | 0,_,_=>none
 | k+1,l0,l1=>(spec_l1Terms.f k l0).bind fun bt282=>((spec_l1Terms.f k l1).bind fun bt288=>(spec_l1Compare.l0 k bt282.1 bt282.2 bt288.1 bt288.2 0))
end
def spec_l1Compare.T6:Bool × List (List Nat × List Nat):=(true,[([],[]),([],[]),([0,1],[0,1]),([2],[2]),([],[]),([],[]),([4,5],[4,5]),([6],[6]),([3,7],[3,7]),([8,8,0,1,2,3,4,5,6,7,8],[8])])
def spec_l1Compare.B6:List Nat:=[0,0,3,7,0,0,48,112,255,511]
theorem spec_l1Compare.tab6:rtab .any (opsOf Try.f53 6)=spec_l1Compare.T6:=by kernel_rfl
theorem spec_l1Compare.bits6:waitsOk spec_l1Compare.T6.2 spec_l1Compare.B6=true:=by kernel_rfl
def spec_l1Compare.T9:Bool × List (List Nat × List Nat):=(true,[([],[]),([],[]),([0,1],[0,1]),([2],[2]),([],[]),([],[]),([4,5],[4,5]),([6],[6]),([3,7],[3,7])])
def spec_l1Compare.B9:List Nat:=[0,0,3,7,0,0,48,112,255]
theorem spec_l1Compare.tab9:rtab .any (opsOf Try.f53 9)=spec_l1Compare.T9:=by kernel_rfl
theorem spec_l1Compare.bits9:waitsOk spec_l1Compare.T9.2 spec_l1Compare.B9=true:=by kernel_rfl
def spec_l1Compare.T10:Bool × List (List Nat × List Nat):=(true,[([],[]),([],[]),([0,1],[0,1]),([2],[2]),([],[]),([],[]),([4,5],[4,5]),([6],[6]),([3,7],[3,7])])
def spec_l1Compare.B10:List Nat:=[0,0,3,7,0,0,48,112,255]
theorem spec_l1Compare.tab10:rtab .any (opsOf Try.f53 10)=spec_l1Compare.T10:=by kernel_rfl
theorem spec_l1Compare.bits10:waitsOk spec_l1Compare.T10.2 spec_l1Compare.B10=true:=by kernel_rfl
set_option maxHeartbeats 8000000 in
set_option maxRecDepth 100000 in
theorem spec_l1Compare.calls (k:Nat):∀ (A0:Option Addr) (c0:Nat) (l0:List Int) (A1:Option Addr) (c1:Nat) (l1:List Int) (r:Int) (w:World) (dc:Kd.C (Kd.int .i64) w A0 l0.length l0) (dd:l0.length≤c0) (de:Kd.C (Kd.int .i64) w A1 l1.length l1) (df:l1.length≤c1) (h:spec_l1Compare.f k l0 l1=some r),
  Calls Try.prog 53 #[.slice A0 l0.length c0,.slice A1 l1.length c1] w fun e w'=>e=.returned (.int .i64 r)∧Below w.heap.size w w':=by
 induction k using Nat.strongRecOn with
 | _ k ih =>
 intro A0 c0 l0 A1 c1 l1 r w dc dd de df h
 cases k with
 | zero=>exact absurd h (by simp[spec_l1Compare.f])
 | succ k =>
 simp only[spec_l1Compare.f] at h;have ep:=Sd.mk dc;have eq:=Sd.mk dd;clear dc dd;have er:=Sd.mk de;have es:=Sd.mk df;clear de df;have HB:=Sd.mk (Below.refl w.heap.size w);have H:((spec_l1Terms.f k l0).bind fun ct=>((spec_l1Terms.f k l1).bind fun bx=>(spec_l1Compare.l0 k ct.1 ct.2 bx.1 bx.2 0)))=some r:=h;clear h;replace H:=Option.bind_eq_some_iff.mp H;obtain⟨⟨L,Z⟩,ef,H⟩:=H;replace H:((spec_l1Terms.f k l1).bind fun bx=>(spec_l1Compare.l0 k L Z bx.1 bx.2 0))=some r:=H;have A3:=Sd.mk ef;clear ef;replace H:=Option.bind_eq_some_iff.mp H;obtain⟨⟨M,aa⟩,eg,H⟩:=H;replace H:(spec_l1Compare.l0 k L Z M aa 0)=some r:=H;have A4:=Sd.mk eg;clear eg;have H':=Sd.mk H;clear H;go_enter Try.func53,Try.ntmps53;go_wp2_with (first|((with_reducible refine gate_callee (f:=52) rfl ?_);refine goesL_ (some 13) rfl rfl Try.func52 (by kernel_rfl) rfl #[.slice A0 l0.length c0] rfl az ?_;(with_reducible refine(spec_l1Terms.calls k (fun k_=>k_<w.heap.size) _ _ l0 L Z _ ?side1 A3.out).mono ?_);(case side1=>exact Kd.V_mk eq.out (Kd.F_below (Kd.C_F (Kd.heap_int .i64) ep.out) bz));rintro e w5 ⟨bf,b9,rfl,co,cu,hb⟩;refine⟨_,rfl,?_⟩;have bn:=Sd.mk (Kd.R_lower (Kd.R_mono (ok':=fun k_=>True) co (fun _ ca=>trivial)) (below_size bz));have b0:=Sd.mk (Kd.N_lower (Kd.N_mono (ok':=fun k_=>some k_≠(bf:Value).ownBlock) cu (fun k_ ca=>ca.2)) (below_size bz));replace HB:=Sd.mk (below_step bz hb))|((with_reducible refine gate_callee (f:=52) rfl ?_);refine goesL_ (some 18) rfl rfl Try.func52 (by kernel_rfl) rfl #[.slice A1 l1.length c1] rfl az ?_;(with_reducible refine(spec_l1Terms.calls k (fun k_=>k_<w.heap.size) _ _ l1 M aa _ ?side1 A4.out).mono ?_);(case side1=>exact Kd.V_mk es.out (Kd.F_below (Kd.C_F (Kd.heap_int .i64) er.out) bz));rintro e w6 ⟨bj,cj,rfl,co,cu,hb⟩;refine⟨_,rfl,?_⟩;have d4:=Sd.mk (Kd.R_lower (Kd.R_new' (Kd.R_mono (ok':=fun k_=>True) co (fun _ ca=>trivial)) (Kd.R_lt (Kd.Rz bn.out))) (below_size bz));have d5:=Sd.mk (Kd.N_lower (Kd.N_mono (ok':=fun k_=>some k_≠(bj:Value).ownBlock∧some k_≠(bf:Value).ownBlock∧some k_≠(b9:Value).ownBlock) cu (fun k_ ca=>⟨ca.2,Or.elim ca.1 (fun dg=>fun e_=>Nat.not_le.2 dg (Kd.R_base bn.out k_ e_.symm)) (fun dh=>(Kd.fresh' (Kd.R_lt (Kd.Rz bn.out)) k_ dh)),Or.elim ca.1 (fun dg=>fun e_=>Nat.not_le.2 dg (Kd.N_base b0.out k_ e_.symm)) (fun dh=>(Kd.fresh' (Kd.N_lt (Kd.Nz b0.out)) k_ dh))⟩)) (below_size bz));replace bn:=Sd.mk (Kd.R_elder' (Kd.Rz bn.out) (Kd.R_base co) hb);replace b0:=Sd.mk (Kd.N_mono (Kd.N_told (Kd.N_told (Kd.N_old (Kd.Nz b0.out) hb) (Kd.R_base co)) (Kd.N_base cu)) (fun _ h_=>h_.1));replace HB:=Sd.mk (below_step bz hb)))
 go_loopg [9] k (fun kq v9 w'=>∃ (j:Int),v9=.int .i64 j∧Sd (spec_l1Compare.l0 kq L Z M aa j=some r)∧Sd (kq≤k)∧Sd (Kd.R (Kd.int .i64) 3 w' w.heap.size (fun k_=>some k_≠(bj:Value).ownBlock) bf L)∧Sd (Kd.N (Kd.slice 3 (Kd.int .i64)) 22 w' w.heap.size (fun k_=>some k_≠(bf:Value).ownBlock∧some k_≠(bj:Value).ownBlock∧some k_≠(cj:Value).ownBlock) b9 Z)∧Sd (Kd.R (Kd.int .i64) 3 w' w.heap.size (fun k_=>some k_≠(bf:Value).ownBlock) bj M)∧Sd (Kd.N (Kd.slice 3 (Kd.int .i64)) 22 w' w.heap.size (fun k_=>some k_≠(bf:Value).ownBlock∧some k_≠(b9:Value).ownBlock∧some k_≠(bj:Value).ownBlock) cj aa)∧Sd (Below w.heap.size w w'))
 case atStart=>exact⟨(0),(by first|rfl|(simp;done)|(simp[*];done)),H',⟨Nat.le_refl _⟩,⟨Kd.Rz <| Kd.R_mono bn.out (fun _ hk=>hk.2)⟩,⟨Kd.Nz <| Kd.N_mono b0.out (fun _ hk=>⟨hk.1.1,⟨hk.1.2,hk.2⟩⟩)⟩,⟨Kd.Rz <| Kd.R_mono d4.out (fun _ hk=>hk.2)⟩,⟨Kd.Nz <| Kd.N_mono d5.out (fun _ hk=>⟨hk.2.1,⟨hk.2.2,hk.1⟩⟩)⟩,⟨bz⟩⟩
 case round =>
  clear H';obtain⟨j,rfl,HA,b5,I,z,J,D,HB⟩:=hrel
  cases gk with
  | zero=>exact absurd HA.out (by simp[spec_l1Compare.l0])
  | succ k1 =>
   have H:=HA.out;clear HA;simp only[spec_l1Compare.l0] at H;have di:=Sd.mk H;clear H
   go_upto_region 4 with (fail)
   go_cut [30] (fun et wc=>∃ (kq:Nat) (b8:Bool),et=.bool b8∧Sd (spec_l1Compare.j1 kq L Z M aa j b8=some r)∧Sd (kq≤k1)∧Sd (Kd.R (Kd.int .i64) 3 wc w.heap.size (fun k_=>some k_≠(bj:Value).ownBlock) bf L)∧Sd (Kd.N (Kd.slice 3 (Kd.int .i64)) 22 wc w.heap.size (fun k_=>some k_≠(bf:Value).ownBlock∧some k_≠(bj:Value).ownBlock∧some k_≠(cj:Value).ownBlock) b9 Z)∧Sd (Kd.R (Kd.int .i64) 3 wc w.heap.size (fun k_=>some k_≠(bf:Value).ownBlock) bj M)∧Sd (Kd.N (Kd.slice 3 (Kd.int .i64)) 22 wc w.heap.size (fun k_=>some k_≠(bf:Value).ownBlock∧some k_≠(b9:Value).ownBlock∧some k_≠(bj:Value).ownBlock) cj aa)∧Sd (Below w.heap.size w wc))
   case first =>
    have H:=di.out;clear di
    by_cases c8:j<(L.length:Int)
    ·rw[if_pos c8] at H
     have cb:decide (j<(L.length:Int))=true:=decide_eq_true c8;clear c8
     (first|rw[cb]|(simp only[i64_w,i32_w];rw[cb])|skip)
     have H':=Sd.mk H;clear H;obtain⟨gj,gl,eu⟩:=Kd.R_slice I.out;subst eu;obtain⟨e8,e9,eh⟩:=Kd.R_slice J.out;subst eh;go_wp2;go_meet
     case rel=>exact⟨_,(decide (j<(M.length:Int))),(by first|rfl|(simp;done)|(simp[*];done)),H',⟨by have:=b5.out;first|omega|exact Nat.le_refl _⟩,⟨Kd.Rz I.out⟩,⟨Kd.Nz z.out⟩,⟨Kd.Rz J.out⟩,⟨Kd.Nz D.out⟩,⟨bz⟩⟩
    ·rw[if_neg c8] at H
     have cb:decide (j<(L.length:Int))=false:=decide_eq_false c8;clear c8
     (first|rw[cb]|(simp only[i64_w,i32_w];rw[cb])|skip)
     have H':=Sd.mk H;clear H;obtain⟨fa,fb,ei⟩:=Kd.R_slice I.out;subst ei;go_wp2;go_meet
     case rel=>exact⟨_,(false),(by first|rfl|(simp;done)|(simp[*];done)),H',⟨by have:=b5.out;first|omega|exact Nat.le_refl _⟩,⟨Kd.Rz I.out⟩,⟨Kd.Nz z.out⟩,⟨Kd.Rz J.out⟩,⟨Kd.Nz D.out⟩,⟨bz⟩⟩
   case rest =>
    clear di;obtain⟨kq,b8,rfl,HA,ch,I,z,J,D,HB⟩:=hcut
    cases kq with
    | zero=>exact absurd HA.out (by simp[spec_l1Compare.j1])
    | succ cp =>
     have H:=HA.out;clear HA;simp only[spec_l1Compare.j1] at H
     by_cases cv:b8=true
     ·subst cv
      replace H:=ip rfl H
      by_cases cw:0≤j
      ·rw[if_pos cw] at H
       have e0:decide (0≤j)=true:=decide_eq_true cw;clear cw
       by_cases cx:j<(Z.length:Int)
       ·rw[if_pos cx] at H
        have e1:decide (j<(Z.length:Int))=true:=decide_eq_true cx;clear cx
        by_cases cy:j<(aa.length:Int)
        ·rw[if_pos cy] at H
         have e2:decide (j<(aa.length:Int))=true:=decide_eq_true cy;clear cy;obtain⟨bk,cz,H⟩:=bs H
         by_cases cc:bk=0
         ·rw[if_pos cc] at H
          have d6:(bk == 0)=true:=beq_iff_eq.mpr cc;have d7:(bk != 0)=false:=bne_eq_false_iff_eq.mpr cc;clear cc
          by_cases da:j<(L.length:Int)
          ·rw[if_pos da] at H
           have e3:decide (j<(L.length:Int))=true:=decide_eq_true da;clear da
           by_cases db:j<(M.length:Int)
           ·rw[if_pos db] at H
            have e4:decide (j<(M.length:Int))=true:=decide_eq_true db;clear db
            by_cases cd:(rd L j)=(rd M j)
            ·rw[if_pos cd] at H
             have d8:((rd L j) == (rd M j))=true:=beq_iff_eq.mpr cd;have d9:((rd L j) != (rd M j))=false:=bne_eq_false_iff_eq.mpr cd;clear cd;have H':=Sd.mk H;clear H
             try go_wp2
             replace I:=Sd.mk (Kd.R_drew I.out);replace z:=Sd.mk (Kd.N_drew z.out);replace J:=Sd.mk (Kd.R_drew J.out);replace D:=Sd.mk (Kd.N_drew D.out);replace HB:=Sd.mk (below_drew1 HB.out);obtain⟨fc,fd,dj⟩:=Kd.N_slice z.out
             (first|subst dj|(injection dj with X ah Y;have ai:=X.symm;have aj:=Y.symm;clear X ah Y;subst ai;subst aj))
             have ao:0≤(j:Int):=dz;have ap:j<(Z.length:Int):=dz;obtain⟨bl,au,av,bo,ab,ak,al⟩:=at_L2 (Kd.N_reads' z.out).2.2 j ao ap;cases bo;obtain⟨ck,a7,a8,aw⟩:=Kd.N_get z.out [] j ao (by first|exact ap|exact dz|(have e_:=(Kd.N_reads' z.out).1;omega));obtain⟨b1,b2,rfl,ac,ad⟩:=Kd.FK_slice_open a8;have O:=aw 0 _ rfl;rw[Nat.add_zero,show ((Kd.slice 3 (Kd.int .i64))).sz=1 from rfl,Nat.mul_one] at O;replace O:=Option.some.inj (O.symm.trans ab)
             injection O with hva_ hvn_ hvc_
             rw[hva_] at ad;rw[hvc_] at ac;have E:=Sd.mk (show Kd.V (Kd.int .i64) 3 _ w.heap.size _ _ (rd_L2 Z j) from Kd.V_mk ac ad);clear hva_ hvn_ hvc_ ad ac;clear aw a7;have m:=Sd.mk al;have a3:=Sd.mk ak;clear al ak;replace ao:=eq_true ao;replace ap:=eq_true ap;obtain⟨fe,ff,dk⟩:=Kd.N_slice D.out
             (first|subst dk|(injection dk with X ah Y;have ai:=X.symm;have aj:=Y.symm;clear X ah Y;subst ai;subst aj))
             have aq:0≤(j:Int):=dz;have ar:j<(aa.length:Int):=dz;obtain⟨bm,ax,ay,bp,ae,am,an⟩:=at_L2 (Kd.N_reads' D.out).2.2 j aq ar;cases bp;obtain⟨cl,a9,ba,a0⟩:=Kd.N_get D.out [] j aq (by first|exact ar|exact dz|(have e_:=(Kd.N_reads' D.out).1;omega));obtain⟨b3,b4,rfl,af,ag⟩:=Kd.FK_slice_open ba;have U:=a0 0 _ rfl;rw[Nat.add_zero,show ((Kd.slice 3 (Kd.int .i64))).sz=1 from rfl,Nat.mul_one] at U;replace U:=Option.some.inj (U.symm.trans ae)
             injection U with hva_ hvn_ hvc_
             rw[hva_] at ag;rw[hvc_] at af;have G:=Sd.mk (show Kd.V (Kd.int .i64) 3 _ w.heap.size _ _ (rd_L2 aa j) from Kd.V_mk af ag);clear hva_ hvn_ hvc_ ag af;clear a0 a9;have o:=Sd.mk an;have a4:=Sd.mk am;clear an am;replace aq:=eq_true aq;replace ar:=eq_true ar;refine start_ (n:=10) (S:=fun w'=>w'.cell? (bl.add (j).toNat)=some (.slice au (rd_L2 Z j).length av)∧w'.cell? (bm.add (j).toNat)=some (.slice ax (rd_L2 aa j).length ay)) (ds:=[]) #[F,F,F,F,F,F,F,F,F,F] (by kernel_rfl) rfl rfl ⟨ab,ae⟩ (fun hHeld=>?_);refine with_tabW spec_l1Compare.tab6 spec_l1Compare.bits6 (fun HT_ HW_=>?_)
             generalize wc.drew=gm at I z J D HB E G m o ab ae hHeld ⊢
             refine qs 0 33 HT_.out ?_;refine qs 1 34 HT_.out ?_;refine qs 2 35 HT_.out ?_;refine qs 4 37 HT_.out ?_;refine qs 5 38 HT_.out ?_;refine qs 6 39 HT_.out ?_;refine tk 3 36 HT_.out HW_.out hHeld rfl rfl (by rintro w' ⟨s0,s1⟩;go_simp;with_reducible rfl) ?_;refine tk 7 40 HT_.out HW_.out hHeld rfl rfl (by rintro w' ⟨s0,s1⟩;go_simp;with_reducible rfl) ?_;refine on 8 41 HT_.out (fun K hK=>?_);refine goes_ Try.func53 (by kernel_rfl) rfl #[.slice au (rd_L2 Z j).length av,.slice ax (rd_L2 aa j).length ay] (by rfl) rfl rfl az ?_
             with_reducible refine(ih cp (by have:=b5.out;have:=ch.out;omega) _ _ (rd_L2 Z j) _ _ (rd_L2 aa j) bk _ ?side1 ?side2 ?side3 ?side4 cz.out).mono ?_
             (case side1=>exact(Kd.Cz m.out))
             (case side2=>exact a3.out)
             (case side3=>exact(Kd.Cz o.out))
             (case side4=>exact a4.out)
             rintro e ev ⟨rfl,hb⟩;have bq:=cg hb hHeld.1;have br:=cg hb hHeld.2;refine⟨_,rfl,?_⟩;replace I:=Sd.mk (Kd.R_below (Kd.Rz I.out) hb);replace z:=Sd.mk (Kd.N_below (Kd.Nz z.out) hb);replace J:=Sd.mk (Kd.R_below (Kd.Rz J.out) hb);replace D:=Sd.mk (Kd.N_below (Kd.Nz D.out) hb);replace E:=Sd.mk (Kd.V_below (Kd.Vz E.out) hb);replace G:=Sd.mk (Kd.V_below (Kd.Vz G.out) hb);replace m:=Sd.mk (Kd.C_below (Kd.Cz m.out) hb);replace o:=Sd.mk (Kd.C_below (Kd.Cz o.out) hb);replace HB:=Sd.mk (below_step bz hb);refine hK.out _ _ ⟨bq,br⟩ (fun hHeld=>?_);clear hK K;refine nm (some 41) ?_;refine qs 9 10 HT_.out ?_;refine done_ (done_of HT_.out (by kernel_rfl)) ?_
             try go_wp2
             replace I:=Sd.mk (Kd.R_drew I.out);replace z:=Sd.mk (Kd.N_drew z.out);replace J:=Sd.mk (Kd.R_drew J.out);replace D:=Sd.mk (Kd.N_drew D.out);replace E:=Sd.mk (Kd.V_drew E.out);replace G:=Sd.mk (Kd.V_drew G.out);replace m:=Sd.mk (Kd.C_drew m.out);replace o:=Sd.mk (Kd.C_drew o.out);replace HB:=Sd.mk (below_drew1 HB.out);obtain⟨fg,fh,dl⟩:=Kd.R_slice I.out
             (first|subst dl|(injection dl with X ah Y;have ai:=X.symm;have aj:=Y.symm;clear X ah Y;subst ai;subst aj))
             have bb:0≤(j:Int):=dz;have bc:j<(L.length:Int):=dz;obtain⟨a5,ce,a1⟩:=Kd.at_int (Kd.R_reads' I.out).2.2 j bb bc;cases ce;replace bb:=eq_true bb;replace bc:=eq_true bc;obtain⟨fi,fj,dm⟩:=Kd.R_slice J.out
             (first|subst dm|(injection dm with X ah Y;have ai:=X.symm;have aj:=Y.symm;clear X ah Y;subst ai;subst aj))
             have bd:0≤(j:Int):=dz;have be:j<(M.length:Int):=dz;obtain⟨a6,cf,a2⟩:=Kd.at_int (Kd.R_reads' J.out).2.2 j bd be;cases cf;replace bd:=eq_true bd;replace be:=eq_true be;refine start_ (n:=9) (S:=fun w'=>w'.cell? (a5.add (j).toNat)=some (.int .i64 (rd L j))∧w'.cell? (a6.add (j).toNat)=some (.int .i64 (rd M j))) (ds:=[]) #[F,F,F,F,F,F,F,F,F] (by kernel_rfl) rfl rfl ⟨a1,a2⟩ (fun hHeld=>?_);refine with_tabW spec_l1Compare.tab9 spec_l1Compare.bits9 (fun HT_ HW_=>?_)
             generalize ev.drew=gn at I z J D E G m o HB a1 a2 hHeld ⊢
             refine qs 0 45 HT_.out ?_;refine qs 1 46 HT_.out ?_;refine qs 2 47 HT_.out ?_;refine qs 4 49 HT_.out ?_;refine qs 5 50 HT_.out ?_;refine qs 6 51 HT_.out ?_;refine tk 3 48 HT_.out HW_.out hHeld rfl rfl (by rintro w' ⟨s0,s1⟩;go_simp;with_reducible rfl) ?_;refine tk 7 52 HT_.out HW_.out hHeld rfl rfl (by rintro w' ⟨s0,s1⟩;go_simp;with_reducible rfl) ?_;refine qs 8 53 HT_.out ?_;refine done_ (done_of HT_.out (by kernel_rfl)) ?_
             try go_wp2
             go_roundg cp
             case measure=>have:=b5.out;have:=ch.out;omega
             case rel=>exact⟨(wrap64 (j+1)),(by first|rfl|(simp;done)|(simp[*];done)),H',⟨by have:=b5.out;have:=ch.out;omega⟩,⟨Kd.Rz I.out⟩,⟨Kd.Nz z.out⟩,⟨Kd.Rz J.out⟩,⟨Kd.Nz D.out⟩,⟨bz⟩⟩
            ·rw[if_neg cd] at H
             have d8:((rd L j) == (rd M j))=false:=beq_eq_false_iff_ne.mpr cd;have d9:((rd L j) != (rd M j))=true:=bne_iff_ne.mpr cd
             by_cases ci:(rd L j)<(rd M j)
             ·rw[if_pos ci] at H
              have ea:decide ((rd L j)<(rd M j))=true:=decide_eq_true ci;clear ci;obtain rfl:=Option.some.inj H
              try go_wp2
              replace I:=Sd.mk (Kd.R_drew I.out);replace z:=Sd.mk (Kd.N_drew z.out);replace J:=Sd.mk (Kd.R_drew J.out);replace D:=Sd.mk (Kd.N_drew D.out);replace HB:=Sd.mk (below_drew1 HB.out);obtain⟨fk,fl,dn⟩:=Kd.N_slice z.out
              (first|subst dn|(injection dn with X ah Y;have ai:=X.symm;have aj:=Y.symm;clear X ah Y;subst ai;subst aj))
              have ao:0≤(j:Int):=dz;have ap:j<(Z.length:Int):=dz;obtain⟨bl,au,av,bo,ab,ak,al⟩:=at_L2 (Kd.N_reads' z.out).2.2 j ao ap;cases bo;obtain⟨ck,a7,a8,aw⟩:=Kd.N_get z.out [] j ao (by first|exact ap|exact dz|(have e_:=(Kd.N_reads' z.out).1;omega));obtain⟨b1,b2,rfl,ac,ad⟩:=Kd.FK_slice_open a8;have O:=aw 0 _ rfl;rw[Nat.add_zero,show ((Kd.slice 3 (Kd.int .i64))).sz=1 from rfl,Nat.mul_one] at O;replace O:=Option.some.inj (O.symm.trans ab)
              injection O with hva_ hvn_ hvc_
              rw[hva_] at ad;rw[hvc_] at ac;have E:=Sd.mk (show Kd.V (Kd.int .i64) 3 _ w.heap.size _ _ (rd_L2 Z j) from Kd.V_mk ac ad);clear hva_ hvn_ hvc_ ad ac;clear aw a7;have m:=Sd.mk al;have a3:=Sd.mk ak;clear al ak;replace ao:=eq_true ao;replace ap:=eq_true ap;obtain⟨fm,fn,dp⟩:=Kd.N_slice D.out
              (first|subst dp|(injection dp with X ah Y;have ai:=X.symm;have aj:=Y.symm;clear X ah Y;subst ai;subst aj))
              have aq:0≤(j:Int):=dz;have ar:j<(aa.length:Int):=dz;obtain⟨bm,ax,ay,bp,ae,am,an⟩:=at_L2 (Kd.N_reads' D.out).2.2 j aq ar;cases bp;obtain⟨cl,a9,ba,a0⟩:=Kd.N_get D.out [] j aq (by first|exact ar|exact dz|(have e_:=(Kd.N_reads' D.out).1;omega));obtain⟨b3,b4,rfl,af,ag⟩:=Kd.FK_slice_open ba;have U:=a0 0 _ rfl;rw[Nat.add_zero,show ((Kd.slice 3 (Kd.int .i64))).sz=1 from rfl,Nat.mul_one] at U;replace U:=Option.some.inj (U.symm.trans ae)
              injection U with hva_ hvn_ hvc_
              rw[hva_] at ag;rw[hvc_] at af;have G:=Sd.mk (show Kd.V (Kd.int .i64) 3 _ w.heap.size _ _ (rd_L2 aa j) from Kd.V_mk af ag);clear hva_ hvn_ hvc_ ag af;clear a0 a9;have o:=Sd.mk an;have a4:=Sd.mk am;clear an am;replace aq:=eq_true aq;replace ar:=eq_true ar;refine start_ (n:=10) (S:=fun w'=>w'.cell? (bl.add (j).toNat)=some (.slice au (rd_L2 Z j).length av)∧w'.cell? (bm.add (j).toNat)=some (.slice ax (rd_L2 aa j).length ay)) (ds:=[]) #[F,F,F,F,F,F,F,F,F,F] (by kernel_rfl) rfl rfl ⟨ab,ae⟩ (fun hHeld=>?_);refine with_tabW spec_l1Compare.tab6 spec_l1Compare.bits6 (fun HT_ HW_=>?_)
              generalize wc.drew=go at I z J D HB E G m o ab ae hHeld ⊢
              refine qs 0 33 HT_.out ?_;refine qs 1 34 HT_.out ?_;refine qs 2 35 HT_.out ?_;refine qs 4 37 HT_.out ?_;refine qs 5 38 HT_.out ?_;refine qs 6 39 HT_.out ?_;refine tk 3 36 HT_.out HW_.out hHeld rfl rfl (by rintro w' ⟨s0,s1⟩;go_simp;with_reducible rfl) ?_;refine tk 7 40 HT_.out HW_.out hHeld rfl rfl (by rintro w' ⟨s0,s1⟩;go_simp;with_reducible rfl) ?_;refine on 8 41 HT_.out (fun K hK=>?_);refine goes_ Try.func53 (by kernel_rfl) rfl #[.slice au (rd_L2 Z j).length av,.slice ax (rd_L2 aa j).length ay] (by rfl) rfl rfl az ?_
              with_reducible refine(ih cp (by have:=b5.out;have:=ch.out;omega) _ _ (rd_L2 Z j) _ _ (rd_L2 aa j) bk _ ?side1 ?side2 ?side3 ?side4 cz.out).mono ?_
              (case side1=>exact(Kd.Cz m.out))
              (case side2=>exact a3.out)
              (case side3=>exact(Kd.Cz o.out))
              (case side4=>exact a4.out)
              rintro e ew ⟨rfl,hb⟩;have bq:=cg hb hHeld.1;have br:=cg hb hHeld.2;refine⟨_,rfl,?_⟩;replace I:=Sd.mk (Kd.R_below (Kd.Rz I.out) hb);replace z:=Sd.mk (Kd.N_below (Kd.Nz z.out) hb);replace J:=Sd.mk (Kd.R_below (Kd.Rz J.out) hb);replace D:=Sd.mk (Kd.N_below (Kd.Nz D.out) hb);replace E:=Sd.mk (Kd.V_below (Kd.Vz E.out) hb);replace G:=Sd.mk (Kd.V_below (Kd.Vz G.out) hb);replace m:=Sd.mk (Kd.C_below (Kd.Cz m.out) hb);replace o:=Sd.mk (Kd.C_below (Kd.Cz o.out) hb);replace HB:=Sd.mk (below_step bz hb);refine hK.out _ _ ⟨bq,br⟩ (fun hHeld=>?_);clear hK K;refine nm (some 41) ?_;refine qs 9 10 HT_.out ?_;refine done_ (done_of HT_.out (by kernel_rfl)) ?_
              try go_wp2
              replace I:=Sd.mk (Kd.R_drew I.out);replace z:=Sd.mk (Kd.N_drew z.out);replace J:=Sd.mk (Kd.R_drew J.out);replace D:=Sd.mk (Kd.N_drew D.out);replace E:=Sd.mk (Kd.V_drew E.out);replace G:=Sd.mk (Kd.V_drew G.out);replace m:=Sd.mk (Kd.C_drew m.out);replace o:=Sd.mk (Kd.C_drew o.out);replace HB:=Sd.mk (below_drew1 HB.out);obtain⟨fo,fp,dq⟩:=Kd.R_slice I.out
              (first|subst dq|(injection dq with X ah Y;have ai:=X.symm;have aj:=Y.symm;clear X ah Y;subst ai;subst aj))
              have bb:0≤(j:Int):=dz;have bc:j<(L.length:Int):=dz;obtain⟨a5,ce,a1⟩:=Kd.at_int (Kd.R_reads' I.out).2.2 j bb bc;cases ce;replace bb:=eq_true bb;replace bc:=eq_true bc;obtain⟨fq,fr,dr⟩:=Kd.R_slice J.out
              (first|subst dr|(injection dr with X ah Y;have ai:=X.symm;have aj:=Y.symm;clear X ah Y;subst ai;subst aj))
              have bd:0≤(j:Int):=dz;have be:j<(M.length:Int):=dz;obtain⟨a6,cf,a2⟩:=Kd.at_int (Kd.R_reads' J.out).2.2 j bd be;cases cf;replace bd:=eq_true bd;replace be:=eq_true be;refine start_ (n:=9) (S:=fun w'=>w'.cell? (a5.add (j).toNat)=some (.int .i64 (rd L j))∧w'.cell? (a6.add (j).toNat)=some (.int .i64 (rd M j))) (ds:=[]) #[F,F,F,F,F,F,F,F,F] (by kernel_rfl) rfl rfl ⟨a1,a2⟩ (fun hHeld=>?_);refine with_tabW spec_l1Compare.tab9 spec_l1Compare.bits9 (fun HT_ HW_=>?_)
              generalize ew.drew=ex at I z J D E G m o HB a1 a2 hHeld ⊢
              refine qs 0 45 HT_.out ?_;refine qs 1 46 HT_.out ?_;refine qs 2 47 HT_.out ?_;refine qs 4 49 HT_.out ?_;refine qs 5 50 HT_.out ?_;refine qs 6 51 HT_.out ?_;refine tk 3 48 HT_.out HW_.out hHeld rfl rfl (by rintro w' ⟨s0,s1⟩;go_simp;with_reducible rfl) ?_;refine tk 7 52 HT_.out HW_.out hHeld rfl rfl (by rintro w' ⟨s0,s1⟩;go_simp;with_reducible rfl) ?_;refine qs 8 53 HT_.out ?_;refine done_ (done_of HT_.out (by kernel_rfl)) ?_
              try go_wp2
              replace I:=Sd.mk (Kd.R_drew I.out);replace z:=Sd.mk (Kd.N_drew z.out);replace J:=Sd.mk (Kd.R_drew J.out);replace D:=Sd.mk (Kd.N_drew D.out);replace E:=Sd.mk (Kd.V_drew E.out);replace G:=Sd.mk (Kd.V_drew G.out);replace m:=Sd.mk (Kd.C_drew m.out);replace o:=Sd.mk (Kd.C_drew o.out);replace HB:=Sd.mk (below_drew1 HB.out);have bt:0≤(j:Int):=dz;have bu:j<(L.length:Int):=dz;obtain⟨cm,cr,bg⟩:=Kd.at_int (Kd.R_reads' I.out).2.2 j bt bu;obtain rfl:a5=cm:=(by injection cr);replace bt:=eq_true bt;replace bu:=eq_true bu;have bv:0≤(j:Int):=dz;have bw:j<(M.length:Int):=dz;obtain⟨cn,cs,bh⟩:=Kd.at_int (Kd.R_reads' J.out).2.2 j bv bw;obtain rfl:a6=cn:=(by injection cs);replace bv:=eq_true bv;replace bw:=eq_true bw;refine start_ (n:=9) (S:=fun w'=>w'.cell? (a5.add (j).toNat)=some (.int .i64 (rd L j))∧w'.cell? (a6.add (j).toNat)=some (.int .i64 (rd M j))) (ds:=[]) #[F,F,F,F,F,F,F,F,F] (by kernel_rfl) rfl rfl ⟨bg,bh⟩ (fun hHeld=>?_);refine with_tabW spec_l1Compare.tab10 spec_l1Compare.bits10 (fun HT_ HW_=>?_)
              generalize ex.drew=gp at I z J D E G m o HB bg bh hHeld ⊢
              refine qs 0 54 HT_.out ?_;refine qs 1 55 HT_.out ?_;refine qs 2 56 HT_.out ?_;refine qs 4 58 HT_.out ?_;refine qs 5 59 HT_.out ?_;refine qs 6 60 HT_.out ?_;refine tk 3 57 HT_.out HW_.out hHeld rfl rfl (by rintro w' ⟨s0,s1⟩;go_simp;with_reducible rfl) ?_;refine tk 7 61 HT_.out HW_.out hHeld rfl rfl (by rintro w' ⟨s0,s1⟩;go_simp;with_reducible rfl) ?_;refine qs 8 62 HT_.out ?_;refine done_ (done_of HT_.out (by kernel_rfl)) ?_
              try go_wp2
              go_ret;exact⟨by first|rfl|(simp[errW_none,errW_some]<;>rfl)|(simp[*,errW_none,errW_some]<;>rfl),bz⟩
             ·rw[if_neg ci] at H
              have ea:decide ((rd L j)<(rd M j))=false:=decide_eq_false ci;clear ci;obtain rfl:=Option.some.inj H
              try go_wp2
              replace I:=Sd.mk (Kd.R_drew I.out);replace z:=Sd.mk (Kd.N_drew z.out);replace J:=Sd.mk (Kd.R_drew J.out);replace D:=Sd.mk (Kd.N_drew D.out);replace HB:=Sd.mk (below_drew1 HB.out);obtain⟨fs,fu,dt⟩:=Kd.N_slice z.out
              (first|subst dt|(injection dt with X ah Y;have ai:=X.symm;have aj:=Y.symm;clear X ah Y;subst ai;subst aj))
              have ao:0≤(j:Int):=dz;have ap:j<(Z.length:Int):=dz;obtain⟨bl,au,av,bo,ab,ak,al⟩:=at_L2 (Kd.N_reads' z.out).2.2 j ao ap;cases bo;obtain⟨ck,a7,a8,aw⟩:=Kd.N_get z.out [] j ao (by first|exact ap|exact dz|(have e_:=(Kd.N_reads' z.out).1;omega));obtain⟨b1,b2,rfl,ac,ad⟩:=Kd.FK_slice_open a8;have O:=aw 0 _ rfl;rw[Nat.add_zero,show ((Kd.slice 3 (Kd.int .i64))).sz=1 from rfl,Nat.mul_one] at O;replace O:=Option.some.inj (O.symm.trans ab)
              injection O with hva_ hvn_ hvc_
              rw[hva_] at ad;rw[hvc_] at ac;have E:=Sd.mk (show Kd.V (Kd.int .i64) 3 _ w.heap.size _ _ (rd_L2 Z j) from Kd.V_mk ac ad);clear hva_ hvn_ hvc_ ad ac;clear aw a7;have m:=Sd.mk al;have a3:=Sd.mk ak;clear al ak;replace ao:=eq_true ao;replace ap:=eq_true ap;obtain⟨fv,fw,du⟩:=Kd.N_slice D.out
              (first|subst du|(injection du with X ah Y;have ai:=X.symm;have aj:=Y.symm;clear X ah Y;subst ai;subst aj))
              have aq:0≤(j:Int):=dz;have ar:j<(aa.length:Int):=dz;obtain⟨bm,ax,ay,bp,ae,am,an⟩:=at_L2 (Kd.N_reads' D.out).2.2 j aq ar;cases bp;obtain⟨cl,a9,ba,a0⟩:=Kd.N_get D.out [] j aq (by first|exact ar|exact dz|(have e_:=(Kd.N_reads' D.out).1;omega));obtain⟨b3,b4,rfl,af,ag⟩:=Kd.FK_slice_open ba;have U:=a0 0 _ rfl;rw[Nat.add_zero,show ((Kd.slice 3 (Kd.int .i64))).sz=1 from rfl,Nat.mul_one] at U;replace U:=Option.some.inj (U.symm.trans ae)
              injection U with hva_ hvn_ hvc_
              rw[hva_] at ag;rw[hvc_] at af;have G:=Sd.mk (show Kd.V (Kd.int .i64) 3 _ w.heap.size _ _ (rd_L2 aa j) from Kd.V_mk af ag);clear hva_ hvn_ hvc_ ag af;clear a0 a9;have o:=Sd.mk an;have a4:=Sd.mk am;clear an am;replace aq:=eq_true aq;replace ar:=eq_true ar;refine start_ (n:=10) (S:=fun w'=>w'.cell? (bl.add (j).toNat)=some (.slice au (rd_L2 Z j).length av)∧w'.cell? (bm.add (j).toNat)=some (.slice ax (rd_L2 aa j).length ay)) (ds:=[]) #[F,F,F,F,F,F,F,F,F,F] (by kernel_rfl) rfl rfl ⟨ab,ae⟩ (fun hHeld=>?_);refine with_tabW spec_l1Compare.tab6 spec_l1Compare.bits6 (fun HT_ HW_=>?_)
              generalize wc.drew=gq at I z J D HB E G m o ab ae hHeld ⊢
              refine qs 0 33 HT_.out ?_;refine qs 1 34 HT_.out ?_;refine qs 2 35 HT_.out ?_;refine qs 4 37 HT_.out ?_;refine qs 5 38 HT_.out ?_;refine qs 6 39 HT_.out ?_;refine tk 3 36 HT_.out HW_.out hHeld rfl rfl (by rintro w' ⟨s0,s1⟩;go_simp;with_reducible rfl) ?_;refine tk 7 40 HT_.out HW_.out hHeld rfl rfl (by rintro w' ⟨s0,s1⟩;go_simp;with_reducible rfl) ?_;refine on 8 41 HT_.out (fun K hK=>?_);refine goes_ Try.func53 (by kernel_rfl) rfl #[.slice au (rd_L2 Z j).length av,.slice ax (rd_L2 aa j).length ay] (by rfl) rfl rfl az ?_
              with_reducible refine(ih cp (by have:=b5.out;have:=ch.out;omega) _ _ (rd_L2 Z j) _ _ (rd_L2 aa j) bk _ ?side1 ?side2 ?side3 ?side4 cz.out).mono ?_
              (case side1=>exact(Kd.Cz m.out))
              (case side2=>exact a3.out)
              (case side3=>exact(Kd.Cz o.out))
              (case side4=>exact a4.out)
              rintro e ey ⟨rfl,hb⟩;have bq:=cg hb hHeld.1;have br:=cg hb hHeld.2;refine⟨_,rfl,?_⟩;replace I:=Sd.mk (Kd.R_below (Kd.Rz I.out) hb);replace z:=Sd.mk (Kd.N_below (Kd.Nz z.out) hb);replace J:=Sd.mk (Kd.R_below (Kd.Rz J.out) hb);replace D:=Sd.mk (Kd.N_below (Kd.Nz D.out) hb);replace E:=Sd.mk (Kd.V_below (Kd.Vz E.out) hb);replace G:=Sd.mk (Kd.V_below (Kd.Vz G.out) hb);replace m:=Sd.mk (Kd.C_below (Kd.Cz m.out) hb);replace o:=Sd.mk (Kd.C_below (Kd.Cz o.out) hb);replace HB:=Sd.mk (below_step bz hb);refine hK.out _ _ ⟨bq,br⟩ (fun hHeld=>?_);clear hK K;refine nm (some 41) ?_;refine qs 9 10 HT_.out ?_;refine done_ (done_of HT_.out (by kernel_rfl)) ?_
              try go_wp2
              replace I:=Sd.mk (Kd.R_drew I.out);replace z:=Sd.mk (Kd.N_drew z.out);replace J:=Sd.mk (Kd.R_drew J.out);replace D:=Sd.mk (Kd.N_drew D.out);replace E:=Sd.mk (Kd.V_drew E.out);replace G:=Sd.mk (Kd.V_drew G.out);replace m:=Sd.mk (Kd.C_drew m.out);replace o:=Sd.mk (Kd.C_drew o.out);replace HB:=Sd.mk (below_drew1 HB.out);obtain⟨fx,fy,dv⟩:=Kd.R_slice I.out
              (first|subst dv|(injection dv with X ah Y;have ai:=X.symm;have aj:=Y.symm;clear X ah Y;subst ai;subst aj))
              have bb:0≤(j:Int):=dz;have bc:j<(L.length:Int):=dz;obtain⟨a5,ce,a1⟩:=Kd.at_int (Kd.R_reads' I.out).2.2 j bb bc;cases ce;replace bb:=eq_true bb;replace bc:=eq_true bc;obtain⟨fz,f0,dw⟩:=Kd.R_slice J.out
              (first|subst dw|(injection dw with X ah Y;have ai:=X.symm;have aj:=Y.symm;clear X ah Y;subst ai;subst aj))
              have bd:0≤(j:Int):=dz;have be:j<(M.length:Int):=dz;obtain⟨a6,cf,a2⟩:=Kd.at_int (Kd.R_reads' J.out).2.2 j bd be;cases cf;replace bd:=eq_true bd;replace be:=eq_true be;refine start_ (n:=9) (S:=fun w'=>w'.cell? (a5.add (j).toNat)=some (.int .i64 (rd L j))∧w'.cell? (a6.add (j).toNat)=some (.int .i64 (rd M j))) (ds:=[]) #[F,F,F,F,F,F,F,F,F] (by kernel_rfl) rfl rfl ⟨a1,a2⟩ (fun hHeld=>?_);refine with_tabW spec_l1Compare.tab9 spec_l1Compare.bits9 (fun HT_ HW_=>?_)
              generalize ey.drew=ez at I z J D E G m o HB a1 a2 hHeld ⊢
              refine qs 0 45 HT_.out ?_;refine qs 1 46 HT_.out ?_;refine qs 2 47 HT_.out ?_;refine qs 4 49 HT_.out ?_;refine qs 5 50 HT_.out ?_;refine qs 6 51 HT_.out ?_;refine tk 3 48 HT_.out HW_.out hHeld rfl rfl (by rintro w' ⟨s0,s1⟩;go_simp;with_reducible rfl) ?_;refine tk 7 52 HT_.out HW_.out hHeld rfl rfl (by rintro w' ⟨s0,s1⟩;go_simp;with_reducible rfl) ?_;refine qs 8 53 HT_.out ?_;refine done_ (done_of HT_.out (by kernel_rfl)) ?_
              try go_wp2
              replace I:=Sd.mk (Kd.R_drew I.out);replace z:=Sd.mk (Kd.N_drew z.out);replace J:=Sd.mk (Kd.R_drew J.out);replace D:=Sd.mk (Kd.N_drew D.out);replace E:=Sd.mk (Kd.V_drew E.out);replace G:=Sd.mk (Kd.V_drew G.out);replace m:=Sd.mk (Kd.C_drew m.out);replace o:=Sd.mk (Kd.C_drew o.out);replace HB:=Sd.mk (below_drew1 HB.out);have bt:0≤(j:Int):=dz;have bu:j<(L.length:Int):=dz;obtain⟨cm,cr,bg⟩:=Kd.at_int (Kd.R_reads' I.out).2.2 j bt bu;obtain rfl:a5=cm:=(by injection cr);replace bt:=eq_true bt;replace bu:=eq_true bu;have bv:0≤(j:Int):=dz;have bw:j<(M.length:Int):=dz;obtain⟨cn,cs,bh⟩:=Kd.at_int (Kd.R_reads' J.out).2.2 j bv bw;obtain rfl:a6=cn:=(by injection cs);replace bv:=eq_true bv;replace bw:=eq_true bw;refine start_ (n:=9) (S:=fun w'=>w'.cell? (a5.add (j).toNat)=some (.int .i64 (rd L j))∧w'.cell? (a6.add (j).toNat)=some (.int .i64 (rd M j))) (ds:=[]) #[F,F,F,F,F,F,F,F,F] (by kernel_rfl) rfl rfl ⟨bg,bh⟩ (fun hHeld=>?_);refine with_tabW spec_l1Compare.tab10 spec_l1Compare.bits10 (fun HT_ HW_=>?_)
              generalize ez.drew=gr at I z J D E G m o HB bg bh hHeld ⊢
              refine qs 0 54 HT_.out ?_;refine qs 1 55 HT_.out ?_;refine qs 2 56 HT_.out ?_;refine qs 4 58 HT_.out ?_;refine qs 5 59 HT_.out ?_;refine qs 6 60 HT_.out ?_;refine tk 3 57 HT_.out HW_.out hHeld rfl rfl (by rintro w' ⟨s0,s1⟩;go_simp;with_reducible rfl) ?_;refine tk 7 61 HT_.out HW_.out hHeld rfl rfl (by rintro w' ⟨s0,s1⟩;go_simp;with_reducible rfl) ?_;refine qs 8 62 HT_.out ?_;refine done_ (done_of HT_.out (by kernel_rfl)) ?_
              try go_wp2
              go_ret;exact⟨by first|rfl|(simp[errW_none,errW_some]<;>rfl)|(simp[*,errW_none,errW_some]<;>rfl),bz⟩
           ·rw[if_neg db] at H
            exact absurd H (by simp)
          ·rw[if_neg da] at H
           exact absurd H (by simp)
         ·rw[if_neg cc] at H
          have d6:(bk == 0)=false:=beq_eq_false_iff_ne.mpr cc;have d7:(bk != 0)=true:=bne_iff_ne.mpr cc;obtain rfl:=Option.some.inj H
          try go_wp2
          replace I:=Sd.mk (Kd.R_drew I.out);replace z:=Sd.mk (Kd.N_drew z.out);replace J:=Sd.mk (Kd.R_drew J.out);replace D:=Sd.mk (Kd.N_drew D.out);replace HB:=Sd.mk (below_drew1 HB.out);obtain⟨f1,f2,dx⟩:=Kd.N_slice z.out
          (first|subst dx|(injection dx with X ah Y;have ai:=X.symm;have aj:=Y.symm;clear X ah Y;subst ai;subst aj))
          have ao:0≤(j:Int):=dz;have ap:j<(Z.length:Int):=dz;obtain⟨bl,au,av,bo,ab,ak,al⟩:=at_L2 (Kd.N_reads' z.out).2.2 j ao ap;cases bo;obtain⟨ck,a7,a8,aw⟩:=Kd.N_get z.out [] j ao (by first|exact ap|exact dz|(have e_:=(Kd.N_reads' z.out).1;omega));obtain⟨b1,b2,rfl,ac,ad⟩:=Kd.FK_slice_open a8;have O:=aw 0 _ rfl;rw[Nat.add_zero,show ((Kd.slice 3 (Kd.int .i64))).sz=1 from rfl,Nat.mul_one] at O;replace O:=Option.some.inj (O.symm.trans ab)
          injection O with hva_ hvn_ hvc_
          rw[hva_] at ad;rw[hvc_] at ac;have E:=Sd.mk (show Kd.V (Kd.int .i64) 3 _ w.heap.size _ _ (rd_L2 Z j) from Kd.V_mk ac ad);clear hva_ hvn_ hvc_ ad ac;clear aw a7;have m:=Sd.mk al;have a3:=Sd.mk ak;clear al ak;replace ao:=eq_true ao;replace ap:=eq_true ap;obtain⟨f3,f4,dy⟩:=Kd.N_slice D.out
          (first|subst dy|(injection dy with X ah Y;have ai:=X.symm;have aj:=Y.symm;clear X ah Y;subst ai;subst aj))
          have aq:0≤(j:Int):=dz;have ar:j<(aa.length:Int):=dz;obtain⟨bm,ax,ay,bp,ae,am,an⟩:=at_L2 (Kd.N_reads' D.out).2.2 j aq ar;cases bp;obtain⟨cl,a9,ba,a0⟩:=Kd.N_get D.out [] j aq (by first|exact ar|exact dz|(have e_:=(Kd.N_reads' D.out).1;omega));obtain⟨b3,b4,rfl,af,ag⟩:=Kd.FK_slice_open ba;have U:=a0 0 _ rfl;rw[Nat.add_zero,show ((Kd.slice 3 (Kd.int .i64))).sz=1 from rfl,Nat.mul_one] at U;replace U:=Option.some.inj (U.symm.trans ae)
          injection U with hva_ hvn_ hvc_
          rw[hva_] at ag;rw[hvc_] at af;have G:=Sd.mk (show Kd.V (Kd.int .i64) 3 _ w.heap.size _ _ (rd_L2 aa j) from Kd.V_mk af ag);clear hva_ hvn_ hvc_ ag af;clear a0 a9;have o:=Sd.mk an;have a4:=Sd.mk am;clear an am;replace aq:=eq_true aq;replace ar:=eq_true ar;refine start_ (n:=10) (S:=fun w'=>w'.cell? (bl.add (j).toNat)=some (.slice au (rd_L2 Z j).length av)∧w'.cell? (bm.add (j).toNat)=some (.slice ax (rd_L2 aa j).length ay)) (ds:=[]) #[F,F,F,F,F,F,F,F,F,F] (by kernel_rfl) rfl rfl ⟨ab,ae⟩ (fun hHeld=>?_);refine with_tabW spec_l1Compare.tab6 spec_l1Compare.bits6 (fun HT_ HW_=>?_)
          generalize wc.drew=gs at I z J D HB E G m o ab ae hHeld ⊢
          refine qs 0 33 HT_.out ?_;refine qs 1 34 HT_.out ?_;refine qs 2 35 HT_.out ?_;refine qs 4 37 HT_.out ?_;refine qs 5 38 HT_.out ?_;refine qs 6 39 HT_.out ?_;refine tk 3 36 HT_.out HW_.out hHeld rfl rfl (by rintro w' ⟨s0,s1⟩;go_simp;with_reducible rfl) ?_;refine tk 7 40 HT_.out HW_.out hHeld rfl rfl (by rintro w' ⟨s0,s1⟩;go_simp;with_reducible rfl) ?_;refine on 8 41 HT_.out (fun K hK=>?_);refine goes_ Try.func53 (by kernel_rfl) rfl #[.slice au (rd_L2 Z j).length av,.slice ax (rd_L2 aa j).length ay] (by rfl) rfl rfl az ?_
          with_reducible refine(ih cp (by have:=b5.out;have:=ch.out;omega) _ _ (rd_L2 Z j) _ _ (rd_L2 aa j) bk _ ?side1 ?side2 ?side3 ?side4 cz.out).mono ?_
          (case side1=>exact(Kd.Cz m.out))
          (case side2=>exact a3.out)
          (case side3=>exact(Kd.Cz o.out))
          (case side4=>exact a4.out)
          rintro e gt ⟨rfl,hb⟩;have bq:=cg hb hHeld.1;have br:=cg hb hHeld.2;refine⟨_,rfl,?_⟩;replace I:=Sd.mk (Kd.R_below (Kd.Rz I.out) hb);replace z:=Sd.mk (Kd.N_below (Kd.Nz z.out) hb);replace J:=Sd.mk (Kd.R_below (Kd.Rz J.out) hb);replace D:=Sd.mk (Kd.N_below (Kd.Nz D.out) hb);replace E:=Sd.mk (Kd.V_below (Kd.Vz E.out) hb);replace G:=Sd.mk (Kd.V_below (Kd.Vz G.out) hb);replace m:=Sd.mk (Kd.C_below (Kd.Cz m.out) hb);replace o:=Sd.mk (Kd.C_below (Kd.Cz o.out) hb);replace HB:=Sd.mk (below_step bz hb);refine hK.out _ _ ⟨bq,br⟩ (fun hHeld=>?_);clear hK K;refine nm (some 41) ?_;refine qs 9 10 HT_.out ?_;refine done_ (done_of HT_.out (by kernel_rfl)) ?_
          try go_wp2
          go_ret;exact⟨by first|rfl|(simp[errW_none,errW_some]<;>rfl)|(simp[*,errW_none,errW_some]<;>rfl),bz⟩
        ·rw[if_neg cy] at H
         exact absurd H (by simp)
       ·rw[if_neg cx] at H
        exact absurd H (by simp)
      ·rw[if_neg cw] at H
       exact absurd H (by simp)
     ·replace cv:=Bool.eq_false_iff.mpr cv
      subst cv;replace H:=ng ft H
      by_cases b6:(L.length:Int)<(M.length:Int)
      ·rw[if_pos b6] at H
       have eb:decide ((L.length:Int)<(M.length:Int))=true:=decide_eq_true b6;have ec:decide (L.length<M.length)=true:=decide_eq_true (Int.ofNat_lt.mp b6);clear b6;obtain rfl:=Option.some.inj H;obtain⟨f5,f6,ej⟩:=Kd.R_slice I.out;subst ej;obtain⟨f7,f8,ek⟩:=Kd.R_slice J.out;subst ek;go_wp2;go_ret;exact⟨by first|rfl|(simp[errW_none,errW_some]<;>rfl)|(simp[*,errW_none,errW_some]<;>rfl),bz⟩
      ·rw[if_neg b6] at H
       have eb:decide ((L.length:Int)<(M.length:Int))=false:=decide_eq_false b6;have ec:decide (L.length<M.length)=false:=decide_eq_false (fun h=>b6 (Int.ofNat_lt.mpr h));clear b6
       by_cases b7:(L.length:Int)>(M.length:Int)
       ·rw[if_pos b7] at H
        have ed:decide ((M.length:Int)<(L.length:Int))=true:=decide_eq_true b7;have ee:decide (M.length<L.length)=true:=decide_eq_true (Int.ofNat_lt.mp b7);clear b7;obtain rfl:=Option.some.inj H;obtain⟨f9,ga,el⟩:=Kd.R_slice I.out;subst el;obtain⟨gb,gc,em⟩:=Kd.R_slice J.out;subst em;go_wp2;go_ret;exact⟨by first|rfl|(simp[errW_none,errW_some]<;>rfl)|(simp[*,errW_none,errW_some]<;>rfl),bz⟩
       ·rw[if_neg b7] at H
        have ed:decide ((M.length:Int)<(L.length:Int))=false:=decide_eq_false b7;have ee:decide (M.length<L.length)=false:=decide_eq_false (fun h=>b7 (Int.ofNat_lt.mpr h));clear b7;obtain rfl:=Option.some.inj H;obtain⟨gf,gg,en⟩:=Kd.R_slice I.out;subst en;obtain⟨gh,gi,eo⟩:=Kd.R_slice J.out;subst eo;go_wp2;go_ret;exact⟨by first|rfl|(simp[errW_none,errW_some]<;>rfl)|(simp[*,errW_none,errW_some]<;>rfl),bz⟩
end Go.Proofs.Ytfblcanijhnhmaa.P