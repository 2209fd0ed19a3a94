/- One Go function comes to what its Lean function tells. -/
import Derived.Test.YtbdbldhpglponaaDoorP0
import Derived.Test.YtbdbldhpglponaaDoorPspecl1Terms
namespace Go.Proofs.YtbdbldhpglponaaDoor.P
open Go.RowKit YtbdbldhpglponaaDoorW.PrintWords YtbdbldhpglponaaDoorW.PrintLast YtbdbldhpglponaaDoorW.PrintMore
set_option linter.unusedVariables false
set_option linter.unusedSimpArgs false
/-! ### spec_l1Compare: function 56 -/
mutual
def spec_l1Compare.l0:Nat→List Int→List (List Int)→List Int→List (List Int)→Int→Option (Int)
 | 0,_,_,_,_,_=>none
 | k+1,x5,x6,x7,x8,x9=>if x9<(x5.length:Int) then(spec_l1Compare.j1 k x5 x6 x7 x8 x9 (decide (x9<(x7.length:Int)))) else(spec_l1Compare.j1 k x5 x6 x7 x8 x9 false)
def spec_l1Compare.j1:Nat→List Int→List (List Int)→List Int→List (List Int)→Int→Bool→Option (Int)
 | 0,_,_,_,_,_,_=>none
 | k+1,x5,x6,x7,x8,x9,x30=>if x30=true then(if 0≤x9 then(if x9<(x6.length:Int) then(if x9<(x8.length:Int) then((spec_l1Compare.f k (rd_L1 x6 x9) (rd_L1 x8 x9)).bind fun t136=>(if t136=0 then(if x9<(x5.length:Int) then(if x9<(x7.length:Int) then(if(rd x5 x9)=(rd x7 x9) then(spec_l1Compare.l0 k x5 x6 x7 x8 (wrap64 (x9+1))) else(if(rd x5 x9)<(rd x7 x9) then(some (-1)) else(some 1))) else(none)) else(none)) else(some t136))) else(none)) else(none)) else(none)) else(if(x5.length:Int)<(x7.length:Int) then(some (-1)) else(if(x5.length:Int)>(x7.length:Int) then(some 1) else(some 0)))
def spec_l1Compare.f:Nat→List Int→List Int→Option (Int)
 | 0,_,_=>none
 | k+1,l0,l1=>(spec_l1Terms.f k l0).bind fun bt122=>((spec_l1Terms.f k l1).bind fun bt128=>(spec_l1Compare.l0 k bt122.1 bt122.2 bt128.1 bt128.2 0))
end
def spec_l1Compare.T6:Bool × List (List Nat × List Nat):=(true,[([],[]),([],[]),([0,1],[0,1]),([2],[2]),([],[]),([],[]),([4,5],[4,5]),([6],[6]),([3,7],[3,7]),([8,8,0,1,2,3,4,5,6,7,8],[8])])
def spec_l1Compare.B6:List Nat:=[0,0,3,7,0,0,48,112,255,511]
theorem spec_l1Compare.tab6:rtab .any (opsOf Tryd.f56 6)=spec_l1Compare.T6:=by kernel_rfl
theorem spec_l1Compare.bits6:waitsOk spec_l1Compare.T6.2 spec_l1Compare.B6=true:=by kernel_rfl
def spec_l1Compare.T9:Bool × List (List Nat × List Nat):=(true,[([],[]),([],[]),([0,1],[0,1]),([2],[2]),([],[]),([],[]),([4,5],[4,5]),([6],[6]),([3,7],[3,7])])
def spec_l1Compare.B9:List Nat:=[0,0,3,7,0,0,48,112,255]
theorem spec_l1Compare.tab9:rtab .any (opsOf Tryd.f56 9)=spec_l1Compare.T9:=by kernel_rfl
theorem spec_l1Compare.bits9:waitsOk spec_l1Compare.T9.2 spec_l1Compare.B9=true:=by kernel_rfl
def spec_l1Compare.T10:Bool × List (List Nat × List Nat):=(true,[([],[]),([],[]),([0,1],[0,1]),([2],[2]),([],[]),([],[]),([4,5],[4,5]),([6],[6]),([3,7],[3,7])])
def spec_l1Compare.B10:List Nat:=[0,0,3,7,0,0,48,112,255]
theorem spec_l1Compare.tab10:rtab .any (opsOf Tryd.f56 10)=spec_l1Compare.T10:=by kernel_rfl
theorem spec_l1Compare.bits10:waitsOk spec_l1Compare.T10.2 spec_l1Compare.B10=true:=by kernel_rfl
set_option maxHeartbeats 8000000 in
set_option maxRecDepth 100000 in
theorem spec_l1Compare.calls (k:Nat):∀ (A0:Option Addr) (c0:Nat) (l0:List Int) (A1:Option Addr) (c1:Nat) (l1:List Int) (r:Int) (w:World) (dd:Kd.C (Kd.int .i64) w A0 l0.length l0) (de:l0.length≤c0) (df:Kd.C (Kd.int .i64) w A1 l1.length l1) (dg:l1.length≤c1) (h:spec_l1Compare.f k l0 l1=some r),
  Calls Tryd.prog 56 #[.slice A0 l0.length c0,.slice A1 l1.length c1] w fun e w'=>e=.returned (.int .i64 r)∧Below w.heap.size w w':=by
 induction k using Nat.strongRecOn with
 | _ k ih =>
 intro A0 c0 l0 A1 c1 l1 r w dd de df dg h
 cases k with
 | zero=>exact absurd h (by simp[spec_l1Compare.f])
 | succ k =>
 simp only[spec_l1Compare.f] at h;have eq:=Sd.mk dd;have er:=Sd.mk de;clear dd de;have es:=Sd.mk df;have et:=Sd.mk dg;clear df dg;have HB:=Sd.mk (Below.refl w.heap.size w);have H:((spec_l1Terms.f k l0).bind fun cu=>((spec_l1Terms.f k l1).bind fun b0=>(spec_l1Compare.l0 k cu.1 cu.2 b0.1 b0.2 0)))=some r:=h;clear h;replace H:=Option.bind_eq_some_iff.mp H;obtain⟨⟨L,Z⟩,eg,H⟩:=H;replace H:((spec_l1Terms.f k l1).bind fun b0=>(spec_l1Compare.l0 k L Z b0.1 b0.2 0))=some r:=H;have A3:=Sd.mk eg;clear eg;replace H:=Option.bind_eq_some_iff.mp H;obtain⟨⟨M,aa⟩,eh,H⟩:=H;replace H:(spec_l1Compare.l0 k L Z M aa 0)=some r:=H;have A4:=Sd.mk eh;clear eh;have H':=Sd.mk H;clear H;go_enter Tryd.func56,Tryd.ntmps56;go_wp2_with (first|((with_reducible refine gate_callee (f:=42) rfl ?_);refine goesL_ (some 13) rfl rfl Tryd.func42 (by kernel_rfl) rfl #[.slice A0 l0.length c0] rfl az ?_;(with_reducible refine(spec_l1Terms.calls k (fun k_=>k_<w.heap.size) _ _ l0 L Z _ ?side1 A3.out).mono ?_);(case side1=>exact Kd.V_mk er.out (Kd.F_below (Kd.C_F (Kd.heap_int .i64) eq.out) bz));rintro e w5 ⟨bf,ca,rfl,cp,cv,hb⟩;refine⟨_,rfl,?_⟩;have bn:=Sd.mk (Kd.R_lower (Kd.R_mono (ok':=fun k_=>True) cp (fun _ cb=>trivial)) (below_size bz));have b1:=Sd.mk (Kd.N_lower (Kd.N_mono (ok':=fun k_=>some k_≠(bf:Value).ownBlock) cv (fun k_ cb=>cb.2)) (below_size bz));replace HB:=Sd.mk (below_step bz hb))|((with_reducible refine gate_callee (f:=42) rfl ?_);refine goesL_ (some 18) rfl rfl Tryd.func42 (by kernel_rfl) rfl #[.slice A1 l1.length c1] rfl az ?_;(with_reducible refine(spec_l1Terms.calls k (fun k_=>k_<w.heap.size) _ _ l1 M aa _ ?side1 A4.out).mono ?_);(case side1=>exact Kd.V_mk et.out (Kd.F_below (Kd.C_F (Kd.heap_int .i64) es.out) bz));rintro e w6 ⟨bj,ck,rfl,cp,cv,hb⟩;refine⟨_,rfl,?_⟩;have d5:=Sd.mk (Kd.R_lower (Kd.R_new' (Kd.R_mono (ok':=fun k_=>True) cp (fun _ cb=>trivial)) (Kd.R_lt (Kd.Rz bn.out))) (below_size bz));have d6:=Sd.mk (Kd.N_lower (Kd.N_mono (ok':=fun k_=>some k_≠(bj:Value).ownBlock∧some k_≠(bf:Value).ownBlock∧some k_≠(ca:Value).ownBlock) cv (fun k_ cb=>⟨cb.2,Or.elim cb.1 (fun dh=>fun e_=>Nat.not_le.2 dh (Kd.R_base bn.out k_ e_.symm)) (fun di=>(Kd.fresh' (Kd.R_lt (Kd.Rz bn.out)) k_ di)),Or.elim cb.1 (fun dh=>fun e_=>Nat.not_le.2 dh (Kd.N_base b1.out k_ e_.symm)) (fun di=>(Kd.fresh' (Kd.N_lt (Kd.Nz b1.out)) k_ di))⟩)) (below_size bz));replace bn:=Sd.mk (Kd.R_elder' (Kd.Rz bn.out) (Kd.R_base cp) hb);replace b1:=Sd.mk (Kd.N_mono (Kd.N_told (Kd.N_told (Kd.N_old (Kd.Nz b1.out) hb) (Kd.R_base cp)) (Kd.N_base cv)) (fun _ h_=>h_.1));replace HB:=Sd.mk (below_step bz hb)))
 go_loopg [9] k (fun kq v9 w'=>∃ (j:Int),v9=.int .i64 j∧Sd (spec_l1Compare.l0 kq L Z M aa j=some r)∧Sd (kq≤k)∧Sd (Kd.R (Kd.int .i64) 3 w' w.heap.size (fun k_=>some k_≠(bj:Value).ownBlock) bf L)∧Sd (Kd.N (Kd.slice 3 (Kd.int .i64)) 22 w' w.heap.size (fun k_=>some k_≠(bf:Value).ownBlock∧some k_≠(bj:Value).ownBlock∧some k_≠(ck:Value).ownBlock) ca Z)∧Sd (Kd.R (Kd.int .i64) 3 w' w.heap.size (fun k_=>some k_≠(bf:Value).ownBlock) bj M)∧Sd (Kd.N (Kd.slice 3 (Kd.int .i64)) 22 w' w.heap.size (fun k_=>some k_≠(bf:Value).ownBlock∧some k_≠(ca:Value).ownBlock∧some k_≠(bj:Value).ownBlock) ck aa)∧Sd (Below w.heap.size w w'))
 case atStart=>exact⟨(0),(by first|rfl|(simp;done)|(simp[*];done)),H',⟨Nat.le_refl _⟩,⟨Kd.Rz <| Kd.R_mono bn.out (fun _ hk=>hk.2)⟩,⟨Kd.Nz <| Kd.N_mono b1.out (fun _ hk=>⟨hk.1.1,⟨hk.1.2,hk.2⟩⟩)⟩,⟨Kd.Rz <| Kd.R_mono d5.out (fun _ hk=>hk.2)⟩,⟨Kd.Nz <| Kd.N_mono d6.out (fun _ hk=>⟨hk.2.1,⟨hk.2.2,hk.1⟩⟩)⟩,⟨bz⟩⟩
 case round =>
  clear H';obtain⟨j,rfl,HA,b6,I,z,J,D,HB⟩:=hrel
  cases gk with
  | zero=>exact absurd HA.out (by simp[spec_l1Compare.l0])
  | succ k1 =>
   have H:=HA.out;clear HA;simp only[spec_l1Compare.l0] at H;have dj:=Sd.mk H;clear H
   go_upto_region 4 with (fail)
   go_cut [30] (fun eu wc=>∃ (kq:Nat) (b9:Bool),eu=.bool b9∧Sd (spec_l1Compare.j1 kq L Z M aa j b9=some r)∧Sd (kq≤k1)∧Sd (Kd.R (Kd.int .i64) 3 wc w.heap.size (fun k_=>some k_≠(bj:Value).ownBlock) bf L)∧Sd (Kd.N (Kd.slice 3 (Kd.int .i64)) 22 wc w.heap.size (fun k_=>some k_≠(bf:Value).ownBlock∧some k_≠(bj:Value).ownBlock∧some k_≠(ck:Value).ownBlock) ca Z)∧Sd (Kd.R (Kd.int .i64) 3 wc w.heap.size (fun k_=>some k_≠(bf:Value).ownBlock) bj M)∧Sd (Kd.N (Kd.slice 3 (Kd.int .i64)) 22 wc w.heap.size (fun k_=>some k_≠(bf:Value).ownBlock∧some k_≠(ca:Value).ownBlock∧some k_≠(bj:Value).ownBlock) ck aa)∧Sd (Below w.heap.size w wc))
   case first =>
    have H:=dj.out;clear dj
    by_cases c8:j<(L.length:Int)
    ·rw[if_pos c8] at H
     have cc:decide (j<(L.length:Int))=true:=decide_eq_true c8;clear c8
     (first|rw[cc]|(simp only[i64_w,i32_w];rw[cc])|skip)
     have H':=Sd.mk H;clear H;obtain⟨gl,gm,ev⟩:=Kd.R_slice I.out;subst ev;obtain⟨e9,fa,ei⟩:=Kd.R_slice J.out;subst ei;go_wp2;go_meet
     case rel=>exact⟨_,(decide (j<(M.length:Int))),(by first|rfl|(simp;done)|(simp[*];done)),H',⟨by have:=b6.out;first|omega|exact Nat.le_refl _⟩,⟨Kd.Rz I.out⟩,⟨Kd.Nz z.out⟩,⟨Kd.Rz J.out⟩,⟨Kd.Nz D.out⟩,⟨bz⟩⟩
    ·rw[if_neg c8] at H
     have cc:decide (j<(L.length:Int))=false:=decide_eq_false c8;clear c8
     (first|rw[cc]|(simp only[i64_w,i32_w];rw[cc])|skip)
     have H':=Sd.mk H;clear H;obtain⟨fb,fc,ej⟩:=Kd.R_slice I.out;subst ej;go_wp2;go_meet
     case rel=>exact⟨_,(false),(by first|rfl|(simp;done)|(simp[*];done)),H',⟨by have:=b6.out;first|omega|exact Nat.le_refl _⟩,⟨Kd.Rz I.out⟩,⟨Kd.Nz z.out⟩,⟨Kd.Rz J.out⟩,⟨Kd.Nz D.out⟩,⟨bz⟩⟩
   case rest =>
    clear dj;obtain⟨kq,b9,rfl,HA,ci,I,z,J,D,HB⟩:=hcut
    cases kq with
    | zero=>exact absurd HA.out (by simp[spec_l1Compare.j1])
    | succ cq =>
     have H:=HA.out;clear HA;simp only[spec_l1Compare.j1] at H
     by_cases cw:b9=true
     ·subst cw
      replace H:=ip rfl H
      by_cases cx:0≤j
      ·rw[if_pos cx] at H
       have e1:decide (0≤j)=true:=decide_eq_true cx;clear cx
       by_cases cy:j<(Z.length:Int)
       ·rw[if_pos cy] at H
        have e2:decide (j<(Z.length:Int))=true:=decide_eq_true cy;clear cy
        by_cases cz:j<(aa.length:Int)
        ·rw[if_pos cz] at H
         have e3:decide (j<(aa.length:Int))=true:=decide_eq_true cz;clear cz;obtain⟨bk,da,H⟩:=bs H
         by_cases cd:bk=0
         ·rw[if_pos cd] at H
          have d7:(bk == 0)=true:=beq_iff_eq.mpr cd;have d8:(bk != 0)=false:=bne_eq_false_iff_eq.mpr cd;clear cd
          by_cases db:j<(L.length:Int)
          ·rw[if_pos db] at H
           have e4:decide (j<(L.length:Int))=true:=decide_eq_true db;clear db
           by_cases dc:j<(M.length:Int)
           ·rw[if_pos dc] at H
            have e5:decide (j<(M.length:Int))=true:=decide_eq_true dc;clear dc
            by_cases ce:(rd L j)=(rd M j)
            ·rw[if_pos ce] at H
             have d9:((rd L j) == (rd M j))=true:=beq_iff_eq.mpr ce;have ea:((rd L j) != (rd M j))=false:=bne_eq_false_iff_eq.mpr ce;clear ce;have H':=Sd.mk H;clear H
             try go_wp2
             replace I:=Sd.mk (Kd.R_drew I.out);replace z:=Sd.mk (Kd.N_drew z.out);replace J:=Sd.mk (Kd.R_drew J.out);replace D:=Sd.mk (Kd.N_drew D.out);replace HB:=Sd.mk (below_drew1 HB.out);obtain⟨fd,fe,dk⟩:=Kd.N_slice z.out
             (first|subst dk|(injection dk with X ah Y;have ai:=X.symm;have aj:=Y.symm;clear X ah Y;subst ai;subst aj))
             have ao:0≤(j:Int):=dz;have ap:j<(Z.length:Int):=dz;obtain⟨bl,au,av,bo,ab,ak,al⟩:=at_L1 (Kd.N_reads' z.out).2.2 j ao ap;cases bo;obtain⟨cl,a7,a8,aw⟩:=Kd.N_get z.out [] j ao (by first|exact ap|exact dz|(have e_:=(Kd.N_reads' z.out).1;omega));obtain⟨b2,b3,rfl,ac,ad⟩:=Kd.FK_slice_open a8;have O:=aw 0 _ rfl;rw[Nat.add_zero,show ((Kd.slice 3 (Kd.int .i64))).sz=1 from rfl,Nat.mul_one] at O;replace O:=Option.some.inj (O.symm.trans ab)
             injection O with hva_ hvn_ hvc_
             rw[hva_] at ad;rw[hvc_] at ac;have E:=Sd.mk (show Kd.V (Kd.int .i64) 3 _ w.heap.size _ _ (rd_L1 Z j) from Kd.V_mk ac ad);clear hva_ hvn_ hvc_ ad ac;clear aw a7;have m:=Sd.mk al;have a3:=Sd.mk ak;clear al ak;replace ao:=eq_true ao;replace ap:=eq_true ap;obtain⟨ff,fg,dl⟩:=Kd.N_slice D.out
             (first|subst dl|(injection dl with X ah Y;have ai:=X.symm;have aj:=Y.symm;clear X ah Y;subst ai;subst aj))
             have aq:0≤(j:Int):=dz;have ar:j<(aa.length:Int):=dz;obtain⟨bm,ax,ay,bp,ae,am,an⟩:=at_L1 (Kd.N_reads' D.out).2.2 j aq ar;cases bp;obtain⟨cm,a9,ba,a0⟩:=Kd.N_get D.out [] j aq (by first|exact ar|exact dz|(have e_:=(Kd.N_reads' D.out).1;omega));obtain⟨b4,b5,rfl,af,ag⟩:=Kd.FK_slice_open ba;have U:=a0 0 _ rfl;rw[Nat.add_zero,show ((Kd.slice 3 (Kd.int .i64))).sz=1 from rfl,Nat.mul_one] at U;replace U:=Option.some.inj (U.symm.trans ae)
             injection U with hva_ hvn_ hvc_
             rw[hva_] at ag;rw[hvc_] at af;have G:=Sd.mk (show Kd.V (Kd.int .i64) 3 _ w.heap.size _ _ (rd_L1 aa j) from Kd.V_mk af ag);clear hva_ hvn_ hvc_ ag af;clear a0 a9;have o:=Sd.mk an;have a4:=Sd.mk am;clear an am;replace aq:=eq_true aq;replace ar:=eq_true ar;refine start_ (n:=10) (S:=fun w'=>w'.cell? (bl.add (j).toNat)=some (.slice au (rd_L1 Z j).length av)∧w'.cell? (bm.add (j).toNat)=some (.slice ax (rd_L1 aa j).length ay)) (ds:=[]) #[F,F,F,F,F,F,F,F,F,F] (by kernel_rfl) rfl rfl ⟨ab,ae⟩ (fun hHeld=>?_);refine with_tabW spec_l1Compare.tab6 spec_l1Compare.bits6 (fun HT_ HW_=>?_)
             generalize wc.drew=gn at I z J D HB E G m o ab ae hHeld ⊢
             refine qs 0 33 HT_.out ?_;refine qs 1 34 HT_.out ?_;refine qs 2 35 HT_.out ?_;refine qs 4 37 HT_.out ?_;refine qs 5 38 HT_.out ?_;refine qs 6 39 HT_.out ?_;refine tk 3 36 HT_.out HW_.out hHeld rfl rfl (by rintro w' ⟨s0,s1⟩;go_simp;with_reducible rfl) ?_;refine tk 7 40 HT_.out HW_.out hHeld rfl rfl (by rintro w' ⟨s0,s1⟩;go_simp;with_reducible rfl) ?_;refine on 8 41 HT_.out (fun K hK=>?_);refine goes_ Tryd.func56 (by kernel_rfl) rfl #[.slice au (rd_L1 Z j).length av,.slice ax (rd_L1 aa j).length ay] (by rfl) rfl rfl az ?_
             with_reducible refine(ih cq (by have:=b6.out;have:=ci.out;omega) _ _ (rd_L1 Z j) _ _ (rd_L1 aa j) bk _ ?side1 ?side2 ?side3 ?side4 da.out).mono ?_
             (case side1=>exact(Kd.Cz m.out))
             (case side2=>exact a3.out)
             (case side3=>exact(Kd.Cz o.out))
             (case side4=>exact a4.out)
             rintro e ew ⟨rfl,hb⟩;have bq:=cg hb hHeld.1;have br:=cg hb hHeld.2;refine⟨_,rfl,?_⟩;replace I:=Sd.mk (Kd.R_below (Kd.Rz I.out) hb);replace z:=Sd.mk (Kd.N_below (Kd.Nz z.out) hb);replace J:=Sd.mk (Kd.R_below (Kd.Rz J.out) hb);replace D:=Sd.mk (Kd.N_below (Kd.Nz D.out) hb);replace E:=Sd.mk (Kd.V_below (Kd.Vz E.out) hb);replace G:=Sd.mk (Kd.V_below (Kd.Vz G.out) hb);replace m:=Sd.mk (Kd.C_below (Kd.Cz m.out) hb);replace o:=Sd.mk (Kd.C_below (Kd.Cz o.out) hb);replace HB:=Sd.mk (below_step bz hb);refine hK.out _ _ ⟨bq,br⟩ (fun hHeld=>?_);clear hK K;refine nm (some 41) ?_;refine qs 9 10 HT_.out ?_;refine done_ (done_of HT_.out (by kernel_rfl)) ?_
             try go_wp2
             replace I:=Sd.mk (Kd.R_drew I.out);replace z:=Sd.mk (Kd.N_drew z.out);replace J:=Sd.mk (Kd.R_drew J.out);replace D:=Sd.mk (Kd.N_drew D.out);replace E:=Sd.mk (Kd.V_drew E.out);replace G:=Sd.mk (Kd.V_drew G.out);replace m:=Sd.mk (Kd.C_drew m.out);replace o:=Sd.mk (Kd.C_drew o.out);replace HB:=Sd.mk (below_drew1 HB.out);obtain⟨fh,fi,dm⟩:=Kd.R_slice I.out
             (first|subst dm|(injection dm with X ah Y;have ai:=X.symm;have aj:=Y.symm;clear X ah Y;subst ai;subst aj))
             have bb:0≤(j:Int):=dz;have bc:j<(L.length:Int):=dz;obtain⟨a5,cf,a1⟩:=Kd.at_int (Kd.R_reads' I.out).2.2 j bb bc;cases cf;replace bb:=eq_true bb;replace bc:=eq_true bc;obtain⟨fj,fk,dn⟩:=Kd.R_slice J.out
             (first|subst dn|(injection dn with X ah Y;have ai:=X.symm;have aj:=Y.symm;clear X ah Y;subst ai;subst aj))
             have bd:0≤(j:Int):=dz;have be:j<(M.length:Int):=dz;obtain⟨a6,ch,a2⟩:=Kd.at_int (Kd.R_reads' J.out).2.2 j bd be;cases ch;replace bd:=eq_true bd;replace be:=eq_true be;refine start_ (n:=9) (S:=fun w'=>w'.cell? (a5.add (j).toNat)=some (.int .i64 (rd L j))∧w'.cell? (a6.add (j).toNat)=some (.int .i64 (rd M j))) (ds:=[]) #[F,F,F,F,F,F,F,F,F] (by kernel_rfl) rfl rfl ⟨a1,a2⟩ (fun hHeld=>?_);refine with_tabW spec_l1Compare.tab9 spec_l1Compare.bits9 (fun HT_ HW_=>?_)
             generalize ew.drew=go at I z J D E G m o HB a1 a2 hHeld ⊢
             refine qs 0 45 HT_.out ?_;refine qs 1 46 HT_.out ?_;refine qs 2 47 HT_.out ?_;refine qs 4 49 HT_.out ?_;refine qs 5 50 HT_.out ?_;refine qs 6 51 HT_.out ?_;refine tk 3 48 HT_.out HW_.out hHeld rfl rfl (by rintro w' ⟨s0,s1⟩;go_simp;with_reducible rfl) ?_;refine tk 7 52 HT_.out HW_.out hHeld rfl rfl (by rintro w' ⟨s0,s1⟩;go_simp;with_reducible rfl) ?_;refine qs 8 53 HT_.out ?_;refine done_ (done_of HT_.out (by kernel_rfl)) ?_
             try go_wp2
             go_roundg cq
             case measure=>have:=b6.out;have:=ci.out;omega
             case rel=>exact⟨(wrap64 (j+1)),(by first|rfl|(simp;done)|(simp[*];done)),H',⟨by have:=b6.out;have:=ci.out;omega⟩,⟨Kd.Rz I.out⟩,⟨Kd.Nz z.out⟩,⟨Kd.Rz J.out⟩,⟨Kd.Nz D.out⟩,⟨bz⟩⟩
            ·rw[if_neg ce] at H
             have d9:((rd L j) == (rd M j))=false:=beq_eq_false_iff_ne.mpr ce;have ea:((rd L j) != (rd M j))=true:=bne_iff_ne.mpr ce
             by_cases cj:(rd L j)<(rd M j)
             ·rw[if_pos cj] at H
              have eb:decide ((rd L j)<(rd M j))=true:=decide_eq_true cj;clear cj;obtain rfl:=Option.some.inj H
              try go_wp2
              replace I:=Sd.mk (Kd.R_drew I.out);replace z:=Sd.mk (Kd.N_drew z.out);replace J:=Sd.mk (Kd.R_drew J.out);replace D:=Sd.mk (Kd.N_drew D.out);replace HB:=Sd.mk (below_drew1 HB.out);obtain⟨fl,fm,dp⟩:=Kd.N_slice z.out
              (first|subst dp|(injection dp with X ah Y;have ai:=X.symm;have aj:=Y.symm;clear X ah Y;subst ai;subst aj))
              have ao:0≤(j:Int):=dz;have ap:j<(Z.length:Int):=dz;obtain⟨bl,au,av,bo,ab,ak,al⟩:=at_L1 (Kd.N_reads' z.out).2.2 j ao ap;cases bo;obtain⟨cl,a7,a8,aw⟩:=Kd.N_get z.out [] j ao (by first|exact ap|exact dz|(have e_:=(Kd.N_reads' z.out).1;omega));obtain⟨b2,b3,rfl,ac,ad⟩:=Kd.FK_slice_open a8;have O:=aw 0 _ rfl;rw[Nat.add_zero,show ((Kd.slice 3 (Kd.int .i64))).sz=1 from rfl,Nat.mul_one] at O;replace O:=Option.some.inj (O.symm.trans ab)
              injection O with hva_ hvn_ hvc_
              rw[hva_] at ad;rw[hvc_] at ac;have E:=Sd.mk (show Kd.V (Kd.int .i64) 3 _ w.heap.size _ _ (rd_L1 Z j) from Kd.V_mk ac ad);clear hva_ hvn_ hvc_ ad ac;clear aw a7;have m:=Sd.mk al;have a3:=Sd.mk ak;clear al ak;replace ao:=eq_true ao;replace ap:=eq_true ap;obtain⟨fn,fo,dq⟩:=Kd.N_slice D.out
              (first|subst dq|(injection dq with X ah Y;have ai:=X.symm;have aj:=Y.symm;clear X ah Y;subst ai;subst aj))
              have aq:0≤(j:Int):=dz;have ar:j<(aa.length:Int):=dz;obtain⟨bm,ax,ay,bp,ae,am,an⟩:=at_L1 (Kd.N_reads' D.out).2.2 j aq ar;cases bp;obtain⟨cm,a9,ba,a0⟩:=Kd.N_get D.out [] j aq (by first|exact ar|exact dz|(have e_:=(Kd.N_reads' D.out).1;omega));obtain⟨b4,b5,rfl,af,ag⟩:=Kd.FK_slice_open ba;have U:=a0 0 _ rfl;rw[Nat.add_zero,show ((Kd.slice 3 (Kd.int .i64))).sz=1 from rfl,Nat.mul_one] at U;replace U:=Option.some.inj (U.symm.trans ae)
              injection U with hva_ hvn_ hvc_
              rw[hva_] at ag;rw[hvc_] at af;have G:=Sd.mk (show Kd.V (Kd.int .i64) 3 _ w.heap.size _ _ (rd_L1 aa j) from Kd.V_mk af ag);clear hva_ hvn_ hvc_ ag af;clear a0 a9;have o:=Sd.mk an;have a4:=Sd.mk am;clear an am;replace aq:=eq_true aq;replace ar:=eq_true ar;refine start_ (n:=10) (S:=fun w'=>w'.cell? (bl.add (j).toNat)=some (.slice au (rd_L1 Z j).length av)∧w'.cell? (bm.add (j).toNat)=some (.slice ax (rd_L1 aa j).length ay)) (ds:=[]) #[F,F,F,F,F,F,F,F,F,F] (by kernel_rfl) rfl rfl ⟨ab,ae⟩ (fun hHeld=>?_);refine with_tabW spec_l1Compare.tab6 spec_l1Compare.bits6 (fun HT_ HW_=>?_)
              generalize wc.drew=gp at I z J D HB E G m o ab ae hHeld ⊢
              refine qs 0 33 HT_.out ?_;refine qs 1 34 HT_.out ?_;refine qs 2 35 HT_.out ?_;refine qs 4 37 HT_.out ?_;refine qs 5 38 HT_.out ?_;refine qs 6 39 HT_.out ?_;refine tk 3 36 HT_.out HW_.out hHeld rfl rfl (by rintro w' ⟨s0,s1⟩;go_simp;with_reducible rfl) ?_;refine tk 7 40 HT_.out HW_.out hHeld rfl rfl (by rintro w' ⟨s0,s1⟩;go_simp;with_reducible rfl) ?_;refine on 8 41 HT_.out (fun K hK=>?_);refine goes_ Tryd.func56 (by kernel_rfl) rfl #[.slice au (rd_L1 Z j).length av,.slice ax (rd_L1 aa j).length ay] (by rfl) rfl rfl az ?_
              with_reducible refine(ih cq (by have:=b6.out;have:=ci.out;omega) _ _ (rd_L1 Z j) _ _ (rd_L1 aa j) bk _ ?side1 ?side2 ?side3 ?side4 da.out).mono ?_
              (case side1=>exact(Kd.Cz m.out))
              (case side2=>exact a3.out)
              (case side3=>exact(Kd.Cz o.out))
              (case side4=>exact a4.out)
              rintro e ex ⟨rfl,hb⟩;have bq:=cg hb hHeld.1;have br:=cg hb hHeld.2;refine⟨_,rfl,?_⟩;replace I:=Sd.mk (Kd.R_below (Kd.Rz I.out) hb);replace z:=Sd.mk (Kd.N_below (Kd.Nz z.out) hb);replace J:=Sd.mk (Kd.R_below (Kd.Rz J.out) hb);replace D:=Sd.mk (Kd.N_below (Kd.Nz D.out) hb);replace E:=Sd.mk (Kd.V_below (Kd.Vz E.out) hb);replace G:=Sd.mk (Kd.V_below (Kd.Vz G.out) hb);replace m:=Sd.mk (Kd.C_below (Kd.Cz m.out) hb);replace o:=Sd.mk (Kd.C_below (Kd.Cz o.out) hb);replace HB:=Sd.mk (below_step bz hb);refine hK.out _ _ ⟨bq,br⟩ (fun hHeld=>?_);clear hK K;refine nm (some 41) ?_;refine qs 9 10 HT_.out ?_;refine done_ (done_of HT_.out (by kernel_rfl)) ?_
              try go_wp2
              replace I:=Sd.mk (Kd.R_drew I.out);replace z:=Sd.mk (Kd.N_drew z.out);replace J:=Sd.mk (Kd.R_drew J.out);replace D:=Sd.mk (Kd.N_drew D.out);replace E:=Sd.mk (Kd.V_drew E.out);replace G:=Sd.mk (Kd.V_drew G.out);replace m:=Sd.mk (Kd.C_drew m.out);replace o:=Sd.mk (Kd.C_drew o.out);replace HB:=Sd.mk (below_drew1 HB.out);obtain⟨fp,fq,dr⟩:=Kd.R_slice I.out
              (first|subst dr|(injection dr with X ah Y;have ai:=X.symm;have aj:=Y.symm;clear X ah Y;subst ai;subst aj))
              have bb:0≤(j:Int):=dz;have bc:j<(L.length:Int):=dz;obtain⟨a5,cf,a1⟩:=Kd.at_int (Kd.R_reads' I.out).2.2 j bb bc;cases cf;replace bb:=eq_true bb;replace bc:=eq_true bc;obtain⟨fr,fs,dt⟩:=Kd.R_slice J.out
              (first|subst dt|(injection dt with X ah Y;have ai:=X.symm;have aj:=Y.symm;clear X ah Y;subst ai;subst aj))
              have bd:0≤(j:Int):=dz;have be:j<(M.length:Int):=dz;obtain⟨a6,ch,a2⟩:=Kd.at_int (Kd.R_reads' J.out).2.2 j bd be;cases ch;replace bd:=eq_true bd;replace be:=eq_true be;refine start_ (n:=9) (S:=fun w'=>w'.cell? (a5.add (j).toNat)=some (.int .i64 (rd L j))∧w'.cell? (a6.add (j).toNat)=some (.int .i64 (rd M j))) (ds:=[]) #[F,F,F,F,F,F,F,F,F] (by kernel_rfl) rfl rfl ⟨a1,a2⟩ (fun hHeld=>?_);refine with_tabW spec_l1Compare.tab9 spec_l1Compare.bits9 (fun HT_ HW_=>?_)
              generalize ex.drew=ey at I z J D E G m o HB a1 a2 hHeld ⊢
              refine qs 0 45 HT_.out ?_;refine qs 1 46 HT_.out ?_;refine qs 2 47 HT_.out ?_;refine qs 4 49 HT_.out ?_;refine qs 5 50 HT_.out ?_;refine qs 6 51 HT_.out ?_;refine tk 3 48 HT_.out HW_.out hHeld rfl rfl (by rintro w' ⟨s0,s1⟩;go_simp;with_reducible rfl) ?_;refine tk 7 52 HT_.out HW_.out hHeld rfl rfl (by rintro w' ⟨s0,s1⟩;go_simp;with_reducible rfl) ?_;refine qs 8 53 HT_.out ?_;refine done_ (done_of HT_.out (by kernel_rfl)) ?_
              try go_wp2
              replace I:=Sd.mk (Kd.R_drew I.out);replace z:=Sd.mk (Kd.N_drew z.out);replace J:=Sd.mk (Kd.R_drew J.out);replace D:=Sd.mk (Kd.N_drew D.out);replace E:=Sd.mk (Kd.V_drew E.out);replace G:=Sd.mk (Kd.V_drew G.out);replace m:=Sd.mk (Kd.C_drew m.out);replace o:=Sd.mk (Kd.C_drew o.out);replace HB:=Sd.mk (below_drew1 HB.out);have bu:0≤(j:Int):=dz;have bv:j<(L.length:Int):=dz;obtain⟨cn,cs,bg⟩:=Kd.at_int (Kd.R_reads' I.out).2.2 j bu bv;obtain rfl:a5=cn:=(by injection cs);replace bu:=eq_true bu;replace bv:=eq_true bv;have bw:0≤(j:Int):=dz;have bx:j<(M.length:Int):=dz;obtain⟨co,ct,bh⟩:=Kd.at_int (Kd.R_reads' J.out).2.2 j bw bx;obtain rfl:a6=co:=(by injection ct);replace bw:=eq_true bw;replace bx:=eq_true bx;refine start_ (n:=9) (S:=fun w'=>w'.cell? (a5.add (j).toNat)=some (.int .i64 (rd L j))∧w'.cell? (a6.add (j).toNat)=some (.int .i64 (rd M j))) (ds:=[]) #[F,F,F,F,F,F,F,F,F] (by kernel_rfl) rfl rfl ⟨bg,bh⟩ (fun hHeld=>?_);refine with_tabW spec_l1Compare.tab10 spec_l1Compare.bits10 (fun HT_ HW_=>?_)
              generalize ey.drew=gq at I z J D E G m o HB bg bh hHeld ⊢
              refine qs 0 54 HT_.out ?_;refine qs 1 55 HT_.out ?_;refine qs 2 56 HT_.out ?_;refine qs 4 58 HT_.out ?_;refine qs 5 59 HT_.out ?_;refine qs 6 60 HT_.out ?_;refine tk 3 57 HT_.out HW_.out hHeld rfl rfl (by rintro w' ⟨s0,s1⟩;go_simp;with_reducible rfl) ?_;refine tk 7 61 HT_.out HW_.out hHeld rfl rfl (by rintro w' ⟨s0,s1⟩;go_simp;with_reducible rfl) ?_;refine qs 8 62 HT_.out ?_;refine done_ (done_of HT_.out (by kernel_rfl)) ?_
              try go_wp2
              go_ret;exact⟨by first|rfl|(simp[errW_none,errW_some]<;>rfl)|(simp[*,errW_none,errW_some]<;>rfl),bz⟩
             ·rw[if_neg cj] at H
              have eb:decide ((rd L j)<(rd M j))=false:=decide_eq_false cj;clear cj;obtain rfl:=Option.some.inj H
              try go_wp2
              replace I:=Sd.mk (Kd.R_drew I.out);replace z:=Sd.mk (Kd.N_drew z.out);replace J:=Sd.mk (Kd.R_drew J.out);replace D:=Sd.mk (Kd.N_drew D.out);replace HB:=Sd.mk (below_drew1 HB.out);obtain⟨fu,fv,du⟩:=Kd.N_slice z.out
              (first|subst du|(injection du with X ah Y;have ai:=X.symm;have aj:=Y.symm;clear X ah Y;subst ai;subst aj))
              have ao:0≤(j:Int):=dz;have ap:j<(Z.length:Int):=dz;obtain⟨bl,au,av,bo,ab,ak,al⟩:=at_L1 (Kd.N_reads' z.out).2.2 j ao ap;cases bo;obtain⟨cl,a7,a8,aw⟩:=Kd.N_get z.out [] j ao (by first|exact ap|exact dz|(have e_:=(Kd.N_reads' z.out).1;omega));obtain⟨b2,b3,rfl,ac,ad⟩:=Kd.FK_slice_open a8;have O:=aw 0 _ rfl;rw[Nat.add_zero,show ((Kd.slice 3 (Kd.int .i64))).sz=1 from rfl,Nat.mul_one] at O;replace O:=Option.some.inj (O.symm.trans ab)
              injection O with hva_ hvn_ hvc_
              rw[hva_] at ad;rw[hvc_] at ac;have E:=Sd.mk (show Kd.V (Kd.int .i64) 3 _ w.heap.size _ _ (rd_L1 Z j) from Kd.V_mk ac ad);clear hva_ hvn_ hvc_ ad ac;clear aw a7;have m:=Sd.mk al;have a3:=Sd.mk ak;clear al ak;replace ao:=eq_true ao;replace ap:=eq_true ap;obtain⟨fw,fx,dv⟩:=Kd.N_slice D.out
              (first|subst dv|(injection dv with X ah Y;have ai:=X.symm;have aj:=Y.symm;clear X ah Y;subst ai;subst aj))
              have aq:0≤(j:Int):=dz;have ar:j<(aa.length:Int):=dz;obtain⟨bm,ax,ay,bp,ae,am,an⟩:=at_L1 (Kd.N_reads' D.out).2.2 j aq ar;cases bp;obtain⟨cm,a9,ba,a0⟩:=Kd.N_get D.out [] j aq (by first|exact ar|exact dz|(have e_:=(Kd.N_reads' D.out).1;omega));obtain⟨b4,b5,rfl,af,ag⟩:=Kd.FK_slice_open ba;have U:=a0 0 _ rfl;rw[Nat.add_zero,show ((Kd.slice 3 (Kd.int .i64))).sz=1 from rfl,Nat.mul_one] at U;replace U:=Option.some.inj (U.symm.trans ae)
              injection U with hva_ hvn_ hvc_
              rw[hva_] at ag;rw[hvc_] at af;have G:=Sd.mk (show Kd.V (Kd.int .i64) 3 _ w.heap.size _ _ (rd_L1 aa j) from Kd.V_mk af ag);clear hva_ hvn_ hvc_ ag af;clear a0 a9;have o:=Sd.mk an;have a4:=Sd.mk am;clear an am;replace aq:=eq_true aq;replace ar:=eq_true ar;refine start_ (n:=10) (S:=fun w'=>w'.cell? (bl.add (j).toNat)=some (.slice au (rd_L1 Z j).length av)∧w'.cell? (bm.add (j).toNat)=some (.slice ax (rd_L1 aa j).length ay)) (ds:=[]) #[F,F,F,F,F,F,F,F,F,F] (by kernel_rfl) rfl rfl ⟨ab,ae⟩ (fun hHeld=>?_);refine with_tabW spec_l1Compare.tab6 spec_l1Compare.bits6 (fun HT_ HW_=>?_)
              generalize wc.drew=gr at I z J D HB E G m o ab ae hHeld ⊢
              refine qs 0 33 HT_.out ?_;refine qs 1 34 HT_.out ?_;refine qs 2 35 HT_.out ?_;refine qs 4 37 HT_.out ?_;refine qs 5 38 HT_.out ?_;refine qs 6 39 HT_.out ?_;refine tk 3 36 HT_.out HW_.out hHeld rfl rfl (by rintro w' ⟨s0,s1⟩;go_simp;with_reducible rfl) ?_;refine tk 7 40 HT_.out HW_.out hHeld rfl rfl (by rintro w' ⟨s0,s1⟩;go_simp;with_reducible rfl) ?_;refine on 8 41 HT_.out (fun K hK=>?_);refine goes_ Tryd.func56 (by kernel_rfl) rfl #[.slice au (rd_L1 Z j).length av,.slice ax (rd_L1 aa j).length ay] (by rfl) rfl rfl az ?_
              with_reducible refine(ih cq (by have:=b6.out;have:=ci.out;omega) _ _ (rd_L1 Z j) _ _ (rd_L1 aa j) bk _ ?side1 ?side2 ?side3 ?side4 da.out).mono ?_
              (case side1=>exact(Kd.Cz m.out))
              (case side2=>exact a3.out)
              (case side3=>exact(Kd.Cz o.out))
              (case side4=>exact a4.out)
              rintro e ez ⟨rfl,hb⟩;have bq:=cg hb hHeld.1;have br:=cg hb hHeld.2;refine⟨_,rfl,?_⟩;replace I:=Sd.mk (Kd.R_below (Kd.Rz I.out) hb);replace z:=Sd.mk (Kd.N_below (Kd.Nz z.out) hb);replace J:=Sd.mk (Kd.R_below (Kd.Rz J.out) hb);replace D:=Sd.mk (Kd.N_below (Kd.Nz D.out) hb);replace E:=Sd.mk (Kd.V_below (Kd.Vz E.out) hb);replace G:=Sd.mk (Kd.V_below (Kd.Vz G.out) hb);replace m:=Sd.mk (Kd.C_below (Kd.Cz m.out) hb);replace o:=Sd.mk (Kd.C_below (Kd.Cz o.out) hb);replace HB:=Sd.mk (below_step bz hb);refine hK.out _ _ ⟨bq,br⟩ (fun hHeld=>?_);clear hK K;refine nm (some 41) ?_;refine qs 9 10 HT_.out ?_;refine done_ (done_of HT_.out (by kernel_rfl)) ?_
              try go_wp2
              replace I:=Sd.mk (Kd.R_drew I.out);replace z:=Sd.mk (Kd.N_drew z.out);replace J:=Sd.mk (Kd.R_drew J.out);replace D:=Sd.mk (Kd.N_drew D.out);replace E:=Sd.mk (Kd.V_drew E.out);replace G:=Sd.mk (Kd.V_drew G.out);replace m:=Sd.mk (Kd.C_drew m.out);replace o:=Sd.mk (Kd.C_drew o.out);replace HB:=Sd.mk (below_drew1 HB.out);obtain⟨fy,fz,dw⟩:=Kd.R_slice I.out
              (first|subst dw|(injection dw with X ah Y;have ai:=X.symm;have aj:=Y.symm;clear X ah Y;subst ai;subst aj))
              have bb:0≤(j:Int):=dz;have bc:j<(L.length:Int):=dz;obtain⟨a5,cf,a1⟩:=Kd.at_int (Kd.R_reads' I.out).2.2 j bb bc;cases cf;replace bb:=eq_true bb;replace bc:=eq_true bc;obtain⟨f0,f1,dx⟩:=Kd.R_slice J.out
              (first|subst dx|(injection dx with X ah Y;have ai:=X.symm;have aj:=Y.symm;clear X ah Y;subst ai;subst aj))
              have bd:0≤(j:Int):=dz;have be:j<(M.length:Int):=dz;obtain⟨a6,ch,a2⟩:=Kd.at_int (Kd.R_reads' J.out).2.2 j bd be;cases ch;replace bd:=eq_true bd;replace be:=eq_true be;refine start_ (n:=9) (S:=fun w'=>w'.cell? (a5.add (j).toNat)=some (.int .i64 (rd L j))∧w'.cell? (a6.add (j).toNat)=some (.int .i64 (rd M j))) (ds:=[]) #[F,F,F,F,F,F,F,F,F] (by kernel_rfl) rfl rfl ⟨a1,a2⟩ (fun hHeld=>?_);refine with_tabW spec_l1Compare.tab9 spec_l1Compare.bits9 (fun HT_ HW_=>?_)
              generalize ez.drew=e0 at I z J D E G m o HB a1 a2 hHeld ⊢
              refine qs 0 45 HT_.out ?_;refine qs 1 46 HT_.out ?_;refine qs 2 47 HT_.out ?_;refine qs 4 49 HT_.out ?_;refine qs 5 50 HT_.out ?_;refine qs 6 51 HT_.out ?_;refine tk 3 48 HT_.out HW_.out hHeld rfl rfl (by rintro w' ⟨s0,s1⟩;go_simp;with_reducible rfl) ?_;refine tk 7 52 HT_.out HW_.out hHeld rfl rfl (by rintro w' ⟨s0,s1⟩;go_simp;with_reducible rfl) ?_;refine qs 8 53 HT_.out ?_;refine done_ (done_of HT_.out (by kernel_rfl)) ?_
              try go_wp2
              replace I:=Sd.mk (Kd.R_drew I.out);replace z:=Sd.mk (Kd.N_drew z.out);replace J:=Sd.mk (Kd.R_drew J.out);replace D:=Sd.mk (Kd.N_drew D.out);replace E:=Sd.mk (Kd.V_drew E.out);replace G:=Sd.mk (Kd.V_drew G.out);replace m:=Sd.mk (Kd.C_drew m.out);replace o:=Sd.mk (Kd.C_drew o.out);replace HB:=Sd.mk (below_drew1 HB.out);have bu:0≤(j:Int):=dz;have bv:j<(L.length:Int):=dz;obtain⟨cn,cs,bg⟩:=Kd.at_int (Kd.R_reads' I.out).2.2 j bu bv;obtain rfl:a5=cn:=(by injection cs);replace bu:=eq_true bu;replace bv:=eq_true bv;have bw:0≤(j:Int):=dz;have bx:j<(M.length:Int):=dz;obtain⟨co,ct,bh⟩:=Kd.at_int (Kd.R_reads' J.out).2.2 j bw bx;obtain rfl:a6=co:=(by injection ct);replace bw:=eq_true bw;replace bx:=eq_true bx;refine start_ (n:=9) (S:=fun w'=>w'.cell? (a5.add (j).toNat)=some (.int .i64 (rd L j))∧w'.cell? (a6.add (j).toNat)=some (.int .i64 (rd M j))) (ds:=[]) #[F,F,F,F,F,F,F,F,F] (by kernel_rfl) rfl rfl ⟨bg,bh⟩ (fun hHeld=>?_);refine with_tabW spec_l1Compare.tab10 spec_l1Compare.bits10 (fun HT_ HW_=>?_)
              generalize e0.drew=gs at I z J D E G m o HB bg bh hHeld ⊢
              refine qs 0 54 HT_.out ?_;refine qs 1 55 HT_.out ?_;refine qs 2 56 HT_.out ?_;refine qs 4 58 HT_.out ?_;refine qs 5 59 HT_.out ?_;refine qs 6 60 HT_.out ?_;refine tk 3 57 HT_.out HW_.out hHeld rfl rfl (by rintro w' ⟨s0,s1⟩;go_simp;with_reducible rfl) ?_;refine tk 7 61 HT_.out HW_.out hHeld rfl rfl (by rintro w' ⟨s0,s1⟩;go_simp;with_reducible rfl) ?_;refine qs 8 62 HT_.out ?_;refine done_ (done_of HT_.out (by kernel_rfl)) ?_
              try go_wp2
              go_ret;exact⟨by first|rfl|(simp[errW_none,errW_some]<;>rfl)|(simp[*,errW_none,errW_some]<;>rfl),bz⟩
           ·rw[if_neg dc] at H
            exact absurd H (by simp)
          ·rw[if_neg db] at H
           exact absurd H (by simp)
         ·rw[if_neg cd] at H
          have d7:(bk == 0)=false:=beq_eq_false_iff_ne.mpr cd;have d8:(bk != 0)=true:=bne_iff_ne.mpr cd;obtain rfl:=Option.some.inj H
          try go_wp2
          replace I:=Sd.mk (Kd.R_drew I.out);replace z:=Sd.mk (Kd.N_drew z.out);replace J:=Sd.mk (Kd.R_drew J.out);replace D:=Sd.mk (Kd.N_drew D.out);replace HB:=Sd.mk (below_drew1 HB.out);obtain⟨f2,f3,dy⟩:=Kd.N_slice z.out
          (first|subst dy|(injection dy with X ah Y;have ai:=X.symm;have aj:=Y.symm;clear X ah Y;subst ai;subst aj))
          have ao:0≤(j:Int):=dz;have ap:j<(Z.length:Int):=dz;obtain⟨bl,au,av,bo,ab,ak,al⟩:=at_L1 (Kd.N_reads' z.out).2.2 j ao ap;cases bo;obtain⟨cl,a7,a8,aw⟩:=Kd.N_get z.out [] j ao (by first|exact ap|exact dz|(have e_:=(Kd.N_reads' z.out).1;omega));obtain⟨b2,b3,rfl,ac,ad⟩:=Kd.FK_slice_open a8;have O:=aw 0 _ rfl;rw[Nat.add_zero,show ((Kd.slice 3 (Kd.int .i64))).sz=1 from rfl,Nat.mul_one] at O;replace O:=Option.some.inj (O.symm.trans ab)
          injection O with hva_ hvn_ hvc_
          rw[hva_] at ad;rw[hvc_] at ac;have E:=Sd.mk (show Kd.V (Kd.int .i64) 3 _ w.heap.size _ _ (rd_L1 Z j) from Kd.V_mk ac ad);clear hva_ hvn_ hvc_ ad ac;clear aw a7;have m:=Sd.mk al;have a3:=Sd.mk ak;clear al ak;replace ao:=eq_true ao;replace ap:=eq_true ap;obtain⟨f4,f5,d0⟩:=Kd.N_slice D.out
          (first|subst d0|(injection d0 with X ah Y;have ai:=X.symm;have aj:=Y.symm;clear X ah Y;subst ai;subst aj))
          have aq:0≤(j:Int):=dz;have ar:j<(aa.length:Int):=dz;obtain⟨bm,ax,ay,bp,ae,am,an⟩:=at_L1 (Kd.N_reads' D.out).2.2 j aq ar;cases bp;obtain⟨cm,a9,ba,a0⟩:=Kd.N_get D.out [] j aq (by first|exact ar|exact dz|(have e_:=(Kd.N_reads' D.out).1;omega));obtain⟨b4,b5,rfl,af,ag⟩:=Kd.FK_slice_open ba;have U:=a0 0 _ rfl;rw[Nat.add_zero,show ((Kd.slice 3 (Kd.int .i64))).sz=1 from rfl,Nat.mul_one] at U;replace U:=Option.some.inj (U.symm.trans ae)
          injection U with hva_ hvn_ hvc_
          rw[hva_] at ag;rw[hvc_] at af;have G:=Sd.mk (show Kd.V (Kd.int .i64) 3 _ w.heap.size _ _ (rd_L1 aa j) from Kd.V_mk af ag);clear hva_ hvn_ hvc_ ag af;clear a0 a9;have o:=Sd.mk an;have a4:=Sd.mk am;clear an am;replace aq:=eq_true aq;replace ar:=eq_true ar;refine start_ (n:=10) (S:=fun w'=>w'.cell? (bl.add (j).toNat)=some (.slice au (rd_L1 Z j).length av)∧w'.cell? (bm.add (j).toNat)=some (.slice ax (rd_L1 aa j).length ay)) (ds:=[]) #[F,F,F,F,F,F,F,F,F,F] (by kernel_rfl) rfl rfl ⟨ab,ae⟩ (fun hHeld=>?_);refine with_tabW spec_l1Compare.tab6 spec_l1Compare.bits6 (fun HT_ HW_=>?_)
          generalize wc.drew=gt at I z J D HB E G m o ab ae hHeld ⊢
          refine qs 0 33 HT_.out ?_;refine qs 1 34 HT_.out ?_;refine qs 2 35 HT_.out ?_;refine qs 4 37 HT_.out ?_;refine qs 5 38 HT_.out ?_;refine qs 6 39 HT_.out ?_;refine tk 3 36 HT_.out HW_.out hHeld rfl rfl (by rintro w' ⟨s0,s1⟩;go_simp;with_reducible rfl) ?_;refine tk 7 40 HT_.out HW_.out hHeld rfl rfl (by rintro w' ⟨s0,s1⟩;go_simp;with_reducible rfl) ?_;refine on 8 41 HT_.out (fun K hK=>?_);refine goes_ Tryd.func56 (by kernel_rfl) rfl #[.slice au (rd_L1 Z j).length av,.slice ax (rd_L1 aa j).length ay] (by rfl) rfl rfl az ?_
          with_reducible refine(ih cq (by have:=b6.out;have:=ci.out;omega) _ _ (rd_L1 Z j) _ _ (rd_L1 aa j) bk _ ?side1 ?side2 ?side3 ?side4 da.out).mono ?_
          (case side1=>exact(Kd.Cz m.out))
          (case side2=>exact a3.out)
          (case side3=>exact(Kd.Cz o.out))
          (case side4=>exact a4.out)
          rintro e gu ⟨rfl,hb⟩;have bq:=cg hb hHeld.1;have br:=cg hb hHeld.2;refine⟨_,rfl,?_⟩;replace I:=Sd.mk (Kd.R_below (Kd.Rz I.out) hb);replace z:=Sd.mk (Kd.N_below (Kd.Nz z.out) hb);replace J:=Sd.mk (Kd.R_below (Kd.Rz J.out) hb);replace D:=Sd.mk (Kd.N_below (Kd.Nz D.out) hb);replace E:=Sd.mk (Kd.V_below (Kd.Vz E.out) hb);replace G:=Sd.mk (Kd.V_below (Kd.Vz G.out) hb);replace m:=Sd.mk (Kd.C_below (Kd.Cz m.out) hb);replace o:=Sd.mk (Kd.C_below (Kd.Cz o.out) hb);replace HB:=Sd.mk (below_step bz hb);refine hK.out _ _ ⟨bq,br⟩ (fun hHeld=>?_);clear hK K;refine nm (some 41) ?_;refine qs 9 10 HT_.out ?_;refine done_ (done_of HT_.out (by kernel_rfl)) ?_
          try go_wp2
          go_ret;exact⟨by first|rfl|(simp[errW_none,errW_some]<;>rfl)|(simp[*,errW_none,errW_some]<;>rfl),bz⟩
        ·rw[if_neg cz] at H
         exact absurd H (by simp)
       ·rw[if_neg cy] at H
        exact absurd H (by simp)
      ·rw[if_neg cx] at H
       exact absurd H (by simp)
     ·replace cw:=Bool.eq_false_iff.mpr cw
      subst cw;replace H:=ng ft H
      by_cases b7:(L.length:Int)<(M.length:Int)
      ·rw[if_pos b7] at H
       have ec:decide ((L.length:Int)<(M.length:Int))=true:=decide_eq_true b7;have ed:decide (L.length<M.length)=true:=decide_eq_true (Int.ofNat_lt.mp b7);clear b7;obtain rfl:=Option.some.inj H;obtain⟨f6,f7,ek⟩:=Kd.R_slice I.out;subst ek;obtain⟨f8,f9,el⟩:=Kd.R_slice J.out;subst el;go_wp2;go_ret;exact⟨by first|rfl|(simp[errW_none,errW_some]<;>rfl)|(simp[*,errW_none,errW_some]<;>rfl),bz⟩
      ·rw[if_neg b7] at H
       have ec:decide ((L.length:Int)<(M.length:Int))=false:=decide_eq_false b7;have ed:decide (L.length<M.length)=false:=decide_eq_false (fun h=>b7 (Int.ofNat_lt.mpr h));clear b7
       by_cases b8:(L.length:Int)>(M.length:Int)
       ·rw[if_pos b8] at H
        have ee:decide ((M.length:Int)<(L.length:Int))=true:=decide_eq_true b8;have ef:decide (M.length<L.length)=true:=decide_eq_true (Int.ofNat_lt.mp b8);clear b8;obtain rfl:=Option.some.inj H;obtain⟨ga,gb,em⟩:=Kd.R_slice I.out;subst em;obtain⟨gc,gf,en⟩:=Kd.R_slice J.out;subst en;go_wp2;go_ret;exact⟨by first|rfl|(simp[errW_none,errW_some]<;>rfl)|(simp[*,errW_none,errW_some]<;>rfl),bz⟩
       ·rw[if_neg b8] at H
        have ee:decide ((M.length:Int)<(L.length:Int))=false:=decide_eq_false b8;have ef:decide (M.length<L.length)=false:=decide_eq_false (fun h=>b8 (Int.ofNat_lt.mpr h));clear b8;obtain rfl:=Option.some.inj H;obtain⟨gg,gh,eo⟩:=Kd.R_slice I.out;subst eo;obtain⟨gi,gj,ep⟩:=Kd.R_slice J.out;subst ep;go_wp2;go_ret;exact⟨by first|rfl|(simp[errW_none,errW_some]<;>rfl)|(simp[*,errW_none,errW_some]<;>rfl),bz⟩
end Go.Proofs.YtbdbldhpglponaaDoor.P