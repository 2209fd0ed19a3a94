/- One Go function comes to what its Lean function tells. -/
import Derived.Test.YtfblcanijhnhmaaP0
import Derived.Test.YtfblcanijhnhmaaPimplboth
import Derived.Test.YtfblcanijhnhmaaPimplcompare
import Derived.Test.YtfblcanijhnhmaaPimplminus
import Derived.Test.YtfblcanijhnhmaaPimplnumber
import Derived.Test.YtfblcanijhnhmaaPimpltimes
import Derived.Test.YtfblcanijhnhmaaPimpltold
namespace Go.Proofs.Ytfblcanijhnhmaa.P
open Go.RowKit YtfblcanijhnhmaaW.PrintWords YtfblcanijhnhmaaW.PrintLast YtfblcanijhnhmaaW.PrintMore
set_option linter.unusedVariables false
set_option linter.unusedSimpArgs false
/-! ### impl_OrdDivide: function 30 -/
mutual
def impl_OrdDivide.j0:Nat→List (S61)→List (S61)→Bool→Option (List Int × List Int × Bool)
 | 0,_,_,_=>none
 | k+1,x7,x8,x30=>if x30=true then(some (([]:List Int),([]:List Int),false)) else(impl_OrdDivide.l0 k x8 (([]:List (S61))) x7)
def impl_OrdDivide.j2:Nat→List (S61)→List (S61)→List (S61)→Option (List Int × List Int × Bool)
 | 0,_,_,_=>none
 | k+1,x8,x10,x11=>if(x11.length:Int)>0 then(if 0<(x11.length:Int) then(if 0<(x8.length:Int) then((impl_compare.f k ((rd_T61 x11 0).f1) ((rd_T61 x8 0).f1)).bind fun t739=>(impl_OrdDivide.j3 k x8 x10 x11 (t739 == 0))) else(none)) else(none)) else(impl_OrdDivide.j3 k x8 x10 x11 false)
def impl_OrdDivide.j3:Nat→List (S61)→List (S61)→List (S61)→Bool→Option (List Int × List Int × Bool)
 | 0,_,_,_,_=>none
 | k+1,x8,x10,x11,x81=>if x81=true then(if 0<(x11.length:Int) then(if 0<(x8.length:Int) then(if((rd_T61 x8 0).f0)=0 then(none) else(if(wrap64 (Int.tdiv ((rd_T61 x11 0).f0) ((rd_T61 x8 0).f0)))>0 then((impl_number.f (wrap64 (Int.tdiv ((rd_T61 x11 0).f0) ((rd_T61 x8 0).f0)))).bind fun t742=>((impl_times.f k x8 t742).bind fun t745=>((impl_compare.f k x11 t745).bind fun t748=>(impl_OrdDivide.j4 k x8 x10 x11 (wrap64 (Int.tdiv ((rd_T61 x11 0).f0) ((rd_T61 x8 0).f0))) (decide (t748<0)))))) else(impl_OrdDivide.j4 k x8 x10 x11 (wrap64 (Int.tdiv ((rd_T61 x11 0).f0) ((rd_T61 x8 0).f0))) false))) else(none)) else(none)) else(impl_OrdDivide.j6 k x10 x11)
def impl_OrdDivide.j6:Nat→List (S61)→List (S61)→Option (List Int × List Int × Bool)
 | 0,_,_=>none
 | k+1,x10,x11=>(impl_told.f k x10).bind fun bt761=>((impl_told.f k x11).bind fun bt765=>(if bt761.2=true then(if bt765.2=true then(some (bt761.1,bt765.1,true)) else(some (([]:List Int),([]:List Int),false))) else(some (([]:List Int),([]:List Int),false))))
def impl_OrdDivide.j4:Nat→List (S61)→List (S61)→List (S61)→Int→Bool→Option (List Int × List Int × Bool)
 | 0,_,_,_,_,_=>none
 | k+1,x8,x10,x11,x12,x101=>if x101=true then(impl_OrdDivide.j5 k x8 x10 x11 (wrap64 (x12-1))) else(impl_OrdDivide.j5 k x8 x10 x11 x12)
def impl_OrdDivide.j5:Nat→List (S61)→List (S61)→List (S61)→Int→Option (List Int × List Int × Bool)
 | 0,_,_,_,_=>none
 | k+1,x8,x10,x11,x12=>if x12>0 then((impl_number.f x12).bind fun t749=>((impl_times.f k x8 t749).bind fun t752=>((impl_minus.f k x11 t752).bind fun t755=>(if x10.length<4398046511104 then(impl_OrdDivide.j6 k (x10++[(⟨x12,([]:List (S61))⟩:S61)]) t755) else(none))))) else(impl_OrdDivide.j6 k x10 x11)
def impl_OrdDivide.l0:Nat→List (S61)→List (S61)→List (S61)→Option (List Int × List Int × Bool)
 | 0,_,_,_=>none
 | k+1,x8,x10,x11=>if(x11.length:Int)>0 then(if 0<(x11.length:Int) then(if 0<(x8.length:Int) then((impl_compare.f k ((rd_T61 x11 0).f1) ((rd_T61 x8 0).f1)).bind fun t722=>(if t722>0 then((impl_minus.f k ((rd_T61 x11 0).f1) ((rd_T61 x8 0).f1)).bind fun t726=>(if x10.length<4398046511104 then(if 1≤(x11.length:Int) then(impl_OrdDivide.l0 k x8 (x10++[(⟨(rd_T61 x11 0).f0,t726⟩:S61)]) (x11.drop 1)) else(none)) else(none))) else(impl_OrdDivide.j2 k x8 x10 x11))) else(none)) else(none)) else(impl_OrdDivide.j2 k x8 x10 x11)
end
def impl_OrdDivide.f (k:Nat)(l0:List Int)(l1:List Int):Option (List Int × List Int × Bool):=(impl_both.f k l0 l1).bind fun bt710=>(if bt710.2.2=true then(impl_OrdDivide.j0 k bt710.1 bt710.2.1 ((bt710.2.1.length:Int) == 0)) else(impl_OrdDivide.j0 k bt710.1 bt710.2.1 true))
def impl_OrdDivide.T5:Bool × List (List Nat × List Nat):=(true,[([],[]),([0],[0]),([1],[1]),([2],[2]),([3],[3]),([4,3],[3,4]),([5,3],[3,5]),([6,3],[3,6]),([3],[3]),([8,3],[3,8]),([9,3],[3,9]),([10,3],[3,10]),([7,11,3,3],[3,7,11]),([12,3],[3,12]),([3,13],[3,13])])
def impl_OrdDivide.B5:List Nat:=[0,1,3,7,15,31,63,127,15,271,783,1807,4095,8191,16383]
theorem impl_OrdDivide.tab5:rtab .any (opsOf Try.f30 5)=impl_OrdDivide.T5:=by kernel_rfl
theorem impl_OrdDivide.bits5:waitsOk impl_OrdDivide.T5.2 impl_OrdDivide.B5=true:=by kernel_rfl
def impl_OrdDivide.T6:Bool × List (List Nat × List Nat):=(true,[([],[]),([],[]),([1],[1]),([2],[2]),([3],[3]),([],[]),([5],[5]),([6],[6]),([7],[7]),([],[]),([9],[9]),([10],[10]),([11],[11]),([8,12],[8,12]),([4,13],[4,13]),([14],[14]),([0,15,13],[0,15]),([16,16,0,1,2,3,4,5,6,7,8,9,10,11,12,13,14,15,16],[0,16])])
def impl_OrdDivide.B6:List Nat:=[0,0,2,6,14,0,32,96,224,0,512,1536,3584,8160,16382,32766,65535,131071]
theorem impl_OrdDivide.tab6:rtab .any (opsOf Try.f30 6)=impl_OrdDivide.T6:=by kernel_rfl
theorem impl_OrdDivide.bits6:waitsOk impl_OrdDivide.T6.2 impl_OrdDivide.B6=true:=by kernel_rfl
def impl_OrdDivide.T8:Bool × List (List Nat × List Nat):=(true,[([],[]),([0],[0]),([1],[1]),([2],[2]),([3],[3]),([4,3],[3,4]),([5,3],[3,5]),([6,3],[3,6]),([3],[3]),([8,3],[3,8]),([9,3],[3,9]),([10,3],[3,10]),([7,11,3,3],[3,7,11]),([12,3],[3,12]),([3,13],[3,13])])
def impl_OrdDivide.B8:List Nat:=[0,1,3,7,15,31,63,127,15,271,783,1807,4095,8191,16383]
theorem impl_OrdDivide.tab8:rtab .any (opsOf Try.f30 8)=impl_OrdDivide.T8:=by kernel_rfl
theorem impl_OrdDivide.bits8:waitsOk impl_OrdDivide.T8.2 impl_OrdDivide.B8=true:=by kernel_rfl
def impl_OrdDivide.T9:Bool × List (List Nat × List Nat):=(true,[([],[]),([0],[0]),([1],[1]),([2],[2]),([],[]),([4],[4]),([5],[5]),([6],[6]),([3,7],[3,7]),([8,0,1,2,3,4,5,6,7,8],[8])])
def impl_OrdDivide.B9:List Nat:=[0,1,3,7,0,16,48,112,255,511]
theorem impl_OrdDivide.tab9:rtab .any (opsOf Try.f30 9)=impl_OrdDivide.T9:=by kernel_rfl
theorem impl_OrdDivide.bits9:waitsOk impl_OrdDivide.T9.2 impl_OrdDivide.B9=true:=by kernel_rfl
set_option maxHeartbeats 8000000 in
set_option maxRecDepth 100000 in
theorem impl_OrdDivide.calls (k:Nat)(A0:Option Addr)(c0:Nat)(l0:List Int)(A1:Option Addr)(c1:Nat)(l1:List Int)(r1:List Int)(r2:List Int)(r3:Bool)(w:World)(kh:Kd.C (Kd.int .i64) w A0 l0.length l0)(ki:l0.length≤c0)(kj:Kd.C (Kd.int .i64) w A1 l1.length l1)(kk:l1.length≤c1)(h:impl_OrdDivide.f k l0 l1=some (r1,r2,r3)) :
  Calls Try.prog 30 #[.slice A0 l0.length c0,.slice A1 l1.length c1] w fun e w'=>∃ h9 ia:Value,e=.returned (.tuple #[h9,ia,.bool r3])∧Kd.R (Kd.int .i64) 3 w' w.heap.size (fun k_=>some k_≠(ia:Value).ownBlock) h9 r1∧Kd.R (Kd.int .i64) 3 w' w.heap.size (fun k_=>some k_≠(h9:Value).ownBlock) ia r2∧Below w.heap.size w w':=by
 have n9:=Try.underlying61;have mm:=Sd.mk kh;have mn:=Sd.mk ki;clear kh ki;have mo:=Sd.mk kj;have mq:=Sd.mk kk;clear kj kk;have HB:=Sd.mk (Below.refl w.heap.size w);have H:((impl_both.f k l0 l1).bind fun cl=>(if cl.2.2=true then(impl_OrdDivide.j0 k cl.1 cl.2.1 ((cl.2.1.length:Int) == 0)) else(impl_OrdDivide.j0 k cl.1 cl.2.1 true)))=some (r1,r2,r3):=h;clear h;replace H:=Option.bind_eq_some_iff.mp H;obtain⟨⟨da,o,gp⟩,kl,H⟩:=H;replace H:(if gp=true then(impl_OrdDivide.j0 k da o ((o.length:Int) == 0)) else(impl_OrdDivide.j0 k da o true))=some (r1,r2,r3):=H;have A3:=Sd.mk kl;clear kl;have ib:=Sd.mk H;clear H;go_enter Try.func30,Try.ntmps30
 go_upto_region 2 with (first|((with_reducible refine gate_callee (f:=45) rfl ?_);refine goesL_ (some 20) rfl rfl Try.func45 (by kernel_rfl) rfl #[.slice A0 l0.length c0,.slice A1 l1.length c1] rfl az ?_;(with_reducible refine(impl_both.calls k _ _ l0 _ _ l1 da o gp _ ?side1 ?side2 ?side3 ?side4 A3.out).mono ?_);(case side1=>exact Kd.Cz mm.out);(case side2=>exact mn.out);(case side3=>exact Kd.Cz mo.out);(case side4=>exact mq.out);rintro e w5 ⟨dq,av,rfl,I,mr,hb⟩;refine⟨_,rfl,?_⟩;have g3:=Sd.mk (Kd.N_lower (Kd.N_mono (ok':=fun k_=>some k_≠(av:Value).ownBlock) (Kd.R_N (Kd.R_bound I)) (fun k_ an=>an.1)) (below_size bz));have fb:=Sd.mk (Kd.N_lower (Kd.N_mono (ok':=fun k_=>some k_≠(dq:Value).ownBlock) (Kd.R_N (Kd.R_bound mr)) (fun k_ an=>an.1)) (below_size bz));replace HB:=Sd.mk (below_step bz hb)))
 (try simp only[Act.put,List.setIfInBounds_toArray,List.set_cons_zero,List.set_cons_succ])
 go_cut [30] (fun ms wc=>∃ (kq:Nat) (ed:Bool),ms=.bool ed∧Sd (impl_OrdDivide.j0 kq da o ed=some (r1,r2,r3))∧Sd (kq≤k)∧Sd (Kd.N k61 61 wc w.heap.size (fun k_=>some k_≠(av:Value).ownBlock) dq da)∧Sd (Kd.N k61 61 wc w.heap.size (fun k_=>some k_≠(dq:Value).ownBlock) av o)∧Sd (Below w.heap.size w wc))
 case first =>
  have H:=ib.out;clear ib
  by_cases c6:gp=true
  ·subst c6
   replace H:=ip rfl H;have H':=Sd.mk H;clear H;obtain⟨pb,pc,mt⟩:=Kd.N_slice fb.out;subst mt;go_wp2;go_meet
   case rel=>exact⟨_,(((o.length:Int) == 0)),(by first|rfl|(simp;done)|(simp[*];done)),H',⟨by first|omega|exact Nat.le_refl _⟩,⟨Kd.Nz g3.out⟩,⟨Kd.Nz fb.out⟩,⟨bz⟩⟩
  ·replace c6:=Bool.eq_false_iff.mpr c6
   subst c6;replace H:=ng ft H;have H':=Sd.mk H;clear H;go_wp2;go_meet
   case rel=>exact⟨_,(true),(by first|rfl|(simp;done)|(simp[*];done)),H',⟨by first|omega|exact Nat.le_refl _⟩,⟨Kd.Nz g3.out⟩,⟨Kd.Nz fb.out⟩,⟨bz⟩⟩
 case rest =>
  clear ib;obtain⟨kq,ed,rfl,HA,bl,fc,D,HB⟩:=hcut
  cases kq with
  | zero=>exact absurd HA.out (by simp[impl_OrdDivide.j0])
  | succ g4 =>
   have H:=HA.out;clear HA;simp only[impl_OrdDivide.j0] at H
   by_cases c8:ed=true
   ·subst c8
    replace H:=ip rfl H;simp only[Option.some.injEq,Prod.mk.injEq] at H;obtain⟨rfl,rfl,rfl⟩:=H;go_wp2;go_ret3;exact⟨_,_,by first|rfl|(simp[errW_none,errW_some]<;>rfl)|(simp[*,errW_none,errW_some]<;>rfl),by first|exact Kd.R_nil _ _ _ _ _|exact Kd.N_nil _ _ _ _ _|exact Kd.V_nil _ _ _ _ _|exact Kd.Q_nil _ _ _ _ _|exact Kd.S_nil _ _ _ _ _,by first|exact Kd.R_nil _ _ _ _ _|exact Kd.N_nil _ _ _ _ _|exact Kd.V_nil _ _ _ _ _|exact Kd.Q_nil _ _ _ _ _|exact Kd.S_nil _ _ _ _ _,bz⟩
   ·replace c8:=Bool.eq_false_iff.mpr c8
    subst c8;replace H:=ng ft H;obtain⟨ic,fd⟩:∃ y_:List (S61),y_=(([]:List (S61))):=⟨_,rfl⟩;replace H:(impl_OrdDivide.l0 g4 o ic da)=some (r1,r2,r3):=hz fd H;have g5:=Sd.mk fd;clear fd;have id:=Sd.mk H;clear H
    go_upto_block 0 with (first|((with_reducible refine gate_dst (N:=31) rfl ?_);refine Kd.N_lit k61 _ 61 ?hg (N':=31) ?hd (xs:=([]:List (S61))) (inner:=[]) (ok:=(fun k_=>some k_≠(dq:Value).ownBlock∧some k_≠(av:Value).ownBlock)) (okp:=(fun k_=>some k_≠(dq:Value).ownBlock∧some k_≠(av:Value).ownBlock)) ?hr ?hp (fun _ hk=>hk) ((show ∀ k_,wc.heap.size≤k_→(fun k_=>some k_≠(dq:Value).ownBlock∧some k_≠(av:Value).ownBlock) k_ from fun k_ hk=>⟨Kd.fresh' (Kd.N_lt (Kd.Nz fc.out)) k_ hk,Kd.fresh' (Kd.N_lt (Kd.Nz D.out)) k_ hk⟩) _ (Nat.le_refl _)) (Below.refl _ _) (Nat.le_refl _) (by simp) ?_;(case hd=>rfl);(case hg=>rfl);(case hr=>first|(go_simp;done)|(go_simp;rfl));(case hp=>exact(Reps.none _ _));intro ob pd db hb mu hnew_;clear mu hnew_;(first|rw[← g5.out] at db|(simp only[Int.reduceToNat] at db;rw[← g5.out] at db));replace fc:=Sd.mk (Kd.N_elder' (Kd.Nz fc.out) (Kd.N_base db) hb);replace D:=Sd.mk (Kd.N_elder' (Kd.Nz D.out) (Kd.N_base db) hb);have jr:=Sd.mk (Kd.N_lower db (below_size bz));replace HB:=Sd.mk (below_step bz hb);clear hb db))
    (try simp only[Act.put,List.setIfInBounds_toArray,List.set_cons_zero,List.set_cons_succ])
    go_cut [10,11] (fun cz f7 wc=>∃ (kq:Nat) (aj:List (S61)) (G:List (S61)),Sd (impl_OrdDivide.j2 kq o aj G=some (r1,r2,r3))∧Sd (kq≤g4)∧Sd (Kd.N k61 61 wc w.heap.size (fun k_=>some k_≠(cz:Value).ownBlock) av o)∧Sd (Kd.N k61 61 wc w.heap.size (fun k_=>some k_≠(av:Value).ownBlock) cz aj)∧Sd (Kd.V k61 61 wc w.heap.size (fun k_=>some k_≠(av:Value).ownBlock∧some k_≠(cz:Value).ownBlock) f7 G)∧Sd (Below w.heap.size w wc))
    case first =>
     have H:=id.out;clear id;have H':=Sd.mk H;clear H;go_wp2
     go_loopg [10,11] g4 (fun kq cz f7 w'=>∃ (bk:List (S61)) (E:List (S61)),Sd (impl_OrdDivide.l0 kq o bk E=some (r1,r2,r3))∧Sd (kq≤g4)∧Sd (Kd.N k61 61 w' w.heap.size (fun k_=>some k_≠(cz:Value).ownBlock) av o)∧Sd (Kd.N k61 61 w' w.heap.size (fun k_=>some k_≠(av:Value).ownBlock) cz bk)∧Sd (Kd.V k61 61 w' w.heap.size (fun k_=>some k_≠(av:Value).ownBlock∧some k_≠(cz:Value).ownBlock) f7 E)∧Sd (Below w.heap.size w w'))
     case atStart=>exact⟨(ic),(da),H',⟨Nat.le_refl _⟩,⟨Kd.Nz <| Kd.N_mono D.out (fun _ hk=>hk.2)⟩,⟨Kd.Nz <| Kd.N_mono jr.out (fun _ hk=>hk.2)⟩,⟨Kd.N_V (Kd.Nz fc.out)⟩,⟨bz⟩⟩
     case round =>
      clear H';obtain⟨bk,E,HA,g6,D,z,j,HB⟩:=hrel
      cases gk with
      | zero=>exact absurd HA.out (by simp[impl_OrdDivide.l0])
      | succ k2 =>
       have H:=HA.out;clear HA;simp only[impl_OrdDivide.l0] at H
       by_cases es:(E.length:Int)>0
       ·rw[if_pos es] at H
        have di:decide (0<(E.length:Int))=true:=decide_eq_true es;have js:decide (0<E.length)=true:=decide_eq_true (by omega);clear es
        (first|rw[di]|(simp only[i64_w,i32_w];rw[di])|skip)
        by_cases g7:0<(E.length:Int)
        ·rw[if_pos g7] at H
         have nd:decide (0<(E.length:Int))=true:=decide_eq_true g7;have ne:decide (0<E.length)=true:=decide_eq_true (by omega);clear g7
         by_cases g8:0<(o.length:Int)
         ·rw[if_pos g8] at H
          have nf:decide (0<(o.length:Int))=true:=decide_eq_true g8;have nh:decide (0<o.length)=true:=decide_eq_true (by omega);clear g8;obtain⟨ee,km,H⟩:=bs H
          by_cases et:ee>0
          ·rw[if_pos et] at H
           have jt:decide (0<ee)=true:=decide_eq_true et;clear et;obtain⟨ef,mv,H⟩:=bs H
           by_cases g9:bk.length<4398046511104
           ·rw[if_pos g9] at H
            have ju:=Sd.mk g9;clear g9;obtain⟨gq,fe⟩:∃ y_:List (S61),y_=(bk++[(⟨(rd_T61 E 0).f0,ef⟩:S61)]):=⟨_,rfl⟩;replace H:(if 1≤(E.length:Int) then(impl_OrdDivide.l0 k2 o gq (E.drop 1)) else(none))=some (r1,r2,r3):=hz fe H;have jv:=Sd.mk fe;clear fe
            by_cases f8:1≤(E.length:Int)
            ·rw[if_pos f8] at H
             have ni:=eq_true f8;have nj:decide (1≤(E.length:Int))=true:=decide_eq_true f8;clear f8;obtain⟨b6,ff⟩:∃ y_:List (S61),y_=(E.drop 1):=⟨_,rfl⟩;replace H:(impl_OrdDivide.l0 k2 o gq b6)=some (r1,r2,r3):=hz ff H;have hc:=Sd.mk ff;clear ff;have H':=Sd.mk H;clear H
             try go_wp2
             replace D:=Sd.mk (Kd.N_drew D.out);replace z:=Sd.mk (Kd.N_drew z.out);replace j:=Sd.mk (Kd.V_drew j.out);replace HB:=Sd.mk (below_drew1 HB.out);obtain⟨oc,eg,ie⟩:=Kd.V_slice j.out
             (first|subst ie|(injection ie with ab ao ac;have ap:=ab.symm;have aq:=ac.symm;clear ab ao ac;subst ap;subst aq))
             have b7:0≤(0:Int):=(by omega);have b8:0<(E.length:Int):=dz;obtain⟨aa,bm,bn,gr,af,ad,bo,bp⟩:=at_T61 (Kd.V_reads' j.out).2.2 0 b7 b8;cases gr;obtain⟨jw,eh,ei,cj⟩:=Kd.V_get j.out z61 0 b7 (by first|exact b8|exact dz|(have e_:=(Kd.V_reads' j.out).1;omega));obtain⟨h2,h3,rfl,a1,a2⟩:=k61_openF ei;have al:=cj 1 _ rfl;rw[add_field _ _ 1 (by omega)] at al;replace al:=Option.some.inj (al.symm.trans ad)
             injection al with hva_ hvn_ hvc_
             rw[hva_] at a2;rw[hvc_] at a1;have U:=Sd.mk (show Kd.V k61 61 _ w.heap.size _ _ ((rd_T61 E 0).f1) from Kd.V_mk a1 a2);clear hva_ hvn_ hvc_ a2 a1;clear cj eh;have jx:(0<E.length)=True:=eq_true (by omega)
             (try rw[show ((0:Int)).toNat=0 from rfl] at af)
             (try rw[show 0*2=0 from rfl] at af)
             (try rw[Addr.add_zero'] at af)
             (try rw[show ((0:Int)).toNat=0 from rfl] at ad)
             (try rw[show 0*2=0 from rfl] at ad)
             (try rw[Addr.add_zero'] at ad)
             have X:=Sd.mk bp;have dr:=Sd.mk bo;clear bp bo;replace b7:=eq_true b7;replace b8:=eq_true b8;obtain⟨od,a3,ig⟩:=Kd.N_slice D.out
             (first|subst ig|(injection ig with ab ao ac;have ap:=ab.symm;have aq:=ac.symm;clear ab ao ac;subst ap;subst aq))
             have b9:0≤(0:Int):=(by omega);have ca:0<(o.length:Int):=dz;obtain⟨M,bq,br,gs,ag,ae,bt,bu⟩:=at_T61 (Kd.N_reads' D.out).2.2 0 b9 ca;cases gs;obtain⟨jy,ej,ek,ck⟩:=Kd.N_get D.out z61 0 b9 (by first|exact ca|exact dz|(have e_:=(Kd.N_reads' D.out).1;omega));obtain⟨h4,h5,rfl,a4,a5⟩:=k61_openF ek;have am:=ck 1 _ rfl;rw[add_field _ _ 1 (by omega)] at am;replace am:=Option.some.inj (am.symm.trans ae)
             injection am with hva_ hvn_ hvc_
             rw[hva_] at a5;rw[hvc_] at a4;have Y:=Sd.mk (show Kd.V k61 61 _ w.heap.size _ _ ((rd_T61 o 0).f1) from Kd.V_mk a4 a5);clear hva_ hvn_ hvc_ a5 a4;clear ck ej;have jz:(0<o.length)=True:=eq_true (by omega)
             (try rw[show ((0:Int)).toNat=0 from rfl] at ag)
             (try rw[show 0*2=0 from rfl] at ag)
             (try rw[Addr.add_zero'] at ag)
             (try rw[show ((0:Int)).toNat=0 from rfl] at ae)
             (try rw[show 0*2=0 from rfl] at ae)
             (try rw[Addr.add_zero'] at ae)
             have Z:=Sd.mk bu;have dt:=Sd.mk bt;clear bu bt;replace b9:=eq_true b9;replace ca:=eq_true ca;refine start_ (n:=15) (S:=fun w'=>w'.cell? aa=some (.int .i64 ((rd_T61 E 0).f0))∧w'.cell? ⟨aa.block,aa.off+1,none⟩=some (.slice bm ((rd_T61 E 0).f1).length bn)∧w'.cell? M=some (.int .i64 ((rd_T61 o 0).f0))∧w'.cell? ⟨M.block,M.off+1,none⟩=some (.slice bq ((rd_T61 o 0).f1).length br)) (ds:=[]) #[F,F,F,F,F,F,F,F,F,F,F,F,F,F,F] (by kernel_rfl) rfl rfl ⟨af,ad,ag,ae⟩ (fun hHeld=>?_);refine with_tabW impl_OrdDivide.tab5 impl_OrdDivide.bits5 (fun HT_ HW_=>?_)
             generalize wr.drew=pe at D z j HB U Y X Z af ad ag ae hHeld ⊢
             refine qs 0 33 HT_.out ?_;refine qs 1 34 HT_.out ?_;refine qs 2 35 HT_.out ?_;refine qs 3 36 HT_.out ?_;refine qs 4 37 HT_.out ?_;refine qs 5 38 HT_.out ?_;refine qs 6 39 HT_.out ?_;refine qs 8 41 HT_.out ?_;refine qs 9 42 HT_.out ?_;refine qs 10 43 HT_.out ?_;refine tk 7 40 HT_.out HW_.out hHeld rfl rfl (by rintro w' ⟨s0,s1,s2,s3⟩;go_simp;with_reducible rfl) ?_;refine tk 11 44 HT_.out HW_.out hHeld rfl rfl (by rintro w' ⟨s0,s1,s2,s3⟩;go_simp;with_reducible rfl) ?_;refine on 12 45 HT_.out (fun K hK=>?_);refine goes_ Try.func50 (by kernel_rfl) rfl #[.slice bm ((rd_T61 E 0).f1).length bn,.slice bq ((rd_T61 o 0).f1).length br] (by rfl) rfl rfl az ?_
             with_reducible refine(impl_compare.calls k2 _ _ ((rd_T61 E 0).f1) _ _ ((rd_T61 o 0).f1) ee _ ?side1 ?side2 ?side3 ?side4 km.out).mono ?_
             (case side1=>exact(Kd.Cz X.out))
             (case side2=>exact dr.out)
             (case side3=>exact(Kd.Cz Z.out))
             (case side4=>exact dt.out)
             rintro e mw ⟨rfl,hb⟩;have dc:=cg hb hHeld.1;have dd:=cg hb hHeld.2.1;have de:=cg hb hHeld.2.2.1;have df:=cg hb hHeld.2.2.2;refine⟨_,rfl,?_⟩;replace D:=Sd.mk (Kd.N_below (Kd.Nz D.out) hb);replace z:=Sd.mk (Kd.N_below (Kd.Nz z.out) hb);replace j:=Sd.mk (Kd.V_below (Kd.Vz j.out) hb);replace U:=Sd.mk (Kd.V_below (Kd.Vz U.out) hb);replace Y:=Sd.mk (Kd.V_below (Kd.Vz Y.out) hb);replace X:=Sd.mk (Kd.C_below (Kd.Cz X.out) hb);replace Z:=Sd.mk (Kd.C_below (Kd.Cz Z.out) hb);replace HB:=Sd.mk (below_step bz hb);refine hK.out _ _ ⟨dc,dd,de,df⟩ (fun hHeld=>?_);clear hK K;refine nm (some 45) ?_;refine qs 13 46 HT_.out ?_;refine qs 14 47 HT_.out ?_;refine done_ (done_of HT_.out (by kernel_rfl)) ?_
             try go_wp2
             replace D:=Sd.mk (Kd.N_drew D.out);replace z:=Sd.mk (Kd.N_drew z.out);replace j:=Sd.mk (Kd.V_drew j.out);replace U:=Sd.mk (Kd.V_drew U.out);replace Y:=Sd.mk (Kd.V_drew Y.out);replace X:=Sd.mk (Kd.C_drew X.out);replace Z:=Sd.mk (Kd.C_drew Z.out);replace HB:=Sd.mk (below_drew1 HB.out);have fg:0≤(0:Int):=(by omega);have fh:0<(E.length:Int):=dz;obtain⟨j7,el,em,kv,bv,aw,eu,ev⟩:=at_T61 (Kd.V_reads' j.out).2.2 0 fg fh;obtain rfl:aa=j7:=(by injection kv);obtain⟨nk,ih,ii,f9⟩:=Kd.V_get j.out z61 0 fg (by first|exact fh|exact dz|(have e_:=(Kd.V_reads' j.out).1;omega));obtain⟨l2,l3,rfl,du,dv⟩:=k61_openF ii;have cm:=f9 1 _ rfl;rw[add_field _ _ 1 (by omega)] at cm;replace cm:=Option.some.inj (cm.symm.trans aw)
             injection cm with hva_ hvn_ hvc_
             rw[hva_] at dv;rw[hvc_] at du;have bw:=Sd.mk (show Kd.V k61 61 _ w.heap.size _ _ ((rd_T61 E 0).f1) from Kd.V_mk du dv);clear hva_ hvn_ hvc_ dv du;clear f9 ih;have nl:(0<E.length)=True:=eq_true (by omega)
             (try rw[show ((0:Int)).toNat=0 from rfl] at bv)
             (try rw[show 0*2=0 from rfl] at bv)
             (try rw[Addr.add_zero'] at bv)
             (try rw[show ((0:Int)).toNat=0 from rfl] at aw)
             (try rw[show 0*2=0 from rfl] at aw)
             (try rw[Addr.add_zero'] at aw)
             (try (have ij:=Option.some.inj (aw.symm.trans (show _=some (Value.slice bm _ bn) from by assumption));injection ij with ik ax il;clear ax;subst ik;subst il))
             have dw:=Sd.mk ev;have l4:=Sd.mk eu;clear ev eu;replace fg:=eq_true fg;replace fh:=eq_true fh;have fi:0≤(0:Int):=(by omega);have fj:0<(E.length:Int):=dz;obtain⟨j8,my,mz,kw,bx,a6,ew,ex⟩:=at_T61 (Kd.V_reads' j.out).2.2 0 fi fj;obtain rfl:aa=j8:=(by injection kw);obtain⟨nn,im,io,ga⟩:=Kd.V_get j.out z61 0 fi (by first|exact fj|exact dz|(have e_:=(Kd.V_reads' j.out).1;omega));obtain⟨l5,l6,rfl,dx,dy⟩:=k61_openF io;have cn:=ga 1 _ rfl;rw[add_field _ _ 1 (by omega)] at cn;replace cn:=Option.some.inj (cn.symm.trans a6)
             injection cn with hva_ hvn_ hvc_
             rw[hva_] at dy;rw[hvc_] at dx;have bc:=Sd.mk (show Kd.V k61 61 _ w.heap.size _ _ ((rd_T61 E 0).f1) from Kd.V_mk dx dy);clear hva_ hvn_ hvc_ dy dx;clear ga im;have no:(0<E.length)=True:=eq_true (by omega)
             (try rw[show ((0:Int)).toNat=0 from rfl] at bx)
             (try rw[show 0*2=0 from rfl] at bx)
             (try rw[Addr.add_zero'] at bx)
             (try rw[show ((0:Int)).toNat=0 from rfl] at a6)
             (try rw[show 0*2=0 from rfl] at a6)
             (try rw[Addr.add_zero'] at a6)
             have d0:=Sd.mk ex;have l7:=Sd.mk ew;clear ex ew;replace fi:=eq_true fi;replace fj:=eq_true fj;have iq:=Option.some.inj (aw.symm.trans a6)
             injection iq with iq m0 m1
             subst iq;subst m1;clear m0;have fk:0≤(0:Int):=(by omega);have fl:0<(o.length:Int):=dz;obtain⟨j9,gb,gc,kx,b0,a7,ey,ez⟩:=at_T61 (Kd.N_reads' D.out).2.2 0 fk fl;obtain rfl:M=j9:=(by injection kx);obtain⟨np,ir,it,gf⟩:=Kd.N_get D.out z61 0 fk (by first|exact fl|exact dz|(have e_:=(Kd.N_reads' D.out).1;omega));obtain⟨l8,l9,rfl,d1,d2⟩:=k61_openF it;have co:=gf 1 _ rfl;rw[add_field _ _ 1 (by omega)] at co;replace co:=Option.some.inj (co.symm.trans a7)
             injection co with hva_ hvn_ hvc_
             rw[hva_] at d2;rw[hvc_] at d1;have b1:=Sd.mk (show Kd.V k61 61 _ w.heap.size _ _ ((rd_T61 o 0).f1) from Kd.V_mk d1 d2);clear hva_ hvn_ hvc_ d2 d1;clear gf ir;have nq:(0<o.length)=True:=eq_true (by omega)
             (try rw[show ((0:Int)).toNat=0 from rfl] at b0)
             (try rw[show 0*2=0 from rfl] at b0)
             (try rw[Addr.add_zero'] at b0)
             (try rw[show ((0:Int)).toNat=0 from rfl] at a7)
             (try rw[show 0*2=0 from rfl] at a7)
             (try rw[Addr.add_zero'] at a7)
             (try (have ij:=Option.some.inj (a7.symm.trans (show _=some (Value.slice bq _ br) from by assumption));injection ij with ik ax il;clear ax;subst ik;subst il))
             have cp:=Sd.mk ez;have h6:=Sd.mk ey;clear ez ey;replace fk:=eq_true fk;replace fl:=eq_true fl;refine start_ (n:=18) (S:=fun w'=>w'.cell? aa=some (.int .i64 ((rd_T61 E 0).f0))∧w'.cell? ⟨aa.block,aa.off+1,none⟩=some (.slice el ((rd_T61 E 0).f1).length em)∧w'.cell? aa=some (.int .i64 ((rd_T61 E 0).f0))∧w'.cell? ⟨aa.block,aa.off+1,none⟩=some (.slice el ((rd_T61 E 0).f1).length em)∧w'.cell? M=some (.int .i64 ((rd_T61 o 0).f0))∧w'.cell? ⟨M.block,M.off+1,none⟩=some (.slice gb ((rd_T61 o 0).f1).length gc)) (ds:=[15,16]) #[F,F,F,F,F,F,F,F,F,F,F,F,F,F,F,F,F,F] (by kernel_rfl) rfl rfl ⟨bv,aw,bx,a6,b0,a7⟩ (fun hHeld=>?_);refine with_tabW impl_OrdDivide.tab6 impl_OrdDivide.bits6 (fun HT_ HW_=>?_)
             generalize mw.drew=pf at D z j U Y X Z HB bw bc b1 dw d0 cp bv aw bx a6 b0 a7 hHeld ⊢
             refine qs 0 48 HT_.out ?_;refine qs 1 49 HT_.out ?_;refine qs 2 50 HT_.out ?_;refine qs 3 51 HT_.out ?_;refine qs 5 53 HT_.out ?_;refine qs 6 54 HT_.out ?_;refine qs 7 55 HT_.out ?_;refine qs 9 57 HT_.out ?_;refine qs 10 58 HT_.out ?_;refine qs 11 59 HT_.out ?_;refine tk 4 52 HT_.out HW_.out hHeld rfl rfl (by rintro w' ⟨s0,s1,s2,s3,s4,s5⟩;go_simp;with_reducible rfl) ?_;refine tk 8 56 HT_.out HW_.out hHeld rfl rfl (by rintro w' ⟨s0,s1,s2,s3,s4,s5⟩;go_simp;with_reducible rfl) ?_;refine tk 12 60 HT_.out HW_.out hHeld rfl rfl (by rintro w' ⟨s0,s1,s2,s3,s4,s5⟩;go_simp;with_reducible rfl) ?_;refine on 13 61 HT_.out (fun K hK=>?_);refine goes_ Try.func51 (by kernel_rfl) rfl #[.slice el ((rd_T61 E 0).f1).length em,.slice gb ((rd_T61 o 0).f1).length gc] (by rfl) rfl rfl az ?_
             with_reducible refine(impl_minus.calls k2 (fun k_=>(some k_≠(.slice (some M) o.length a3:Value).ownBlock∧some k_≠(u10:Value).ownBlock)) _ _ ((rd_T61 E 0).f1) _ _ ((rd_T61 o 0).f1) ef _ ?side1 ?side2 ?side3 mv.out).mono ?_
             (case side1=>exact bc.out)
             (case side2=>exact(Kd.Cz cp.out))
             (case side3=>exact h6.out)
             rintro e pg ⟨oe,rfl,I,hb⟩;have dc:=cg hb hHeld.1;have dd:=cg hb hHeld.2.1;have de:=cg hb hHeld.2.2.1;have df:=cg hb hHeld.2.2.2.1;have ky:=cg hb hHeld.2.2.2.2.1;have k0:=cg hb hHeld.2.2.2.2.2;refine⟨_,rfl,?_⟩;replace j:=Sd.mk (Kd.V_below (Kd.Vz j.out) hb);replace U:=Sd.mk (Kd.V_below (Kd.Vz U.out) hb);replace Y:=Sd.mk (Kd.V_below (Kd.Vz Y.out) hb);replace bw:=Sd.mk (Kd.V_below (Kd.Vz bw.out) hb);replace bc:=Sd.mk (Kd.V_below (Kd.Vz bc.out) hb);replace b1:=Sd.mk (Kd.V_below (Kd.Vz b1.out) hb);have dj:=Sd.mk (Kd.V_lower (Kd.V_mono (ok':=fun k_=>some k_≠(.slice (some M) o.length a3:Value).ownBlock∧some k_≠(u10:Value).ownBlock) I (fun k_ an=>⟨Or.elim an (fun ak=>ak.1) (fun ax=>(Kd.fresh' (Kd.N_lt (Kd.Nz D.out)) k_ ax)),Or.elim an (fun ak=>ak.2) (fun ax=>(Kd.fresh' (Kd.N_lt (Kd.Nz z.out)) k_ ax))⟩)) (below_size bz));replace D:=Sd.mk (Kd.N_below (Kd.Nz D.out) hb);replace z:=Sd.mk (Kd.N_below (Kd.Nz z.out) hb);replace X:=Sd.mk (Kd.C_below (Kd.Cz X.out) hb);replace Z:=Sd.mk (Kd.C_below (Kd.Cz Z.out) hb);replace dw:=Sd.mk (Kd.C_below (Kd.Cz dw.out) hb);replace d0:=Sd.mk (Kd.C_below (Kd.Cz d0.out) hb);replace cp:=Sd.mk (Kd.C_below (Kd.Cz cp.out) hb);replace HB:=Sd.mk (below_step bz hb);obtain⟨k1,k3,iu⟩:=Kd.V_slice dj.out
             (first|subst iu|(injection iu with ab ao ac;have ap:=ab.symm;have aq:=ac.symm;clear ab ao ac;subst ap;subst aq))
             refine hK.out _ _ ⟨dc,dd,de,df,ky,k0⟩ (fun hHeld=>?_);clear hK K;refine nm (some 61) ?_;refine qs 14 62 HT_.out ?_;refine la 15 63 HT_.out (fun K hK=>?_);refine value_ (w1:=?_) (v:=?_) (by rfl) rfl ?_ ?_
             rotate_left 2
             ·go_simp
              constructor
              ·rfl
              ·rfl
             refine hK.out _ _ ?_;clear hK K;refine nm (some 63) ?_;refine la 16 64 HT_.out (fun K hK=>?_);refine Kd.N_append_step k61 (w0:=w) w.heap.size (by rfl) (.tmp 48) (.tmp 63) 46 61 (.agg #[(.int .i64 0),(.slice none 0 0)]) 32 rfl Try.underlying46 info61 rfl (by decide) (by omega) u10 bk (⟨(rd_T61 E 0).f0,ef⟩:S61) [.int .i64 ((rd_T61 E 0).f0),.slice k1 ef.length k3] (fun k_=>some k_≠(.slice (some M) o.length a3:Value).ownBlock) (fun k_=>((fun k_=>some k_≠(.slice (some M) o.length a3:Value).ownBlock)) k_∧some k_≠(u10:Value).ownBlock) rfl rfl ?aP (fun _ hk=>hk) ?aF ?aO ?aB ?aS ?aL ?_
             (case aP=>exact(k61_mkF _ _ (⟨(rd_T61 E 0).f0,ef⟩:S61) (Kd.V_reads' (Kd.V_mono (ok':=(fun k_=>((fun k_=>some k_≠(.slice (some M) o.length a3:Value).ownBlock)) k_∧some k_≠(u10:Value).ownBlock)) (dj.out) (fun k_ hk=>⟨hk.1,hk.2⟩))).2.1 (Kd.V_F (Kd.V_mono (ok':=(fun k_=>((fun k_=>some k_≠(.slice (some M) o.length a3:Value).ownBlock)) k_∧some k_≠(u10:Value).ownBlock)) (dj.out) (fun k_ hk=>⟨hk.1,hk.2⟩)))))
             (case aB=>exact bz)
             (case aF=>exact(fun k_ hk=>Kd.fresh' (Kd.N_lt (Kd.Nz D.out)) k_ hk))
             (case aO=>exact(Kd.Nz z.out))
             (case aS=>exact(below_size bz))
             (case aL=>have:=ju.out;omega)
             intro og ph ho hb hg hat;rw[← jv.out] at ho;replace D:=Sd.mk (Kd.N_afterv (ok:=(fun _=>True)) (Kd.Nz <| Kd.N_mono D.out (fun _ hk=>⟨trivial,hk⟩)) hg hat);replace j:=Sd.mk (Kd.V_afterv (ok:=(fun k_=>some k_≠(.slice (some M) o.length a3:Value).ownBlock)) (Kd.Vz j.out) hg hat);replace U:=Sd.mk (Kd.V_afterv (ok:=(fun k_=>some k_≠(.slice (some M) o.length a3:Value).ownBlock)) (Kd.Vz U.out) hg hat);replace Y:=Sd.mk (Kd.V_afterv (ok:=(fun k_=>some k_≠(.slice (some M) o.length a3:Value).ownBlock)) (Kd.Vz <| Kd.V_mono Y.out (fun _ hk=>⟨hk.2,hk.1⟩)) hg hat);replace bw:=Sd.mk (Kd.V_afterv (ok:=(fun k_=>some k_≠(.slice (some M) o.length a3:Value).ownBlock)) (Kd.Vz bw.out) hg hat);replace bc:=Sd.mk (Kd.V_afterv (ok:=(fun k_=>some k_≠(.slice (some M) o.length a3:Value).ownBlock)) (Kd.Vz bc.out) hg hat);replace b1:=Sd.mk (Kd.V_afterv (ok:=(fun k_=>some k_≠(.slice (some M) o.length a3:Value).ownBlock)) (Kd.Vz <| Kd.V_mono b1.out (fun _ hk=>⟨hk.2,hk.1⟩)) hg hat);replace dj:=Sd.mk (Kd.V_afterv (ok:=(fun k_=>some k_≠(.slice (some M) o.length a3:Value).ownBlock)) (Kd.Vz dj.out) hg hat);replace HB:=Sd.mk (hb);have ka:=Sd.mk (ho);clear z;clear ho hb hg hat;refine hK.out _ _ ?_;clear hK K;refine nm (some 64) ?_;refine qs 17 10 HT_.out ?_;refine done_ (done_of HT_.out (by kernel_rfl)) ?_;have iv:(1:Int)≤((E.length:Int):Int):=dz;obtain⟨oh,he,_,hf,_⟩:=info_parts info61;have hroom28:E.length≤eg:=(Kd.V_reads' j.out).2.1;have iw:Kd.F k61 _ _ (some aa) E.length E:=(Kd.V_at (base:=w.heap.size) j.out).2.2;have hcut28:=cut_from (P:=Try.prog) 46 61 .i64 Try.underlying46 he 2 hf (some aa) E.length eg 1 (by omega) iv;have en:=Kd.F_cut (m:=(1:Int).toNat) (c:=eg) iw (by omega) hroom28;obtain⟨kn,fm⟩:∃ Aq_,Aq_=(if eg=(1:Int).toNat then(some aa) else((some aa):Option Addr).map (·.add ((1:Int).toNat*2))):=⟨_,rfl⟩;obtain⟨ko,fn⟩:∃ m3,m3=eg-(1:Int).toNat:=⟨_,rfl⟩;have eo:b6.length=E.length-(1:Int).toNat:=(by rw[hc.out,List.length_drop]<;>omega);rw[show (E).drop (1:Int).toNat=b6 from hc.out.symm] at en;replace en:Kd.F k61 _ _ kn b6.length b6:=(by rw[fm];exact en);rw[← eo,← fm,← fn] at hcut28;have kb:=Sd.mk (show Kd.V k61 61 _ w.heap.size _ (.slice kn b6.length ko) b6 from Kd.V_mk (by rw[eo,fn];exact Nat.sub_le_sub_right hroom28 _) en);have nr:=Sd.mk (show b6.length≤ko from by rw[eo,fn];exact Nat.sub_le_sub_right hroom28 _);clear en iw hroom28 he hf fn;have oj:=Sd.mk eo;have ol:=Sd.mk fm;clear eo fm;replace iv:=eq_true iv
             try go_wp2
             go_roundg k2
             case measure=>have:=bl.out;have:=g6.out;omega
             case rel=>exact⟨(gq),(b6),H',⟨by have:=bl.out;have:=g6.out;omega⟩,⟨Kd.Nz <| Kd.N_mono D.out (fun _ hk=>hk.2)⟩,⟨Kd.Nz ka.out⟩,⟨Kd.Vz kb.out⟩,⟨bz⟩⟩
            ·rw[if_neg f8] at H
             exact absurd H (by simp)
           ·rw[if_neg g9] at H
            exact absurd H (by simp)
          ·rw[if_neg et] at H
           have jt:decide (0<ee)=false:=decide_eq_false et;clear et;have H':=Sd.mk H;clear H
           try go_wp2
           replace D:=Sd.mk (Kd.N_drew D.out);replace z:=Sd.mk (Kd.N_drew z.out);replace j:=Sd.mk (Kd.V_drew j.out);replace HB:=Sd.mk (below_drew1 HB.out);obtain⟨om,oo,ix⟩:=Kd.V_slice j.out
           (first|subst ix|(injection ix with ab ao ac;have ap:=ab.symm;have aq:=ac.symm;clear ab ao ac;subst ap;subst aq))
           have b7:0≤(0:Int):=(by omega);have b8:0<(E.length:Int):=dz;obtain⟨aa,bm,bn,gr,af,ad,bo,bp⟩:=at_T61 (Kd.V_reads' j.out).2.2 0 b7 b8;cases gr;obtain⟨jw,eh,ei,cj⟩:=Kd.V_get j.out z61 0 b7 (by first|exact b8|exact dz|(have e_:=(Kd.V_reads' j.out).1;omega));obtain⟨h2,h3,rfl,a1,a2⟩:=k61_openF ei;have al:=cj 1 _ rfl;rw[add_field _ _ 1 (by omega)] at al;replace al:=Option.some.inj (al.symm.trans ad)
           injection al with hva_ hvn_ hvc_
           rw[hva_] at a2;rw[hvc_] at a1;have U:=Sd.mk (show Kd.V k61 61 _ w.heap.size _ _ ((rd_T61 E 0).f1) from Kd.V_mk a1 a2);clear hva_ hvn_ hvc_ a2 a1;clear cj eh;have jx:(0<E.length)=True:=eq_true (by omega)
           (try rw[show ((0:Int)).toNat=0 from rfl] at af)
           (try rw[show 0*2=0 from rfl] at af)
           (try rw[Addr.add_zero'] at af)
           (try rw[show ((0:Int)).toNat=0 from rfl] at ad)
           (try rw[show 0*2=0 from rfl] at ad)
           (try rw[Addr.add_zero'] at ad)
           have X:=Sd.mk bp;have dr:=Sd.mk bo;clear bp bo;replace b7:=eq_true b7;replace b8:=eq_true b8;obtain⟨op,oq,iy⟩:=Kd.N_slice D.out
           (first|subst iy|(injection iy with ab ao ac;have ap:=ab.symm;have aq:=ac.symm;clear ab ao ac;subst ap;subst aq))
           have b9:0≤(0:Int):=(by omega);have ca:0<(o.length:Int):=dz;obtain⟨M,bq,br,gs,ag,ae,bt,bu⟩:=at_T61 (Kd.N_reads' D.out).2.2 0 b9 ca;cases gs;obtain⟨jy,ej,ek,ck⟩:=Kd.N_get D.out z61 0 b9 (by first|exact ca|exact dz|(have e_:=(Kd.N_reads' D.out).1;omega));obtain⟨h4,h5,rfl,a4,a5⟩:=k61_openF ek;have am:=ck 1 _ rfl;rw[add_field _ _ 1 (by omega)] at am;replace am:=Option.some.inj (am.symm.trans ae)
           injection am with hva_ hvn_ hvc_
           rw[hva_] at a5;rw[hvc_] at a4;have Y:=Sd.mk (show Kd.V k61 61 _ w.heap.size _ _ ((rd_T61 o 0).f1) from Kd.V_mk a4 a5);clear hva_ hvn_ hvc_ a5 a4;clear ck ej;have jz:(0<o.length)=True:=eq_true (by omega)
           (try rw[show ((0:Int)).toNat=0 from rfl] at ag)
           (try rw[show 0*2=0 from rfl] at ag)
           (try rw[Addr.add_zero'] at ag)
           (try rw[show ((0:Int)).toNat=0 from rfl] at ae)
           (try rw[show 0*2=0 from rfl] at ae)
           (try rw[Addr.add_zero'] at ae)
           have Z:=Sd.mk bu;have dt:=Sd.mk bt;clear bu bt;replace b9:=eq_true b9;replace ca:=eq_true ca;refine start_ (n:=15) (S:=fun w'=>w'.cell? aa=some (.int .i64 ((rd_T61 E 0).f0))∧w'.cell? ⟨aa.block,aa.off+1,none⟩=some (.slice bm ((rd_T61 E 0).f1).length bn)∧w'.cell? M=some (.int .i64 ((rd_T61 o 0).f0))∧w'.cell? ⟨M.block,M.off+1,none⟩=some (.slice bq ((rd_T61 o 0).f1).length br)) (ds:=[]) #[F,F,F,F,F,F,F,F,F,F,F,F,F,F,F] (by kernel_rfl) rfl rfl ⟨af,ad,ag,ae⟩ (fun hHeld=>?_);refine with_tabW impl_OrdDivide.tab5 impl_OrdDivide.bits5 (fun HT_ HW_=>?_)
           generalize wr.drew=pi at D z j HB U Y X Z af ad ag ae hHeld ⊢
           refine qs 0 33 HT_.out ?_;refine qs 1 34 HT_.out ?_;refine qs 2 35 HT_.out ?_;refine qs 3 36 HT_.out ?_;refine qs 4 37 HT_.out ?_;refine qs 5 38 HT_.out ?_;refine qs 6 39 HT_.out ?_;refine qs 8 41 HT_.out ?_;refine qs 9 42 HT_.out ?_;refine qs 10 43 HT_.out ?_;refine tk 7 40 HT_.out HW_.out hHeld rfl rfl (by rintro w' ⟨s0,s1,s2,s3⟩;go_simp;with_reducible rfl) ?_;refine tk 11 44 HT_.out HW_.out hHeld rfl rfl (by rintro w' ⟨s0,s1,s2,s3⟩;go_simp;with_reducible rfl) ?_;refine on 12 45 HT_.out (fun K hK=>?_);refine goes_ Try.func50 (by kernel_rfl) rfl #[.slice bm ((rd_T61 E 0).f1).length bn,.slice bq ((rd_T61 o 0).f1).length br] (by rfl) rfl rfl az ?_
           with_reducible refine(impl_compare.calls k2 _ _ ((rd_T61 E 0).f1) _ _ ((rd_T61 o 0).f1) ee _ ?side1 ?side2 ?side3 ?side4 km.out).mono ?_
           (case side1=>exact(Kd.Cz X.out))
           (case side2=>exact dr.out)
           (case side3=>exact(Kd.Cz Z.out))
           (case side4=>exact dt.out)
           rintro e pj ⟨rfl,hb⟩;have dc:=cg hb hHeld.1;have dd:=cg hb hHeld.2.1;have de:=cg hb hHeld.2.2.1;have df:=cg hb hHeld.2.2.2;refine⟨_,rfl,?_⟩;replace D:=Sd.mk (Kd.N_below (Kd.Nz D.out) hb);replace z:=Sd.mk (Kd.N_below (Kd.Nz z.out) hb);replace j:=Sd.mk (Kd.V_below (Kd.Vz j.out) hb);replace U:=Sd.mk (Kd.V_below (Kd.Vz U.out) hb);replace Y:=Sd.mk (Kd.V_below (Kd.Vz Y.out) hb);replace X:=Sd.mk (Kd.C_below (Kd.Cz X.out) hb);replace Z:=Sd.mk (Kd.C_below (Kd.Cz Z.out) hb);replace HB:=Sd.mk (below_step bz hb);refine hK.out _ _ ⟨dc,dd,de,df⟩ (fun hHeld=>?_);clear hK K;refine nm (some 45) ?_;refine qs 13 46 HT_.out ?_;refine qs 14 47 HT_.out ?_;refine done_ (done_of HT_.out (by kernel_rfl)) ?_
           try go_wp2
           go_meet
           case rel=>exact⟨_,(bk),(E),H',⟨by have:=bl.out;have:=g6.out;first|omega|exact Nat.le_refl _⟩,⟨Kd.Nz D.out⟩,⟨Kd.Nz z.out⟩,⟨Kd.Vz j.out⟩,⟨bz⟩⟩
         ·rw[if_neg g8] at H
          exact absurd H (by simp)
        ·rw[if_neg g7] at H
         exact absurd H (by simp)
       ·rw[if_neg es] at H
        have di:decide (0<(E.length:Int))=false:=decide_eq_false es;have js:decide (0<E.length)=false:=decide_eq_false (by omega);clear es
        (first|rw[di]|(simp only[i64_w,i32_w];rw[di])|skip)
        have H':=Sd.mk H;clear H
        try go_wp2
        replace D:=Sd.mk (Kd.N_drew D.out);replace z:=Sd.mk (Kd.N_drew z.out);replace j:=Sd.mk (Kd.V_drew j.out);replace HB:=Sd.mk (below_drew1 HB.out);obtain⟨os,ot,i0⟩:=Kd.V_slice j.out
        (first|subst i0|(injection i0 with ab ao ac;have ap:=ab.symm;have aq:=ac.symm;clear ab ao ac;subst ap;subst aq))
        refine start_ (n:=15) (S:=fun w'=>True) (ds:=[]) #[F,F,F,F,F,F,F,F,F,F,F,F,F,F,F] (by kernel_rfl) rfl rfl trivial (fun hHeld=>?_);refine with_tabW impl_OrdDivide.tab5 impl_OrdDivide.bits5 (fun HT_ HW_=>?_)
        generalize wr.drew=pk at D z j HB hHeld ⊢
        refine qs 0 33 HT_.out ?_;refine qs 1 34 HT_.out ?_;refine qs 2 35 HT_.out ?_;refine qs 3 36 HT_.out ?_;refine pu 4 (some 37) HT_.out rfl rfl ?_;refine pu 5 (some 38) HT_.out rfl rfl ?_;refine pu 6 (some 39) HT_.out rfl rfl ?_;refine pu 7 (some 40) HT_.out rfl rfl ?_;refine pu 8 (some 41) HT_.out rfl rfl ?_;refine pu 9 (some 42) HT_.out rfl rfl ?_;refine pu 10 (some 43) HT_.out rfl rfl ?_;refine pu 11 (some 44) HT_.out rfl rfl ?_;refine pu 12 (some 45) HT_.out rfl rfl ?_;refine pu 13 (some 46) HT_.out rfl rfl ?_;refine qs 14 47 HT_.out ?_;refine done_ (done_of HT_.out (by kernel_rfl)) ?_
        try go_wp2
        go_meet
        case rel=>exact⟨_,(bk),(E),H',⟨by have:=bl.out;have:=g6.out;first|omega|exact Nat.le_refl _⟩,⟨Kd.Nz D.out⟩,⟨Kd.Nz z.out⟩,⟨Kd.Vz j.out⟩,⟨bz⟩⟩
    case rest =>
     clear id;obtain⟨kq,aj,G,HA,dk,D,z,j,HB⟩:=hcut
     cases kq with
     | zero=>exact absurd HA.out (by simp[impl_OrdDivide.j2])
     | succ kp =>
      have H:=HA.out;clear HA;simp only[impl_OrdDivide.j2] at H;have gt:=Sd.mk H;clear H
      go_upto_region 8 with (fail)
      go_cut [81] (fun m4 wc=>∃ (kq:Nat) (dl:Bool),m4=.bool dl∧Sd (impl_OrdDivide.j3 kq o aj G dl=some (r1,r2,r3))∧Sd (kq≤kp)∧Sd (Kd.N k61 61 wc w.heap.size (fun k_=>some k_≠(u10:Value).ownBlock) av o)∧Sd (Kd.N k61 61 wc w.heap.size (fun k_=>some k_≠(av:Value).ownBlock) u10 aj)∧Sd (Kd.V k61 61 wc w.heap.size (fun k_=>some k_≠(av:Value).ownBlock∧some k_≠(u10:Value).ownBlock) u11 G)∧Sd (Below w.heap.size w wc))
      case first =>
       have H:=gt.out;clear gt
       by_cases e0:(G.length:Int)>0
       ·rw[if_pos e0] at H
        have dm:decide (0<(G.length:Int))=true:=decide_eq_true e0;have kc:decide (0<G.length)=true:=decide_eq_true (by omega);clear e0
        (first|rw[dm]|(simp only[i64_w,i32_w];rw[dm])|skip)
        by_cases hh:0<(G.length:Int)
        ·rw[if_pos hh] at H
         have ns:decide (0<(G.length:Int))=true:=decide_eq_true hh;have nt:decide (0<G.length)=true:=decide_eq_true (by omega);clear hh
         by_cases hj:0<(o.length:Int)
         ·rw[if_pos hj] at H
          have nu:decide (0<(o.length:Int))=true:=decide_eq_true hj;have nv:decide (0<o.length)=true:=decide_eq_true (by omega);clear hj;obtain⟨i1,m5,H⟩:=bs H;have H':=Sd.mk H;clear H
          try go_wp2
          replace D:=Sd.mk (Kd.N_drew D.out);replace z:=Sd.mk (Kd.N_drew z.out);replace j:=Sd.mk (Kd.V_drew j.out);replace HB:=Sd.mk (below_drew1 HB.out);obtain⟨ou,ov,i2⟩:=Kd.V_slice j.out
          (first|subst i2|(injection i2 with ab ao ac;have ap:=ab.symm;have aq:=ac.symm;clear ab ao ac;subst ap;subst aq))
          have fo:0≤(0:Int):=(by omega);have fp:0<(G.length:Int):=dz;obtain⟨fq,gg,gh,k4,b2,bd,e1,e2⟩:=at_T61 (Kd.V_reads' j.out).2.2 0 fo fp;cases k4;obtain⟨nw,i3,i4,gi⟩:=Kd.V_get j.out z61 0 fo (by first|exact fp|exact dz|(have e_:=(Kd.V_reads' j.out).1;omega));obtain⟨ma,mb,rfl,d3,d4⟩:=k61_openF i4;have cq:=gi 1 _ rfl;rw[add_field _ _ 1 (by omega)] at cq;replace cq:=Option.some.inj (cq.symm.trans bd)
          injection cq with hva_ hvn_ hvc_
          rw[hva_] at d4;rw[hvc_] at d3;have d5:=Sd.mk (show Kd.V k61 61 _ w.heap.size _ _ ((rd_T61 G 0).f1) from Kd.V_mk d3 d4);clear hva_ hvn_ hvc_ d4 d3;clear gi i3;have nx:(0<G.length)=True:=eq_true (by omega)
          (try rw[show ((0:Int)).toNat=0 from rfl] at b2)
          (try rw[show 0*2=0 from rfl] at b2)
          (try rw[Addr.add_zero'] at b2)
          (try rw[show ((0:Int)).toNat=0 from rfl] at bd)
          (try rw[show 0*2=0 from rfl] at bd)
          (try rw[Addr.add_zero'] at bd)
          have cr:=Sd.mk e2;have h7:=Sd.mk e1;clear e2 e1;replace fo:=eq_true fo;replace fp:=eq_true fp;obtain⟨ow,ox,i5⟩:=Kd.N_slice D.out
          (first|subst i5|(injection i5 with ab ao ac;have ap:=ab.symm;have aq:=ac.symm;clear ab ao ac;subst ap;subst aq))
          have fr:0≤(0:Int):=(by omega);have fs:0<(o.length:Int):=dz;obtain⟨fu,gj,gl,k5,b3,be,e3,e4⟩:=at_T61 (Kd.N_reads' D.out).2.2 0 fr fs;cases k5;obtain⟨ny,i6,i7,gm⟩:=Kd.N_get D.out z61 0 fr (by first|exact fs|exact dz|(have e_:=(Kd.N_reads' D.out).1;omega));obtain⟨mc,me,rfl,d6,d7⟩:=k61_openF i7;have cs:=gm 1 _ rfl;rw[add_field _ _ 1 (by omega)] at cs;replace cs:=Option.some.inj (cs.symm.trans be)
          injection cs with hva_ hvn_ hvc_
          rw[hva_] at d7;rw[hvc_] at d6;have d8:=Sd.mk (show Kd.V k61 61 _ w.heap.size _ _ ((rd_T61 o 0).f1) from Kd.V_mk d6 d7);clear hva_ hvn_ hvc_ d7 d6;clear gm i6;have nz:(0<o.length)=True:=eq_true (by omega)
          (try rw[show ((0:Int)).toNat=0 from rfl] at b3)
          (try rw[show 0*2=0 from rfl] at b3)
          (try rw[Addr.add_zero'] at b3)
          (try rw[show ((0:Int)).toNat=0 from rfl] at be)
          (try rw[show 0*2=0 from rfl] at be)
          (try rw[Addr.add_zero'] at be)
          have ct:=Sd.mk e4;have h8:=Sd.mk e3;clear e4 e3;replace fr:=eq_true fr;replace fs:=eq_true fs;refine start_ (n:=15) (S:=fun w'=>w'.cell? fq=some (.int .i64 ((rd_T61 G 0).f0))∧w'.cell? ⟨fq.block,fq.off+1,none⟩=some (.slice gg ((rd_T61 G 0).f1).length gh)∧w'.cell? fu=some (.int .i64 ((rd_T61 o 0).f0))∧w'.cell? ⟨fu.block,fu.off+1,none⟩=some (.slice gj ((rd_T61 o 0).f1).length gl)) (ds:=[]) #[F,F,F,F,F,F,F,F,F,F,F,F,F,F,F] (by kernel_rfl) rfl rfl ⟨b2,bd,b3,be⟩ (fun hHeld=>?_);refine with_tabW impl_OrdDivide.tab8 impl_OrdDivide.bits8 (fun HT_ HW_=>?_)
          generalize wc.drew=pl at D z j HB d5 d8 cr ct b2 bd b3 be hHeld ⊢
          refine qs 0 67 HT_.out ?_;refine qs 1 68 HT_.out ?_;refine qs 2 69 HT_.out ?_;refine qs 3 70 HT_.out ?_;refine qs 4 71 HT_.out ?_;refine qs 5 72 HT_.out ?_;refine qs 6 73 HT_.out ?_;refine qs 8 75 HT_.out ?_;refine qs 9 76 HT_.out ?_;refine qs 10 77 HT_.out ?_;refine tk 7 74 HT_.out HW_.out hHeld rfl rfl (by rintro w' ⟨s0,s1,s2,s3⟩;go_simp;with_reducible rfl) ?_;refine tk 11 78 HT_.out HW_.out hHeld rfl rfl (by rintro w' ⟨s0,s1,s2,s3⟩;go_simp;with_reducible rfl) ?_;refine on 12 79 HT_.out (fun K hK=>?_);refine goes_ Try.func50 (by kernel_rfl) rfl #[.slice gg ((rd_T61 G 0).f1).length gh,.slice gj ((rd_T61 o 0).f1).length gl] (by rfl) rfl rfl az ?_
          with_reducible refine(impl_compare.calls kp _ _ ((rd_T61 G 0).f1) _ _ ((rd_T61 o 0).f1) i1 _ ?side1 ?side2 ?side3 ?side4 m5.out).mono ?_
          (case side1=>exact(Kd.Cz cr.out))
          (case side2=>exact h7.out)
          (case side3=>exact(Kd.Cz ct.out))
          (case side4=>exact h8.out)
          rintro e pm ⟨rfl,hb⟩;have dc:=cg hb hHeld.1;have dd:=cg hb hHeld.2.1;have de:=cg hb hHeld.2.2.1;have df:=cg hb hHeld.2.2.2;refine⟨_,rfl,?_⟩;replace D:=Sd.mk (Kd.N_below (Kd.Nz D.out) hb);replace z:=Sd.mk (Kd.N_below (Kd.Nz z.out) hb);replace j:=Sd.mk (Kd.V_below (Kd.Vz j.out) hb);replace d5:=Sd.mk (Kd.V_below (Kd.Vz d5.out) hb);replace d8:=Sd.mk (Kd.V_below (Kd.Vz d8.out) hb);replace cr:=Sd.mk (Kd.C_below (Kd.Cz cr.out) hb);replace ct:=Sd.mk (Kd.C_below (Kd.Cz ct.out) hb);replace HB:=Sd.mk (below_step bz hb);refine hK.out _ _ ⟨dc,dd,de,df⟩ (fun hHeld=>?_);clear hK K;refine nm (some 79) ?_;refine qs 13 80 HT_.out ?_;refine qs 14 81 HT_.out ?_;refine done_ (done_of HT_.out (by kernel_rfl)) ?_
          try go_wp2
          go_meet
          case rel=>exact⟨_,((i1 == 0)),(by first|rfl|(simp;done)|(simp[*];done)),H',⟨by have:=bl.out;have:=dk.out;first|omega|exact Nat.le_refl _⟩,⟨Kd.Nz D.out⟩,⟨Kd.Nz z.out⟩,⟨Kd.Vz j.out⟩,⟨bz⟩⟩
         ·rw[if_neg hj] at H
          exact absurd H (by simp)
        ·rw[if_neg hh] at H
         exact absurd H (by simp)
       ·rw[if_neg e0] at H
        have dm:decide (0<(G.length:Int))=false:=decide_eq_false e0;have kc:decide (0<G.length)=false:=decide_eq_false (by omega);clear e0
        (first|rw[dm]|(simp only[i64_w,i32_w];rw[dm])|skip)
        have H':=Sd.mk H;clear H
        try go_wp2
        replace D:=Sd.mk (Kd.N_drew D.out);replace z:=Sd.mk (Kd.N_drew z.out);replace j:=Sd.mk (Kd.V_drew j.out);replace HB:=Sd.mk (below_drew1 HB.out);obtain⟨oy,oz,i8⟩:=Kd.V_slice j.out
        (first|subst i8|(injection i8 with ab ao ac;have ap:=ab.symm;have aq:=ac.symm;clear ab ao ac;subst ap;subst aq))
        refine start_ (n:=15) (S:=fun w'=>True) (ds:=[]) #[F,F,F,F,F,F,F,F,F,F,F,F,F,F,F] (by kernel_rfl) rfl rfl trivial (fun hHeld=>?_);refine with_tabW impl_OrdDivide.tab8 impl_OrdDivide.bits8 (fun HT_ HW_=>?_)
        generalize wc.drew=pn at D z j HB hHeld ⊢
        refine qs 0 67 HT_.out ?_;refine qs 1 68 HT_.out ?_;refine qs 2 69 HT_.out ?_;refine qs 3 70 HT_.out ?_;refine pu 4 (some 71) HT_.out rfl rfl ?_;refine pu 5 (some 72) HT_.out rfl rfl ?_;refine pu 6 (some 73) HT_.out rfl rfl ?_;refine pu 7 (some 74) HT_.out rfl rfl ?_;refine pu 8 (some 75) HT_.out rfl rfl ?_;refine pu 9 (some 76) HT_.out rfl rfl ?_;refine pu 10 (some 77) HT_.out rfl rfl ?_;refine pu 11 (some 78) HT_.out rfl rfl ?_;refine pu 12 (some 79) HT_.out rfl rfl ?_;refine pu 13 (some 80) HT_.out rfl rfl ?_;refine qs 14 81 HT_.out ?_;refine done_ (done_of HT_.out (by kernel_rfl)) ?_
        try go_wp2
        go_meet
        case rel=>exact⟨_,(false),(by first|rfl|(simp;done)|(simp[*];done)),H',⟨by have:=bl.out;have:=dk.out;first|omega|exact Nat.le_refl _⟩,⟨Kd.Nz D.out⟩,⟨Kd.Nz z.out⟩,⟨Kd.Vz j.out⟩,⟨bz⟩⟩
      case rest =>
       clear gt;obtain⟨kq,dl,rfl,HA,dg,D,z,j,HB⟩:=hcut
       cases kq with
       | zero=>exact absurd HA.out (by simp[impl_OrdDivide.j3])
       | succ fv =>
        have H:=HA.out;clear HA;simp only[impl_OrdDivide.j3] at H;have gu:=Sd.mk H;clear H
        go_upto_if 81 with (fail)
        go_cut [10,11] (fun cz f7 wc=>∃ (kq:Nat) (ay:List (S61)) (ar:List (S61)),Sd (impl_OrdDivide.j6 kq ay ar=some (r1,r2,r3))∧Sd (kq≤fv)∧Sd (Kd.N k61 61 wc w.heap.size (fun _=>True) cz ay)∧Sd (Kd.V k61 61 wc w.heap.size (fun k_=>some k_≠(cz:Value).ownBlock) f7 ar)∧Sd (Below w.heap.size w wc))
        case first =>
         have H:=gu.out;clear gu
         by_cases hl:dl=true
         ·subst hl
          replace H:=ip rfl H
          by_cases hm:0<(G.length:Int)
          ·rw[if_pos hm] at H
           have hn:decide (0<(G.length:Int))=true:=decide_eq_true hm;have n0:decide (0<G.length)=true:=decide_eq_true (by omega);clear hm
           (first|rw[hn]|(simp only[i64_w,i32_w];rw[hn])|skip)
           by_cases hq:0<(o.length:Int)
           ·rw[if_pos hq] at H
            have n1:decide (0<(o.length:Int))=true:=decide_eq_true hq;have n2:decide (0<o.length)=true:=decide_eq_true (by omega);clear hq
            by_cases hs:((rd_T61 o 0).f0)=0
            ·rw[if_pos hs] at H
             exact absurd H (by simp)
            ·rw[if_neg hs] at H
             have n3:(((rd_T61 o 0).f0) == 0)=false:=beq_eq_false_iff_ne.mpr hs;have n4:(((rd_T61 o 0).f0) != 0)=true:=bne_iff_ne.mpr hs;have gv:=Sd.mk H;clear H
             try go_wp2
             replace D:=Sd.mk (Kd.N_drew D.out);replace z:=Sd.mk (Kd.N_drew z.out);replace j:=Sd.mk (Kd.V_drew j.out);replace HB:=Sd.mk (below_drew1 HB.out);obtain⟨o0,gw,i9⟩:=Kd.V_slice j.out
             (first|subst i9|(injection i9 with ab ao ac;have ap:=ab.symm;have aq:=ac.symm;clear ab ao ac;subst ap;subst aq))
             have fw:0≤(0:Int):=(by omega);have fx:0<(G.length:Int):=dz;obtain⟨cu,ep,ja,k6,b4,bf,e5,e6⟩:=at_T61 (Kd.V_reads' j.out).2.2 0 fw fx;cases k6;obtain⟨n5,jb,jc,gn⟩:=Kd.V_get j.out z61 0 fw (by first|exact fx|exact dz|(have e_:=(Kd.V_reads' j.out).1;omega));obtain⟨mf,mg,rfl,d9,ea⟩:=k61_openF jc;have cv:=gn 1 _ rfl;rw[add_field _ _ 1 (by omega)] at cv;replace cv:=Option.some.inj (cv.symm.trans bf)
             injection cv with hva_ hvn_ hvc_
             rw[hva_] at ea;rw[hvc_] at d9;have a8:=Sd.mk (show Kd.V k61 61 _ w.heap.size _ _ ((rd_T61 G 0).f1) from Kd.V_mk d9 ea);clear hva_ hvn_ hvc_ ea d9;clear gn jb;have n6:(0<G.length)=True:=eq_true (by omega)
             (try rw[show ((0:Int)).toNat=0 from rfl] at b4)
             (try rw[show 0*2=0 from rfl] at b4)
             (try rw[Addr.add_zero'] at b4)
             (try rw[show ((0:Int)).toNat=0 from rfl] at bf)
             (try rw[show 0*2=0 from rfl] at bf)
             (try rw[Addr.add_zero'] at bf)
             have J:=Sd.mk e6;have mh:=Sd.mk e5;clear e6 e5;replace fw:=eq_true fw;replace fx:=eq_true fx;obtain⟨o1,ai,jd⟩:=Kd.N_slice D.out
             (first|subst jd|(injection jd with ab ao ac;have ap:=ab.symm;have aq:=ac.symm;clear ab ao ac;subst ap;subst aq))
             have fy:0≤(0:Int):=(by omega);have fz:0<(o.length:Int):=dz;obtain⟨O,eq,je,k7,b5,bg,e7,e8⟩:=at_T61 (Kd.N_reads' D.out).2.2 0 fy fz;cases k7;obtain⟨n7,jf,jg,go⟩:=Kd.N_get D.out z61 0 fy (by first|exact fz|exact dz|(have e_:=(Kd.N_reads' D.out).1;omega));obtain⟨mi,mj,rfl,eb,ec⟩:=k61_openF jg;have cw:=go 1 _ rfl;rw[add_field _ _ 1 (by omega)] at cw;replace cw:=Option.some.inj (cw.symm.trans bg)
             injection cw with hva_ hvn_ hvc_
             rw[hva_] at ec;rw[hvc_] at eb;have a9:=Sd.mk (show Kd.V k61 61 _ w.heap.size _ _ ((rd_T61 o 0).f1) from Kd.V_mk eb ec);clear hva_ hvn_ hvc_ ec eb;clear go jf;have n8:(0<o.length)=True:=eq_true (by omega)
             (try rw[show ((0:Int)).toNat=0 from rfl] at b5)
             (try rw[show 0*2=0 from rfl] at b5)
             (try rw[Addr.add_zero'] at b5)
             (try rw[show ((0:Int)).toNat=0 from rfl] at bg)
             (try rw[show 0*2=0 from rfl] at bg)
             (try rw[Addr.add_zero'] at bg)
             have L:=Sd.mk e8;have ml:=Sd.mk e7;clear e8 e7;replace fy:=eq_true fy;replace fz:=eq_true fz;refine start_ (n:=10) (S:=fun w'=>w'.cell? cu=some (.int .i64 ((rd_T61 G 0).f0))∧w'.cell? ⟨cu.block,cu.off+1,none⟩=some (.slice ep ((rd_T61 G 0).f1).length ja)∧w'.cell? O=some (.int .i64 ((rd_T61 o 0).f0))∧w'.cell? ⟨O.block,O.off+1,none⟩=some (.slice eq ((rd_T61 o 0).f1).length je)) (ds:=[]) #[F,F,F,F,F,F,F,F,F,F] (by kernel_rfl) rfl rfl ⟨b4,bf,b5,bg⟩ (fun hHeld=>?_);refine with_tabW impl_OrdDivide.tab9 impl_OrdDivide.bits9 (fun HT_ HW_=>?_)
             generalize wc.drew=po at D z j HB a8 a9 J L b4 bf b5 bg hHeld ⊢
             refine qs 0 82 HT_.out ?_;refine qs 1 83 HT_.out ?_;refine qs 2 84 HT_.out ?_;refine qs 4 86 HT_.out ?_;refine qs 5 87 HT_.out ?_;refine qs 6 88 HT_.out ?_;refine tk 3 85 HT_.out HW_.out hHeld rfl rfl (by rintro w' ⟨s0,s1,s2,s3⟩;go_simp;with_reducible rfl) ?_;refine tk 7 89 HT_.out HW_.out hHeld rfl rfl (by rintro w' ⟨s0,s1,s2,s3⟩;go_simp;with_reducible rfl) ?_;refine qs 8 90 HT_.out ?_;refine qs 9 12 HT_.out ?_;refine done_ (done_of HT_.out (by kernel_rfl)) ?_
             go_upto_region 10 with (fail)
             go_cut [101] (fun k8 wc=>∃ (kq:Nat) (cx:Bool),k8=.bool cx∧Sd (impl_OrdDivide.j4 kq o aj G (wrap64 (Int.tdiv ((rd_T61 G 0).f0) ((rd_T61 o 0).f0))) cx=some (r1,r2,r3))∧Sd (kq≤fv)∧Sd (Kd.N k61 61 wc w.heap.size (fun k_=>some k_≠(u10:Value).ownBlock) (.slice (some O) o.length ai) o)∧Sd (Kd.N k61 61 wc w.heap.size (fun k_=>some k_≠((.slice (some O) o.length ai):Value).ownBlock) u10 aj)∧Sd (Kd.V k61 61 wc w.heap.size (fun k_=>some k_≠((.slice (some O) o.length ai):Value).ownBlock∧some k_≠(u10:Value).ownBlock) (.slice (some cu) G.length gw) G)∧Sd (Kd.C k61 wc ep ((rd_T61 G 0).f1).length ((rd_T61 G 0).f1))∧Sd (Kd.C k61 wc eq ((rd_T61 o 0).f1).length ((rd_T61 o 0).f1))∧Sd (Below w.heap.size w wc))
             case first =>
              have H:=gv.out;clear gv
              by_cases e9:(wrap64 (Int.tdiv ((rd_T61 G 0).f0) ((rd_T61 o 0).f0)))>0
              ·rw[if_pos e9] at H
               have dn:decide (0<(wrap64 (Int.tdiv ((rd_T61 G 0).f0) ((rd_T61 o 0).f0))))=true:=decide_eq_true e9;clear e9
               (first|rw[dn]|(simp only[i64_w,i32_w];rw[dn])|skip)
               obtain⟨gx,m6,H⟩:=bs H;obtain⟨jh,m7,H⟩:=bs H;obtain⟨ji,m8,H⟩:=bs H;have H':=Sd.mk H;clear H;go_wp2_with (first|(go_at_call 60;(with_reducible refine(impl_number.calls (wrap64 (Int.tdiv ((rd_T61 G 0).f0) ((rd_T61 o 0).f0))) gx _ m6.out).mono ?_);rintro e pp ⟨o2,rfl,I,hb⟩;replace j:=Sd.mk (Kd.V_elder' (Kd.Vz j.out) (by first|exact Kd.N_base I|exact Kd.R_base I) hb);replace a8:=Sd.mk (Kd.V_elder' (Kd.Vz a8.out) (by first|exact Kd.N_base I|exact Kd.R_base I) hb);replace a9:=Sd.mk (Kd.V_elder' (Kd.Vz a9.out) (by first|exact Kd.N_base I|exact Kd.R_base I) hb);have cy:=Sd.mk (Kd.N_lower (Kd.N_mono (ok':=fun k_=>some k_≠(.slice (some O) o.length ai:Value).ownBlock∧some k_≠(u10:Value).ownBlock) (Kd.R_N (Kd.R_bound I)) (fun k_ an=>⟨(Kd.fresh' (Kd.N_lt (Kd.Nz D.out)) k_ an.2.1),(Kd.fresh' (Kd.N_lt (Kd.Nz z.out)) k_ an.2.1)⟩)) (below_size bz));replace D:=Sd.mk (Kd.N_elder' (Kd.Nz D.out) (by first|exact Kd.N_base I|exact Kd.R_base I) hb);replace z:=Sd.mk (Kd.N_elder' (Kd.Nz z.out) (by first|exact Kd.N_base I|exact Kd.R_base I) hb);replace J:=Sd.mk (Kd.C_below (Kd.Cz J.out) hb);replace L:=Sd.mk (Kd.C_below (Kd.Cz L.out) hb);replace HB:=Sd.mk (below_step bz hb);obtain⟨k9,lb,lc⟩:=Kd.N_slice cy.out;subst lc)|(go_at_call 57;(with_reducible refine(impl_times.calls fv (fun k_=>(some k_≠(u10:Value).ownBlock∧some k_≠(.slice k9 gx.length lb:Value).ownBlock)) _ _ o (fun k_=>(some k_≠(.slice (some O) o.length ai:Value).ownBlock∧some k_≠(u10:Value).ownBlock)) _ _ gx jh _ ?side1 ?side2 m7.out).mono ?_);(case side1=>exact Kd.N_V (D.out));(case side2=>exact Kd.N_V (cy.out));rintro e pr ⟨o3,rfl,I,hb⟩;replace D:=Sd.mk (Kd.N_elder' (Kd.Nz D.out) (by first|exact Kd.N_base I|exact Kd.R_base I) hb);replace j:=Sd.mk (Kd.V_elder' (Kd.Vz j.out) (by first|exact Kd.N_base I|exact Kd.R_base I) hb);replace a8:=Sd.mk (Kd.V_elder' (Kd.Vz a8.out) (by first|exact Kd.N_base I|exact Kd.R_base I) hb);replace a9:=Sd.mk (Kd.V_elder' (Kd.Vz a9.out) (by first|exact Kd.N_base I|exact Kd.R_base I) hb);replace cy:=Sd.mk (Kd.N_elder' (Kd.Nz cy.out) (by first|exact Kd.N_base I|exact Kd.R_base I) hb);have dp:=Sd.mk (Kd.N_lower (Kd.N_mono (ok':=fun k_=>some k_≠(u10:Value).ownBlock) I (fun k_ an=>Or.elim an (fun ak=>Or.elim ak (fun ak=>ak.1) (fun ak=>ak.2)) (fun ax=>(Kd.fresh' (Kd.N_lt (Kd.Nz z.out)) k_ ax)))) (below_size bz));replace z:=Sd.mk (Kd.N_elder' (Kd.Nz z.out) (by first|exact Kd.N_base I|exact Kd.R_base I) hb);replace J:=Sd.mk (Kd.C_below (Kd.Cz J.out) hb);replace L:=Sd.mk (Kd.C_below (Kd.Cz L.out) hb);replace HB:=Sd.mk (below_step bz hb);obtain⟨o4,o5,ld⟩:=Kd.N_slice dp.out;subst ld)|(go_at_call 50;(with_reducible refine(impl_compare.calls fv _ _ G _ _ jh ji _ ?side1 ?side2 ?side3 ?side4 m8.out).mono ?_);(case side1=>exact Kd.Cz (Kd.V_reads' j.out).2.2);(case side2=>exact(Kd.V_reads' j.out).2.1);(case side3=>exact Kd.Cz (Kd.N_reads' dp.out).2.2);(case side4=>exact(Kd.N_reads' dp.out).2.1);rintro e ps ⟨rfl,hb⟩;replace D:=Sd.mk (Kd.N_below (Kd.Nz D.out) hb);replace z:=Sd.mk (Kd.N_below (Kd.Nz z.out) hb);replace j:=Sd.mk (Kd.V_below (Kd.Vz j.out) hb);replace a8:=Sd.mk (Kd.V_below (Kd.Vz a8.out) hb);replace a9:=Sd.mk (Kd.V_below (Kd.Vz a9.out) hb);replace cy:=Sd.mk (Kd.N_below (Kd.Nz cy.out) hb);replace dp:=Sd.mk (Kd.N_below (Kd.Nz dp.out) hb);replace J:=Sd.mk (Kd.C_below (Kd.Cz J.out) hb);replace L:=Sd.mk (Kd.C_below (Kd.Cz L.out) hb);replace HB:=Sd.mk (below_step bz hb)));go_meet
               case rel=>exact⟨_,(decide (ji<0)),(by first|rfl|(simp;done)|(simp[*];done)),H',⟨by have:=bl.out;have:=dk.out;have:=dg.out;first|omega|exact Nat.le_refl _⟩,⟨Kd.Nz <| Kd.N_mono D.out (fun _ hk=>hk.1.1)⟩,⟨Kd.Nz <| Kd.N_mono z.out (fun _ hk=>hk.1.1)⟩,⟨Kd.Vz <| Kd.V_mono j.out (fun _ hk=>⟨hk.1.1.1,hk.1.1.2⟩)⟩,⟨by repeat (first|(with_reducible exact J.out)|(with_reducible refine Kd.C_alloc ?_ _)|(with_reducible refine Kd.C_drewN ?_ _)|(with_reducible refine Kd.C_drew ?_)|exact J.out)⟩,⟨by repeat (first|(with_reducible exact L.out)|(with_reducible refine Kd.C_alloc ?_ _)|(with_reducible refine Kd.C_drewN ?_ _)|(with_reducible refine Kd.C_drew ?_)|exact L.out)⟩,⟨bz⟩⟩
              ·rw[if_neg e9] at H
               have dn:decide (0<(wrap64 (Int.tdiv ((rd_T61 G 0).f0) ((rd_T61 o 0).f0))))=false:=decide_eq_false e9;clear e9
               (first|rw[dn]|(simp only[i64_w,i32_w];rw[dn])|skip)
               have H':=Sd.mk H;clear H;go_wp2;go_meet
               case rel=>exact⟨_,(false),(by first|rfl|(simp;done)|(simp[*];done)),H',⟨by have:=bl.out;have:=dk.out;have:=dg.out;first|omega|exact Nat.le_refl _⟩,⟨Kd.Nz D.out⟩,⟨Kd.Nz z.out⟩,⟨Kd.Vz j.out⟩,⟨by repeat (first|(with_reducible exact J.out)|(with_reducible refine Kd.C_alloc ?_ _)|(with_reducible refine Kd.C_drewN ?_ _)|(with_reducible refine Kd.C_drew ?_)|exact J.out)⟩,⟨by repeat (first|(with_reducible exact L.out)|(with_reducible refine Kd.C_alloc ?_ _)|(with_reducible refine Kd.C_drewN ?_ _)|(with_reducible refine Kd.C_drew ?_)|exact L.out)⟩,⟨bz⟩⟩
             case rest =>
              clear gv;obtain⟨kq,cx,rfl,HA,f2,D,z,j,J,L,HB⟩:=hcut
              cases kq with
              | zero=>exact absurd HA.out (by simp[impl_OrdDivide.j4])
              | succ le =>
               have H:=HA.out;clear HA;simp only[impl_OrdDivide.j4] at H;have gy:=Sd.mk H;clear H
               go_upto_if 101 with (fail)
               go_cut [12] (fun m9 wc=>∃ (kq:Nat) (ah:Int),m9=.int .i64 ah∧Sd (impl_OrdDivide.j5 kq o aj G ah=some (r1,r2,r3))∧Sd (kq≤le)∧Sd (Kd.N k61 61 wc w.heap.size (fun k_=>some k_≠(u10:Value).ownBlock) (.slice (some O) o.length ai) o)∧Sd (Kd.N k61 61 wc w.heap.size (fun k_=>some k_≠((.slice (some O) o.length ai):Value).ownBlock) u10 aj)∧Sd (Kd.V k61 61 wc w.heap.size (fun k_=>some k_≠((.slice (some O) o.length ai):Value).ownBlock∧some k_≠(u10:Value).ownBlock) (.slice (some cu) G.length gw) G)∧Sd (Kd.C k61 wc ep ((rd_T61 G 0).f1).length ((rd_T61 G 0).f1))∧Sd (Kd.C k61 wc eq ((rd_T61 o 0).f1).length ((rd_T61 o 0).f1))∧Sd (Below w.heap.size w wc))
               case first =>
                have H:=gy.out;clear gy
                by_cases ht:cx=true
                ·subst ht
                 replace H:=ip rfl H;have H':=Sd.mk H;clear H;go_wp2;go_meet
                 case rel=>exact⟨_,(wrap64 ((wrap64 (Int.tdiv ((rd_T61 G 0).f0) ((rd_T61 o 0).f0)))-1)),(by first|rfl|(simp;done)|(simp[*];done)),H',⟨by have:=bl.out;have:=dk.out;have:=dg.out;have:=f2.out;first|omega|exact Nat.le_refl _⟩,⟨Kd.Nz D.out⟩,⟨Kd.Nz z.out⟩,⟨Kd.Vz j.out⟩,⟨by repeat (first|(with_reducible exact J.out)|(with_reducible refine Kd.C_alloc ?_ _)|(with_reducible refine Kd.C_drewN ?_ _)|(with_reducible refine Kd.C_drew ?_)|exact J.out)⟩,⟨by repeat (first|(with_reducible exact L.out)|(with_reducible refine Kd.C_alloc ?_ _)|(with_reducible refine Kd.C_drewN ?_ _)|(with_reducible refine Kd.C_drew ?_)|exact L.out)⟩,⟨bz⟩⟩
                ·replace ht:=Bool.eq_false_iff.mpr ht
                 subst ht;replace H:=ng ft H;have H':=Sd.mk H;clear H;go_wp2;go_meet
                 case rel=>exact⟨_,((wrap64 (Int.tdiv ((rd_T61 G 0).f0) ((rd_T61 o 0).f0)))),(by first|rfl|(simp;done)|(simp[*];done)),H',⟨by have:=bl.out;have:=dk.out;have:=dg.out;have:=f2.out;first|omega|exact Nat.le_refl _⟩,⟨Kd.Nz D.out⟩,⟨Kd.Nz z.out⟩,⟨Kd.Vz j.out⟩,⟨by repeat (first|(with_reducible exact J.out)|(with_reducible refine Kd.C_alloc ?_ _)|(with_reducible refine Kd.C_drewN ?_ _)|(with_reducible refine Kd.C_drew ?_)|exact J.out)⟩,⟨by repeat (first|(with_reducible exact L.out)|(with_reducible refine Kd.C_alloc ?_ _)|(with_reducible refine Kd.C_drewN ?_ _)|(with_reducible refine Kd.C_drew ?_)|exact L.out)⟩,⟨bz⟩⟩
               case rest =>
                clear gy;obtain⟨kq,ah,rfl,HA,jj,D,z,j,J,L,HB⟩:=hcut
                cases kq with
                | zero=>exact absurd HA.out (by simp[impl_OrdDivide.j5])
                | succ gz =>
                 have H:=HA.out;clear HA;simp only[impl_OrdDivide.j5] at H
                 by_cases fa:ah>0
                 ·rw[if_pos fa] at H
                  have kd:decide (0<ah)=true:=decide_eq_true fa;clear fa;obtain⟨bh,na,H⟩:=bs H;obtain⟨bj,nb,H⟩:=bs H;obtain⟨g0,nc,H⟩:=bs H
                  by_cases hu:aj.length<4398046511104
                  ·rw[if_pos hu] at H
                   have ke:=Sd.mk hu;clear hu;obtain⟨jk,f3⟩:∃ y_:List (S61),y_=(aj++[(⟨ah,([]:List (S61))⟩:S61)]):=⟨_,rfl⟩;replace H:(impl_OrdDivide.j6 gz jk g0)=some (r1,r2,r3):=hz f3 H;have kf:=Sd.mk f3;clear f3;have H':=Sd.mk H;clear H;go_wp2_with (first|((with_reducible refine gate_callee (f:=60) rfl ?_);refine goesL_ (some 109) rfl rfl Try.func60 (by kernel_rfl) rfl #[.int .i64 ah] rfl az ?_;(with_reducible refine(impl_number.calls ah bh _ na.out).mono ?_);rintro e pt ⟨o6,rfl,I,hb⟩;refine⟨_,rfl,?_⟩;replace j:=Sd.mk (Kd.V_elder' (Kd.Vz j.out) (by first|exact Kd.N_base I|exact Kd.R_base I) hb);have ba:=Sd.mk (Kd.N_lower (Kd.N_mono (ok':=fun k_=>some k_≠(.slice (some O) o.length ai:Value).ownBlock∧some k_≠(u10:Value).ownBlock) (Kd.R_N (Kd.R_bound I)) (fun k_ an=>⟨(Kd.fresh' (Kd.N_lt (Kd.Nz D.out)) k_ an.2.1),(Kd.fresh' (Kd.N_lt (Kd.Nz z.out)) k_ an.2.1)⟩)) (below_size bz));replace D:=Sd.mk (Kd.N_elder' (Kd.Nz D.out) (by first|exact Kd.N_base I|exact Kd.R_base I) hb);replace z:=Sd.mk (Kd.N_elder' (Kd.Nz z.out) (by first|exact Kd.N_base I|exact Kd.R_base I) hb);replace J:=Sd.mk (Kd.C_below (Kd.Cz J.out) hb);replace L:=Sd.mk (Kd.C_below (Kd.Cz L.out) hb);replace HB:=Sd.mk (below_step bz hb);obtain⟨cb,cc,lf⟩:=Kd.N_slice ba.out;subst lf)|((with_reducible refine gate_callee (f:=57) rfl ?_);refine goesL_ (some 110) rfl rfl Try.func57 (by kernel_rfl) rfl #[.slice (some O) o.length ai,.slice cb bh.length cc] rfl az ?_;(with_reducible refine(impl_times.calls gz (fun k_=>(some k_≠(u10:Value).ownBlock∧some k_≠(.slice cb bh.length cc:Value).ownBlock)) _ _ o (fun k_=>(some k_≠(.slice (some O) o.length ai:Value).ownBlock∧some k_≠(u10:Value).ownBlock)) _ _ bh bj _ ?side1 ?side2 nb.out).mono ?_);(case side1=>exact Kd.N_V (D.out));(case side2=>exact Kd.N_V (ba.out));rintro e pv ⟨o7,rfl,I,hb⟩;refine⟨_,rfl,?_⟩;replace D:=Sd.mk (Kd.N_elder' (Kd.Nz D.out) (by first|exact Kd.N_base I|exact Kd.R_base I) hb);replace j:=Sd.mk (Kd.V_elder' (Kd.Vz j.out) (by first|exact Kd.N_base I|exact Kd.R_base I) hb);replace ba:=Sd.mk (Kd.N_elder' (Kd.Nz ba.out) (by first|exact Kd.N_base I|exact Kd.R_base I) hb);have bb:=Sd.mk (Kd.N_lower (Kd.N_mono (ok':=fun k_=>some k_≠(u10:Value).ownBlock) I (fun k_ an=>Or.elim an (fun ak=>Or.elim ak (fun ak=>ak.1) (fun ak=>ak.2)) (fun ax=>(Kd.fresh' (Kd.N_lt (Kd.Nz z.out)) k_ ax)))) (below_size bz));replace z:=Sd.mk (Kd.N_elder' (Kd.Nz z.out) (by first|exact Kd.N_base I|exact Kd.R_base I) hb);replace J:=Sd.mk (Kd.C_below (Kd.Cz J.out) hb);replace L:=Sd.mk (Kd.C_below (Kd.Cz L.out) hb);replace HB:=Sd.mk (below_step bz hb);obtain⟨cd,ce,lg⟩:=Kd.N_slice bb.out;subst lg)|((with_reducible refine gate_callee (f:=51) rfl ?_);refine goesL_ (some 111) rfl rfl Try.func51 (by kernel_rfl) rfl #[.slice (some cu) G.length gw,.slice cd bj.length ce] rfl az ?_;(with_reducible refine(impl_minus.calls gz (fun k_=>(((some k_≠(.slice (some O) o.length ai:Value).ownBlock∧some k_≠(u10:Value).ownBlock)∧some k_≠(.slice cb bh.length cc:Value).ownBlock)∧some k_≠(.slice cd bj.length ce:Value).ownBlock)) _ _ G _ _ bj g0 _ ?side1 ?side2 ?side3 nc.out).mono ?_);(case side1=>exact j.out);(case side2=>exact Kd.Cz (Kd.N_reads' bb.out).2.2);(case side3=>exact(Kd.N_reads' bb.out).2.1);rintro e pw ⟨o8,rfl,I,hb⟩;refine⟨_,rfl,?_⟩;replace j:=Sd.mk (Kd.V_below (Kd.Vz j.out) hb);have f4:=Sd.mk (Kd.V_lower (Kd.V_mono (ok':=fun k_=>some k_≠(.slice (some O) o.length ai:Value).ownBlock∧some k_≠(u10:Value).ownBlock∧some k_≠(.slice cb bh.length cc:Value).ownBlock∧some k_≠(.slice cd bj.length ce:Value).ownBlock) I (fun k_ an=>⟨Or.elim an (fun ak=>ak.1.1.1) (fun ax=>(Kd.fresh' (Kd.N_lt (Kd.Nz D.out)) k_ ax)),Or.elim an (fun ak=>ak.1.1.2) (fun ax=>(Kd.fresh' (Kd.N_lt (Kd.Nz z.out)) k_ ax)),Or.elim an (fun ak=>ak.1.2) (fun ax=>(Kd.fresh' (Kd.N_lt (Kd.Nz ba.out)) k_ ax)),Or.elim an (fun ak=>ak.2) (fun ax=>(Kd.fresh' (Kd.N_lt (Kd.Nz bb.out)) k_ ax))⟩)) (below_size bz));replace D:=Sd.mk (Kd.N_below (Kd.Nz D.out) hb);replace z:=Sd.mk (Kd.N_below (Kd.Nz z.out) hb);replace ba:=Sd.mk (Kd.N_below (Kd.Nz ba.out) hb);replace bb:=Sd.mk (Kd.N_below (Kd.Nz bb.out) hb);replace J:=Sd.mk (Kd.C_below (Kd.Cz J.out) hb);replace L:=Sd.mk (Kd.C_below (Kd.Cz L.out) hb);replace HB:=Sd.mk (below_step bz hb))|((with_reducible refine gate_builtin (b:=.append) (xs:=#[.tmp 112,.tmp 115]) rfl ?_);at_builtin;refine Kd.N_append k61 (w0:=w) w.heap.size rfl (.tmp 112) (.tmp 115) 46 61 (.agg #[(.int .i64 0),(.slice none 0 0)]) 32 rfl Try.underlying46 info61 rfl (by decide) (by omega) u10 aj (⟨ah,([]:List (S61))⟩:S61) [.int .i64 ah,.slice none 0 0] (fun k_=>some k_≠(.slice (some O) o.length ai:Value).ownBlock∧some k_≠(.slice cb bh.length cc:Value).ownBlock∧some k_≠(.slice cd bj.length ce:Value).ownBlock) (fun k_=>((fun k_=>some k_≠(.slice (some O) o.length ai:Value).ownBlock∧some k_≠(.slice cb bh.length cc:Value).ownBlock∧some k_≠(.slice cd bj.length ce:Value).ownBlock)) k_∧some k_≠(u10:Value).ownBlock) rfl rfl ?aP (fun _ hk=>hk) ?aF ?aO ?aB ?aS ?aL ?_;(case aP=>exact(k61_mkF _ _ (⟨ah,([]:List (S61))⟩:S61) (Nat.le_refl _) (Kd.F_nil _ _ _)));(case aB=>exact bz);(case aF=>exact(fun k_ hk=>⟨Kd.fresh' (Kd.N_lt (Kd.Nz D.out)) k_ hk,Kd.fresh' (Kd.N_lt (Kd.Nz ba.out)) k_ hk,Kd.fresh' (Kd.N_lt (Kd.Nz bb.out)) k_ hk⟩));(case aO=>exact(Kd.Nz <| Kd.N_mono z.out (fun _ hk=>⟨hk.1.1,⟨hk.1.2,hk.2⟩⟩)));(case aS=>exact(below_size bz));(case aL=>have:=ke.out;omega);intro o9 px ho hb hg hat;rw[← kf.out] at ho;replace D:=Sd.mk (Kd.N_afterv (ok:=(fun k_=>some k_≠(.slice cb bh.length cc:Value).ownBlock∧some k_≠(.slice cd bj.length ce:Value).ownBlock)) (Kd.Nz <| Kd.N_mono D.out (fun _ hk=>⟨⟨hk.1.2,hk.2⟩,hk.1.1⟩)) hg hat);replace j:=Sd.mk (Kd.V_afterv (ok:=(fun k_=>some k_≠(.slice (some O) o.length ai:Value).ownBlock∧some k_≠(.slice cb bh.length cc:Value).ownBlock∧some k_≠(.slice cd bj.length ce:Value).ownBlock)) (Kd.Vz <| Kd.V_mono j.out (fun _ hk=>⟨⟨hk.1.1.1,⟨hk.1.2,hk.2⟩⟩,hk.1.1.2⟩)) hg hat);replace ba:=Sd.mk (Kd.N_afterv (ok:=(fun k_=>some k_≠(.slice (some O) o.length ai:Value).ownBlock∧some k_≠(.slice cd bj.length ce:Value).ownBlock)) (Kd.Nz <| Kd.N_mono ba.out (fun _ hk=>⟨⟨hk.1.1,hk.2⟩,hk.1.2⟩)) hg hat);replace bb:=Sd.mk (Kd.N_afterv (ok:=(fun _=>True)) (Kd.Nz <| Kd.N_mono bb.out (fun _ hk=>⟨trivial,hk⟩)) hg hat);replace f4:=Sd.mk (Kd.V_afterv (ok:=(fun k_=>some k_≠(.slice (some O) o.length ai:Value).ownBlock∧some k_≠(.slice cb bh.length cc:Value).ownBlock∧some k_≠(.slice cd bj.length ce:Value).ownBlock)) (Kd.Vz <| Kd.V_mono f4.out (fun _ hk=>⟨⟨hk.1,⟨hk.2.2.1,hk.2.2.2⟩⟩,hk.2.1⟩)) hg hat);replace HB:=Sd.mk (hb);have kg:=Sd.mk (ho);clear z;clear ho hb hg hat));go_meet
                   case rel=>exact⟨_,(jk),(g0),H',⟨by have:=bl.out;have:=dk.out;have:=dg.out;have:=f2.out;have:=jj.out;first|omega|exact Nat.le_refl _⟩,⟨Kd.Nz <| Kd.N_mono kg.out (fun _ hk=>trivial)⟩,⟨Kd.Vz <| Kd.V_mono f4.out (fun _ hk=>hk.2)⟩,⟨bz⟩⟩
                  ·rw[if_neg hu] at H
                   exact absurd H (by simp)
                 ·rw[if_neg fa] at H
                  have kd:decide (0<ah)=false:=decide_eq_false fa;clear fa;have H':=Sd.mk H;clear H;go_wp2;go_meet
                  case rel=>exact⟨_,(aj),(G),H',⟨by have:=bl.out;have:=dk.out;have:=dg.out;have:=f2.out;have:=jj.out;first|omega|exact Nat.le_refl _⟩,⟨Kd.Nz <| Kd.N_mono z.out (fun _ hk=>trivial)⟩,⟨Kd.Vz <| Kd.V_mono j.out (fun _ hk=>hk.2)⟩,⟨bz⟩⟩
           ·rw[if_neg hq] at H
            exact absurd H (by simp)
          ·rw[if_neg hm] at H
           exact absurd H (by simp)
         ·replace hl:=Bool.eq_false_iff.mpr hl
          subst hl;replace H:=ng ft H;have H':=Sd.mk H;clear H;go_wp2;go_meet
          case rel=>exact⟨_,(aj),(G),H',⟨by have:=bl.out;have:=dk.out;have:=dg.out;first|omega|exact Nat.le_refl _⟩,⟨Kd.Nz <| Kd.N_mono z.out (fun _ hk=>trivial)⟩,⟨Kd.Vz <| Kd.V_mono j.out (fun _ hk=>hk.2)⟩,⟨bz⟩⟩
        case rest =>
         clear gu;obtain⟨kq,ay,ar,HA,pa,z,j,HB⟩:=hcut
         cases kq with
         | zero=>exact absurd HA.out (by simp[impl_OrdDivide.j6])
         | succ dh =>
          have H:=HA.out;clear HA;simp only[impl_OrdDivide.j6] at H;replace H:=Option.bind_eq_some_iff.mp H;obtain⟨⟨er,g1⟩,jl,H⟩:=H;replace H:((impl_told.f dh ar).bind fun hx=>(if g1=true then(if hx.2=true then(some (er,hx.1,true)) else(some (([]:List Int),([]:List Int),false))) else(some (([]:List Int),([]:List Int),false))))=some (r1,r2,r3):=H;have jm:=Sd.mk jl;clear jl;replace H:=Option.bind_eq_some_iff.mp H;obtain⟨⟨f5,g2⟩,jn,H⟩:=H;replace H:(if g1=true then(if g2=true then(some (er,f5,true)) else(some (([]:List Int),([]:List Int),false))) else(some (([]:List Int),([]:List Int),false)))=some (r1,r2,r3):=H;have jo:=Sd.mk jn;clear jn
          by_cases h0:g1=true
          ·subst h0
           replace H:=ip rfl H
           by_cases h1:g2=true
           ·subst h1
            replace H:=ip rfl H;simp only[Option.some.injEq,Prod.mk.injEq] at H;obtain⟨rfl,rfl,rfl⟩:=H;obtain⟨lh,li,lj⟩:=Kd.N_slice z.out;subst lj;go_wp2_with (first|((with_reducible refine gate_callee (f:=46) rfl ?_);refine goesL_ (some 119) rfl rfl Try.func46 (by kernel_rfl) rfl #[.slice lh ay.length li] rfl az ?_;(with_reducible refine(impl_told.calls dh _ _ ay er true _ ?side1 ?side2 jm.out).mono ?_);(case side1=>exact Kd.Cz (Kd.N_reads' z.out).2.2);(case side2=>exact(Kd.N_reads' z.out).2.1);rintro e py ⟨jp,rfl,I,hb⟩;refine⟨_,rfl,?_⟩;replace z:=Sd.mk (Kd.N_elder' (Kd.Nz z.out) (Kd.R_base I) hb);replace j:=Sd.mk (Kd.V_elder' (Kd.Vz j.out) (Kd.R_base I) hb);have au:=Sd.mk (Kd.R_lower I (below_size bz));replace HB:=Sd.mk (below_step bz hb);obtain⟨lk,ll,lm⟩:=Kd.V_slice j.out;subst lm)|((with_reducible refine gate_callee (f:=46) rfl ?_);refine goesL_ (some 124) rfl rfl Try.func46 (by kernel_rfl) rfl #[.slice lk ar.length ll] rfl az ?_;(with_reducible refine(impl_told.calls dh _ _ ar f5 true _ ?side1 ?side2 jo.out).mono ?_);(case side1=>exact Kd.Cz (Kd.V_reads' j.out).2.2);(case side2=>exact(Kd.V_reads' j.out).2.1);rintro e pz ⟨jq,rfl,I,hb⟩;refine⟨_,rfl,?_⟩;replace z:=Sd.mk (Kd.N_elder' (Kd.Nz z.out) (Kd.R_base I) hb);replace j:=Sd.mk (Kd.V_elder' (Kd.Vz j.out) (Kd.R_base I) hb);have f6:=Sd.mk (Kd.R_lower (Kd.R_new' I (Kd.R_lt (Kd.Rz au.out))) (below_size bz));replace au:=Sd.mk (Kd.R_elder' (Kd.Rz au.out) (Kd.R_base I) hb);replace HB:=Sd.mk (below_step bz hb)));go_ret3;exact⟨_,_,by first|rfl|(simp[errW_none,errW_some]<;>rfl)|(simp[*,errW_none,errW_some]<;>rfl),Kd.Rz <| Kd.R_mono au.out (fun _ hk=>hk.2),Kd.Rz <| Kd.R_mono f6.out (fun _ hk=>hk.2),bz⟩
           ·replace h1:=Bool.eq_false_iff.mpr h1
            subst h1;replace H:=ng ft H;simp only[Option.some.injEq,Prod.mk.injEq] at H;obtain⟨rfl,rfl,rfl⟩:=H;obtain⟨ln,lo,lp⟩:=Kd.N_slice z.out;subst lp;go_wp2_with (first|((with_reducible refine gate_callee (f:=46) rfl ?_);refine goesL_ (some 119) rfl rfl Try.func46 (by kernel_rfl) rfl #[.slice ln ay.length lo] rfl az ?_;(with_reducible refine(impl_told.calls dh _ _ ay er true _ ?side1 ?side2 jm.out).mono ?_);(case side1=>exact Kd.Cz (Kd.N_reads' z.out).2.2);(case side2=>exact(Kd.N_reads' z.out).2.1);rintro e p0 ⟨jp,rfl,I,hb⟩;refine⟨_,rfl,?_⟩;replace z:=Sd.mk (Kd.N_elder' (Kd.Nz z.out) (Kd.R_base I) hb);replace j:=Sd.mk (Kd.V_elder' (Kd.Vz j.out) (Kd.R_base I) hb);have au:=Sd.mk (Kd.R_lower I (below_size bz));replace HB:=Sd.mk (below_step bz hb);obtain⟨lq,lr,ls⟩:=Kd.V_slice j.out;subst ls)|((with_reducible refine gate_callee (f:=46) rfl ?_);refine goesL_ (some 124) rfl rfl Try.func46 (by kernel_rfl) rfl #[.slice lq ar.length lr] rfl az ?_;(with_reducible refine(impl_told.calls dh _ _ ar f5 false _ ?side1 ?side2 jo.out).mono ?_);(case side1=>exact Kd.Cz (Kd.V_reads' j.out).2.2);(case side2=>exact(Kd.V_reads' j.out).2.1);rintro e p1 ⟨jq,rfl,I,hb⟩;refine⟨_,rfl,?_⟩;replace z:=Sd.mk (Kd.N_elder' (Kd.Nz z.out) (Kd.R_base I) hb);replace j:=Sd.mk (Kd.V_elder' (Kd.Vz j.out) (Kd.R_base I) hb);have f6:=Sd.mk (Kd.R_lower (Kd.R_new' I (Kd.R_lt (Kd.Rz au.out))) (below_size bz));replace au:=Sd.mk (Kd.R_elder' (Kd.Rz au.out) (Kd.R_base I) hb);replace HB:=Sd.mk (below_step bz hb)));go_ret3;exact⟨_,_,by first|rfl|(simp[errW_none,errW_some]<;>rfl)|(simp[*,errW_none,errW_some]<;>rfl),by first|exact Kd.R_nil _ _ _ _ _|exact Kd.N_nil _ _ _ _ _|exact Kd.V_nil _ _ _ _ _|exact Kd.Q_nil _ _ _ _ _|exact Kd.S_nil _ _ _ _ _,by first|exact Kd.R_nil _ _ _ _ _|exact Kd.N_nil _ _ _ _ _|exact Kd.V_nil _ _ _ _ _|exact Kd.Q_nil _ _ _ _ _|exact Kd.S_nil _ _ _ _ _,bz⟩
          ·replace h0:=Bool.eq_false_iff.mpr h0
           subst h0;replace H:=ng ft H;simp only[Option.some.injEq,Prod.mk.injEq] at H;obtain⟨rfl,rfl,rfl⟩:=H;obtain⟨lu,lv,lw⟩:=Kd.N_slice z.out;subst lw;go_wp2_with (first|((with_reducible refine gate_callee (f:=46) rfl ?_);refine goesL_ (some 119) rfl rfl Try.func46 (by kernel_rfl) rfl #[.slice lu ay.length lv] rfl az ?_;(with_reducible refine(impl_told.calls dh _ _ ay er false _ ?side1 ?side2 jm.out).mono ?_);(case side1=>exact Kd.Cz (Kd.N_reads' z.out).2.2);(case side2=>exact(Kd.N_reads' z.out).2.1);rintro e p2 ⟨jp,rfl,I,hb⟩;refine⟨_,rfl,?_⟩;replace z:=Sd.mk (Kd.N_elder' (Kd.Nz z.out) (Kd.R_base I) hb);replace j:=Sd.mk (Kd.V_elder' (Kd.Vz j.out) (Kd.R_base I) hb);have au:=Sd.mk (Kd.R_lower I (below_size bz));replace HB:=Sd.mk (below_step bz hb);obtain⟨lx,ly,lz⟩:=Kd.V_slice j.out;subst lz)|((with_reducible refine gate_callee (f:=46) rfl ?_);refine goesL_ (some 124) rfl rfl Try.func46 (by kernel_rfl) rfl #[.slice lx ar.length ly] rfl az ?_;(with_reducible refine(impl_told.calls dh _ _ ar f5 g2 _ ?side1 ?side2 jo.out).mono ?_);(case side1=>exact Kd.Cz (Kd.V_reads' j.out).2.2);(case side2=>exact(Kd.V_reads' j.out).2.1);rintro e p3 ⟨jq,rfl,I,hb⟩;refine⟨_,rfl,?_⟩;replace z:=Sd.mk (Kd.N_elder' (Kd.Nz z.out) (Kd.R_base I) hb);replace j:=Sd.mk (Kd.V_elder' (Kd.Vz j.out) (Kd.R_base I) hb);have f6:=Sd.mk (Kd.R_lower (Kd.R_new' I (Kd.R_lt (Kd.Rz au.out))) (below_size bz));replace au:=Sd.mk (Kd.R_elder' (Kd.Rz au.out) (Kd.R_base I) hb);replace HB:=Sd.mk (below_step bz hb)));go_ret3;exact⟨_,_,by first|rfl|(simp[errW_none,errW_some]<;>rfl)|(simp[*,errW_none,errW_some]<;>rfl),by first|exact Kd.R_nil _ _ _ _ _|exact Kd.N_nil _ _ _ _ _|exact Kd.V_nil _ _ _ _ _|exact Kd.Q_nil _ _ _ _ _|exact Kd.S_nil _ _ _ _ _,by first|exact Kd.R_nil _ _ _ _ _|exact Kd.N_nil _ _ _ _ _|exact Kd.V_nil _ _ _ _ _|exact Kd.Q_nil _ _ _ _ _|exact Kd.S_nil _ _ _ _ _,bz⟩
end Go.Proofs.Ytfblcanijhnhmaa.P