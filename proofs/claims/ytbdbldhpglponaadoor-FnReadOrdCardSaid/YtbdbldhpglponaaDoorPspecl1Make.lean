/- One Go function comes to what its Lean function tells. -/
import Derived.Test.YtbdbldhpglponaaDoorP0
namespace Go.Proofs.YtbdbldhpglponaaDoor.P
open Go.RowKit YtbdbldhpglponaaDoorW.PrintWords YtbdbldhpglponaaDoorW.PrintLast YtbdbldhpglponaaDoorW.PrintMore
set_option linter.unusedVariables false
set_option linter.unusedSimpArgs false
/-! ### spec_l1Make: function 32 -/
def spec_l1Make.l0:Nat→List Int→List (List Int)→List Int→Int→Option (List Int)
 | 0,_,_,_,_=>none
 | k+1,x0,x1,x5,x6=>if x6<(x0.length:Int) then(if 0≤x6 then(if x5.length<17592186044416 then((some (x5++[rd x0 x6]:List Int)).bind fun y233=>(if x6<(x1.length:Int) then(if y233.length+(rd_L1 x1 x6).length<17592186044416 then(spec_l1Make.l0 k x0 x1 (y233++(rd_L1 x1 x6)) (wrap64 (x6+1))) else(none)) else(none))) else(none)) else(none)) else(some x5)
def spec_l1Make.f (k:Nat)(l0:List Int)(l1:List (List Int)):Option (List Int):=spec_l1Make.l0 k l0 l1 (([(l0.length:Int)]:List Int)) 0
def spec_l1Make.T5:Bool × List (List Nat × List Nat):=(true,[([],[]),([],[]),([],[]),([1,2],[1,2]),([3],[3]),([4],[4]),([0,5],[0,5]),([],[]),([],[]),([7,8],[7,8]),([9],[9]),([6,10,6],[6,10]),([11,11,0,1,2,3,4,5,6,7,8,9,10,11],[0,11])])
def spec_l1Make.B5:List Nat:=[0,0,0,6,14,30,63,0,0,384,896,2047,4095]
theorem spec_l1Make.tab5:rtab .any (opsOf Tryd.f32 5)=spec_l1Make.T5:=by kernel_rfl
theorem spec_l1Make.bits5:waitsOk spec_l1Make.T5.2 spec_l1Make.B5=true:=by kernel_rfl
set_option maxHeartbeats 8000000 in
set_option maxRecDepth 100000 in
theorem spec_l1Make.calls (k:Nat)(A0:Option Addr)(c0:Nat)(l0:List Int)(A1:Option Addr)(c1:Nat)(l1:List (List Int))(r:List Int)(w:World)(aq:Kd.C (Kd.int .i64) w A0 l0.length l0)(ar:l0.length≤c0)(au:Kd.C (Kd.slice 3 (Kd.int .i64)) w A1 l1.length l1)(av:l1.length≤c1)(h:spec_l1Make.f k l0 l1=some r) :
  Calls Tryd.prog 32 #[.slice A0 l0.length c0,.slice A1 l1.length c1] w fun e w'=>∃ aw:Value,e=.returned (aw)∧Kd.R (Kd.int .i64) 3 w' w.heap.size (fun _=>True) aw r∧Below w.heap.size w w':=by
 have bb:=Sd.mk aq;have bl:=Sd.mk ar;clear aq ar;have bc:=Sd.mk au;have bm:=Sd.mk av;clear au av;have HB:=Sd.mk (Below.refl w.heap.size w);have H:(spec_l1Make.l0 k l0 l1 (([(l0.length:Int)]:List Int)) 0)=some r:=h;clear h;obtain⟨ag,U⟩:∃ y_:List Int,y_=(([(l0.length:Int)]:List Int)):=⟨_,rfl⟩;replace H:(spec_l1Make.l0 k l0 l1 ag 0)=some r:=hz U H;have ae:=Sd.mk U;clear U;have H':=Sd.mk H;clear H;go_enter Tryd.func32,Tryd.ntmps32;go_wp2_with (first|((with_reducible refine gate_dst (N:=9) rfl ?_);refine Kd.R_lit (Kd.int .i64) _ 3 ?hg (N:=9) ?hd (xs:=([(l0.length:Int)]:List Int)) (inner:=[.int .i64 (l0.length:Int)]) (ok:=fun _=>True) (okp:=fun _=>True) ?hr ?hp (fun _ hk=>hk) trivial (Below.refl _ _) (Nat.le_refl _) (by simp) ?_;(case hd=>rfl);(case hg=>rfl);(case hr=>first|(go_simp;done)|(go_simp;rfl));(case hp=>exact(Reps.one (show Kd.M (Kd.int .i64) _ _ _ (l0.length:Int) [.int .i64 (l0.length:Int)] from rfl) (Reps.none _ _)));intro be w3 Z hb bd hnew_;clear bd hnew_;(first|rw[← ae.out] at Z|(simp only[Int.reduceToNat] at Z;rw[← ae.out] at Z));have ak:=Sd.mk (Kd.R_lower Z (below_size bz));replace HB:=Sd.mk (below_step bz hb);clear hb Z))
 go_loopg [5,6] k (fun kq v5 v6 w'=>∃ (E:List Int) (j:Int),v6=.int .i64 j∧Sd (spec_l1Make.l0 kq l0 l1 E j=some r)∧Sd (kq≤k)∧Sd (Kd.R (Kd.int .i64) 3 w' w.heap.size (fun _=>True) v5 E)∧Sd (Below w.heap.size w w'))
 case atStart=>exact⟨(ag),(0),(by first|rfl|(simp;done)|(simp[*];done)),H',⟨Nat.le_refl _⟩,⟨Kd.Rz ak.out⟩,⟨bz⟩⟩
 case round =>
  clear H';obtain⟨E,j,rfl,HA,ax,G,HB⟩:=hrel
  cases gk with
  | zero=>exact absurd HA.out (by simp[spec_l1Make.l0])
  | succ k1 =>
   have H:=HA.out;clear HA;simp only[spec_l1Make.l0] at H
   by_cases c5:j<(l0.length:Int)
   ·rw[if_pos c5] at H
    have a0:decide (j<(l0.length:Int))=true:=decide_eq_true c5;clear c5
    by_cases c6:0≤j
    ·rw[if_pos c6] at H
     have bh:decide (0≤j)=true:=decide_eq_true c6;clear c6
     by_cases c7:E.length<17592186044416
     ·rw[if_pos c7] at H
      have a1:=Sd.mk c7;clear c7;obtain⟨I,X⟩:∃ y_:List Int,y_=(E++[rd l0 j]):=⟨_,rfl⟩;replace H:(if j<(l1.length:Int) then(if I.length+(rd_L1 l1 j).length<17592186044416 then(spec_l1Make.l0 k1 l0 l1 (I++(rd_L1 l1 j)) (wrap64 (j+1))) else(none)) else(none))=some r:=hz X H;have al:=Sd.mk X;clear X
      by_cases c8:j<(l1.length:Int)
      ·rw[if_pos c8] at H
       have bj:decide (j<(l1.length:Int))=true:=decide_eq_true c8;clear c8
       by_cases c9:I.length+(rd_L1 l1 j).length<17592186044416
       ·rw[if_pos c9] at H
        have a2:=Sd.mk c9;clear c9;obtain⟨ah,Y⟩:∃ y_:List Int,y_=(I++(rd_L1 l1 j)):=⟨_,rfl⟩;replace H:(spec_l1Make.l0 k1 l0 l1 ah (wrap64 (j+1)))=some r:=hz Y H;have am:=Sd.mk Y;clear Y;have H':=Sd.mk H;clear H
        try go_wp2
        replace G:=Sd.mk (Kd.R_drew G.out);replace HB:=Sd.mk (below_drew1 HB.out);have aa:0≤(j:Int):=dz;have ab:j<(l0.length:Int):=dz;obtain⟨an,a3,z⟩:=Kd.at_int bb.out j aa ab;have m:=z;cases a3;replace z:=(HB.out.cell (World.block_lt_of_cell? w _ z)).trans z;replace aa:=eq_true aa;replace ab:=eq_true ab;have ac:0≤(j:Int):=dz;have ad:j<(l1.length:Int):=dz;obtain⟨ao,ai,aj,a4,D,J,L⟩:=at_L1 bc.out j ac ad;have o:=D;cases a4;replace D:=(HB.out.cell (World.block_lt_of_cell? w _ D)).trans D;have O:=Sd.mk L;have a6:=Sd.mk J;clear L J;replace ac:=eq_true ac;replace ad:=eq_true ad;refine start_ (n:=13) (S:=fun w'=>w'.cell? (an.add (j).toNat)=some (.int .i64 (rd l0 j))∧w'.cell? (ao.add (j).toNat)=some (.slice ai (rd_L1 l1 j).length aj)) (ds:=[]) #[F,F,F,F,F,F,F,F,F,F,F,F,F] (by kernel_rfl) rfl rfl ⟨((HB.out.cell (World.block_lt_of_cell? w _ m)).trans m),((HB.out.cell (World.block_lt_of_cell? w _ o)).trans o)⟩ (fun hHeld=>?_);refine with_tabW spec_l1Make.tab5 spec_l1Make.bits5 (fun HT_ HW_=>?_)
        generalize wr.drew=bn at G HB O z D hHeld ⊢
        refine qs 0 16 HT_.out ?_;refine qs 1 17 HT_.out ?_;refine qs 2 18 HT_.out ?_;refine qs 3 19 HT_.out ?_;refine qs 7 23 HT_.out ?_;refine qs 8 24 HT_.out ?_;refine qs 9 25 HT_.out ?_;refine tk 4 20 HT_.out HW_.out hHeld rfl rfl (by rintro w' ⟨s0,s1⟩;go_simp;with_reducible rfl) ?_;refine tk 10 26 HT_.out HW_.out hHeld rfl rfl (by rintro w' ⟨s0,s1⟩;go_simp;with_reducible rfl) ?_;refine on 5 21 HT_.out (fun K hK=>?_);refine value_ (w1:=?_) (v:=?_) (by rfl) rfl ?_ ?_
        rotate_left 2
        ·go_simp
         constructor
         ·rfl
         ·rfl
        refine hK.out _ _ ⟨(World.cell?_alloc_lt _ _ _ (World.block_lt_of_cell? _ _ (((HB.out.cell (World.block_lt_of_cell? w _ m)).trans m)))).trans (((HB.out.cell (World.block_lt_of_cell? w _ m)).trans m)),(World.cell?_alloc_lt _ _ _ (World.block_lt_of_cell? _ _ (((HB.out.cell (World.block_lt_of_cell? w _ o)).trans o)))).trans (((HB.out.cell (World.block_lt_of_cell? w _ o)).trans o))⟩ (fun hHeld=>?_);clear hK K;refine nm (some 21) ?_;refine on 6 22 HT_.out (fun K hK=>?_);refine Kd.R_append_step (Kd.int .i64) (w0:=w) w.heap.size (by rfl) (.tmp 16) (.tmp 21) 22 3 (.int .i64 0) 8 rfl Tryd.underlying22 info3 rfl (by decide) (by omega) u5 E (rd l0 j) [.int .i64 (rd l0 j)] (fun _=>True) (fun _=>False) rfl rfl ?aP (fun _ hk=>hk.elim) ?aF ?aO ?aB ?aS ?aL ?_
        (case aP=>exact rfl)
        (case aB=>exact bz)
        (case aF=>exact(fun _ _=>trivial))
        (case aO=>exact(Kd.Rz G.out))
        (case aS=>exact(below_size bz))
        (case aL=>have:=a1.out;omega)
        intro a5 bo ho hb hg hat;rw[← al.out] at ho;replace HB:=Sd.mk (hb);have af:=Sd.mk (ho);clear G;clear ho hb hg hat;refine hK.out _ _ ⟨((HB.out.cell (World.block_lt_of_cell? w _ m)).trans m),((HB.out.cell (World.block_lt_of_cell? w _ o)).trans o)⟩ (fun hHeld=>?_);clear hK K;refine nm (some 22) ?_;refine on 11 27 HT_.out (fun K hK=>?_);refine Kd.R_append_rows_step (Kd.int .i64) (w0:=w) w.heap.size (by rfl) (.tmp 22) (.tmp 26) 22 3 (.int .i64 0) 8 rfl Tryd.underlying22 info3 rfl (by decide) (by omega) a5 I (rd_L1 l1 j) _ _ _ (fun _=>True) (fun _=>False) rfl rfl ?aO ?aR (fun _ _ h=>h) (fun _ h=>h.elim) ?aF ?aB ?aS ?aL ?_
        (case aR=>repeat (first|exact(Kd.C_below O.out HB.out)|(with_reducible refine Kd.C_alloc ?_ _)|(with_reducible refine Kd.C_drewN ?_ _)|(with_reducible refine Kd.C_drew ?_)))
        (case aB=>exact bz)
        (case aF=>exact(fun _ _=>trivial))
        (case aO=>exact(Kd.Rz af.out))
        (case aS=>exact(below_size bz))
        (case aL=>have:=a2.out;omega)
        intro bk bp ho hb hg hat;rw[← am.out] at ho;replace HB:=Sd.mk (hb);have ap:=Sd.mk (ho);clear af;clear ho hb hg hat;refine hK.out _ _ ⟨((HB.out.cell (World.block_lt_of_cell? w _ m)).trans m),((HB.out.cell (World.block_lt_of_cell? w _ o)).trans o)⟩ (fun hHeld=>?_);clear hK K;refine nm (some 27) ?_;refine qs 12 5 HT_.out ?_;refine done_ (done_of HT_.out (by kernel_rfl)) ?_
        try go_wp2
        go_roundg k1
        case measure=>have:=ax.out;omega
        case rel=>exact⟨(ah),(wrap64 (j+1)),(by first|rfl|(simp;done)|(simp[*];done)),H',⟨by have:=ax.out;omega⟩,⟨Kd.Rz ap.out⟩,⟨bz⟩⟩
       ·rw[if_neg c9] at H
        exact absurd H (by simp)
      ·rw[if_neg c8] at H
       exact absurd H (by simp)
     ·rw[if_neg c7] at H
      exact absurd H (by simp)
    ·rw[if_neg c6] at H
     exact absurd H (by simp)
   ·rw[if_neg c5] at H
    have a0:decide (j<(l0.length:Int))=false:=decide_eq_false c5;clear c5;obtain rfl:=Option.some.inj H;go_wp2;go_ret;exact⟨_,by first|rfl|(simp[errW_none,errW_some]<;>rfl)|(simp[*,errW_none,errW_some]<;>rfl),by(with_reducible repeat (first|apply Kd.R_alloc|apply Kd.R_drewN|apply Kd.R_drew));exact G.out,bz⟩
end Go.Proofs.YtbdbldhpglponaaDoor.P