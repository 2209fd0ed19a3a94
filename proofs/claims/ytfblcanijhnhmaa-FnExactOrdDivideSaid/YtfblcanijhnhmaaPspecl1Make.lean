/- One Go function comes to what its Lean function tells. -/
import Derived.Test.YtfblcanijhnhmaaP0
namespace Go.Proofs.Ytfblcanijhnhmaa.P
open Go.RowKit YtfblcanijhnhmaaW.PrintWords YtfblcanijhnhmaaW.PrintLast YtfblcanijhnhmaaW.PrintMore
set_option linter.unusedVariables false
set_option linter.unusedSimpArgs false
/-! ### spec_l1Make: function 54 -/
def spec_l1Make.l0:Nat→List Int→List (List Int)→List Int→Int→Option (List Int)
 | 0,_,_,_,_=>none
 | k+1,x0,x1,x5,x6=>if x6<(x0.length:Int) then(if 0≤x6 then(if x5.length<17592186044416 then((some (x5++[rd x0 x6]:List Int)).bind fun y185=>(if x6<(x1.length:Int) then(if y185.length+(rd_L1 x1 x6).length<17592186044416 then(spec_l1Make.l0 k x0 x1 (y185++(rd_L1 x1 x6)) (wrap64 (x6+1))) else(none)) else(none))) else(none)) else(none)) else(some x5)
def spec_l1Make.f (k:Nat)(l0:List Int)(l1:List (List Int)):Option (List Int):=spec_l1Make.l0 k l0 l1 (([(l0.length:Int)]:List Int)) 0
theorem spec_l1Make.mono_l:∀ k,(∀ y0 y1 y2 y3,LeO (spec_l1Make.l0 k y0 y1 y2 y3) (spec_l1Make.l0 (k+1) y0 y1 y2 y3))
 | 0=>fun _ _ _ _ r h=>by simp[spec_l1Make.l0] at h
 | k+1=>by
  have ih0:=spec_l1Make.mono_l k
  ·intro y0 y1 y2 y3
   unfold spec_l1Make.l0
   repeat' first|(with_reducible first|exact ih0 _ _ _ _|exact LeO.refl _|exact LeO.none _|refine LeO.ite ?_ ?_|refine LeO.bind ?_ (fun _=>?_))|exact ih0 _ _ _ _|exact LeO.none _|refine LeO.ite ?_ ?_|refine LeO.bind ?_ (fun _=>?_)
theorem spec_l1Make.mono:∀ a0 a1 k,LeO (spec_l1Make.f k a0 a1) (spec_l1Make.f (k+1) a0 a1):=by
 intro a0 a1 k;have ih0:=spec_l1Make.mono_l k;unfold spec_l1Make.f
 repeat' first|(with_reducible first|exact ih0 _ _ _ _|exact LeO.refl _|exact LeO.none _|refine LeO.ite ?_ ?_|refine LeO.bind ?_ (fun _=>?_))|exact ih0 _ _ _ _|exact LeO.none _|refine LeO.ite ?_ ?_|refine LeO.bind ?_ (fun _=>?_)
def spec_l1Make.T5:Bool × List (List Nat × List Nat):=(true,[([],[]),([],[]),([],[]),([1,2],[1,2]),([3],[3]),([4],[4]),([0,5],[0,5]),([],[]),([],[]),([7,8],[7,8]),([9],[9]),([6,10,6],[6,10]),([11,11,0,1,2,3,4,5,6,7,8,9,10,11],[0,11])])
def spec_l1Make.B5:List Nat:=[0,0,0,6,14,30,63,0,0,384,896,2047,4095]
theorem spec_l1Make.tab5:rtab .any (opsOf Try.f54 5)=spec_l1Make.T5:=by kernel_rfl
theorem spec_l1Make.bits5:waitsOk spec_l1Make.T5.2 spec_l1Make.B5=true:=by kernel_rfl
set_option maxHeartbeats 8000000 in
set_option maxRecDepth 100000 in
theorem spec_l1Make.calls (k:Nat)(A0:Option Addr)(c0:Nat)(l0:List Int)(A1:Option Addr)(c1:Nat)(l1:List (List Int))(r:List Int)(w:World)(hr0:Kd.C (Kd.int .i64) w A0 l0.length l0)(hc0:l0.length≤c0)(hr1:Kd.C (Kd.slice 3 (Kd.int .i64)) w A1 l1.length l1)(hc1:l1.length≤c1)(h:spec_l1Make.f k l0 l1=some r) :
  Calls Try.prog 54 #[.slice A0 l0.length c0,.slice A1 l1.length c1] w fun e w'=>∃ v0_:Value,e=.returned (v0_)∧Kd.R (Kd.int .i64) 3 w' w.heap.size (fun _=>True) v0_ r∧Below w.heap.size w w':=by
 have HR0:=Sd.mk hr0;have HC0:=Sd.mk hc0;clear hr0 hc0;have HR1:=Sd.mk hr1;have HC1:=Sd.mk hc1;clear hr1 hc1;have HB:=Sd.mk (Below.refl w.heap.size w);have H:(spec_l1Make.l0 k l0 l1 (([(l0.length:Int)]:List Int)) 0)=some r:=h;clear h;obtain⟨y181,hy181⟩:∃ y_:List Int,y_=(([(l0.length:Int)]:List Int)):=⟨_,rfl⟩;replace H:(spec_l1Make.l0 k l0 l1 y181 0)=some r:=hz hy181 H;have Ny181:=Sd.mk hy181;clear hy181;have H':=Sd.mk H;clear H;go_enter Try.func54,Try.ntmps54;go_wp2_with (first|((with_reducible refine gate_dst (N:=9) rfl ?_);refine Kd.R_lit (Kd.int .i64) _ 3 ?hg (N:=9) ?hd (xs:=([(l0.length:Int)]:List Int)) (inner:=[.int .i64 (l0.length:Int)]) (ok:=fun _=>True) (okp:=fun _=>True) ?hr ?hp (fun _ hk=>hk) trivial (Below.refl _ _) (Nat.le_refl _) (by simp) ?_;(case hd=>rfl);(case hg=>rfl);(case hr=>first|(go_simp;done)|(go_simp;rfl));(case hp=>exact(Reps.one (show Kd.M (Kd.int .i64) _ _ _ (l0.length:Int) [.int .i64 (l0.length:Int)] from rfl) (Reps.none _ _)));intro v182 w3 ho4 hb hg_ hnew_;clear hg_ hnew_;(first|rw[← Ny181.out] at ho4|(simp only[Int.reduceToNat] at ho4;rw[← Ny181.out] at ho4));have HO183:=Sd.mk (Kd.R_lower ho4 (below_size bz));replace HB:=Sd.mk (below_step bz hb);clear hb ho4))
 go_loopg [5,6] k (fun kq v5 v6 w'=>∃ (x5_1:List Int) (x6_1:Int),v6=.int .i64 x6_1∧Sd (spec_l1Make.l0 kq l0 l1 x5_1 x6_1=some r)∧Sd (kq≤k)∧Sd (Kd.R (Kd.int .i64) 3 w' w.heap.size (fun _=>True) v5 x5_1)∧Sd (Below w.heap.size w w'))
 case atStart=>exact⟨(y181),(0),(by first|rfl|(simp;done)|(simp[*];done)),H',⟨Nat.le_refl _⟩,⟨by(with_reducible repeat (first|apply Kd.R_alloc|apply Kd.R_drewN|apply Kd.R_drew));exact HO183.out⟩,⟨bz⟩⟩
 case round =>
  clear H'
  try clear c1
  try clear p2
  obtain⟨x5_1,x6_1,rfl,HA,HK1,HO_5,HB⟩:=hrel
  cases gk with
  | zero=>exact absurd HA.out (by simp[spec_l1Make.l0])
  | succ k1 =>
   have H:=HA.out;clear HA;simp only[spec_l1Make.l0] at H
   by_cases c5:x6_1<(l0.length:Int)
   ·rw[if_pos c5] at H
    have c5b0:decide (x6_1<(l0.length:Int))=true:=decide_eq_true c5;clear c5
    by_cases c6:0≤x6_1
    ·rw[if_pos c6] at H
     have c6b0:decide (0≤x6_1)=true:=decide_eq_true c6;clear c6
     by_cases c7:x5_1.length<17592186044416
     ·rw[if_pos c7] at H
      have LMc7:=Sd.mk c7;clear c7;obtain⟨y185,hy185⟩:∃ y_:List Int,y_=(x5_1++[rd l0 x6_1]):=⟨_,rfl⟩;replace H:(if x6_1<(l1.length:Int) then(if y185.length+(rd_L1 l1 x6_1).length<17592186044416 then(spec_l1Make.l0 k1 l0 l1 (y185++(rd_L1 l1 x6_1)) (wrap64 (x6_1+1))) else(none)) else(none))=some r:=hz hy185 H;have Ny185:=Sd.mk hy185;clear hy185
      by_cases c8:x6_1<(l1.length:Int)
      ·rw[if_pos c8] at H
       have c8b0:decide (x6_1<(l1.length:Int))=true:=decide_eq_true c8;clear c8
       by_cases c9:y185.length+(rd_L1 l1 x6_1).length<17592186044416
       ·rw[if_pos c9] at H
        have LMc9:=Sd.mk c9;clear c9;obtain⟨y189,hy189⟩:∃ y_:List Int,y_=(y185++(rd_L1 l1 x6_1)):=⟨_,rfl⟩;replace H:(spec_l1Make.l0 k1 l0 l1 y189 (wrap64 (x6_1+1)))=some r:=hz hy189 H;have Ny189:=Sd.mk hy189;clear hy189;have H':=Sd.mk H;clear H
        try go_wp2
        have n0_:=Sd.mk (Kd.R_drew HO_5.out);have n1_:=Sd.mk (below_drew1 HB.out);clear HO_5;clear HB;have HO_5:=n0_;have HB:=n1_;clear n0_ n1_;have p184:0≤(x6_1:Int):=dz;have q184:x6_1<(l0.length:Int):=dz;obtain⟨ad184,e184,hx184_0⟩:=Kd.at_int HR0.out x6_1 p184 q184;have hw184_0:=hx184_0;cases e184;replace hx184_0:=(HB.out.cell (World.block_lt_of_cell? w _ hx184_0)).trans hx184_0;replace p184:=eq_true p184;replace q184:=eq_true q184;have p188:0≤(x6_1:Int):=dz;have q188:x6_1<(l1.length:Int):=dz;obtain⟨ad188,A188_0,c188_0,e188,hx188_0,hl188_0,hi188_0⟩:=at_L1 HR1.out x6_1 p188 q188;have hw188_0:=hx188_0;cases e188;replace hx188_0:=(HB.out.cell (World.block_lt_of_cell? w _ hx188_0)).trans hx188_0;have HR188_0:=Sd.mk hi188_0;have HC188_0:=Sd.mk hl188_0;clear hi188_0 hl188_0;replace p188:=eq_true p188;replace q188:=eq_true q188;refine start_ (n:=13) (S:=fun w'=>w'.cell? (ad184.add (x6_1).toNat)=some (.int .i64 (rd l0 x6_1))∧w'.cell? (ad188.add (x6_1).toNat)=some (.slice A188_0 (rd_L1 l1 x6_1).length c188_0)) (ds:=[]) #[F,F,F,F,F,F,F,F,F,F,F,F,F] (by kernel_rfl) rfl rfl ⟨((HB.out.cell (World.block_lt_of_cell? w _ hw184_0)).trans hw184_0),((HB.out.cell (World.block_lt_of_cell? w _ hw188_0)).trans hw188_0)⟩ (fun hHeld=>?_);refine with_tabW spec_l1Make.tab5 spec_l1Make.bits5 (fun HT_ HW_=>?_)
        generalize wr.drew=w10 at HO_5 HB HR188_0 hx184_0 hx188_0 hHeld ⊢
        refine pq 0 (some 16) HT_.out rfl rfl ?_;refine pq 1 (some 17) HT_.out rfl rfl ?_;refine pq 2 (some 18) HT_.out rfl rfl ?_;refine pq 3 (some 19) HT_.out rfl rfl ?_;refine pq 7 (some 23) HT_.out rfl rfl ?_;refine pq 8 (some 24) HT_.out rfl rfl ?_;refine pq 9 (some 25) HT_.out rfl rfl ?_;refine take_ (i:=4) (N:=some 20) (v:=?_) (a':=?_) #[T,T,T,T,T,F,F,T,T,T,F,F,F] rfl rfl (take_ofW HT_.out HW_.out (by kernel_rfl)) (fun _ _ _ h=>h) (Or.inl ⟨by rfl,?_⟩) hHeld ?_ ?_
        rotate_left;(· rintro w' ⟨s0,s1⟩;go_simp;with_reducible rfl);rotate_left;(· simp only[Act.put,s1,s2,s3,i64_w,i32_w];rfl)
        refine take_ (i:=10) (N:=some 26) (v:=?_) (a':=?_) #[T,T,T,T,T,F,F,T,T,T,T,F,F] rfl rfl (take_ofW HT_.out HW_.out (by kernel_rfl)) (fun _ _ _ h=>h) (Or.inl ⟨by rfl,?_⟩) hHeld ?_ ?_
        rotate_left;(· rintro w' ⟨s0,s1⟩;go_simp;with_reducible rfl);rotate_left;(· simp only[Act.put,s1,s2,s3,i64_w,i32_w];rfl)
        refine one_ (i:=5) (N:=some 21) #[T,T,T,T,T,T,F,T,T,T,T,F,F] rfl rfl (one_of HT_.out (by kernel_rfl)) (by decide) (fun K hK=>?_);refine value_ (w1:=?_) (v:=?_) (by rfl) rfl ?_ ?_
        rotate_left 2
        ·go_simp
         constructor
         ·rfl
         ·rfl
        refine hK.out _ _ ⟨(World.cell?_alloc_lt _ _ _ (World.block_lt_of_cell? _ _ (((HB.out.cell (World.block_lt_of_cell? w _ hw184_0)).trans hw184_0)))).trans (((HB.out.cell (World.block_lt_of_cell? w _ hw184_0)).trans hw184_0)),(World.cell?_alloc_lt _ _ _ (World.block_lt_of_cell? _ _ (((HB.out.cell (World.block_lt_of_cell? w _ hw188_0)).trans hw188_0)))).trans (((HB.out.cell (World.block_lt_of_cell? w _ hw188_0)).trans hw188_0))⟩ (fun hHeld=>?_);clear hK K;refine norm_ (a':=?_) ?_ ?_
        rotate_left
        ·show Act.put _ (some 21) _=_
         simp only[Act.put,s1,s2,s3,i64_w,i32_w]
         rfl
        refine one_ (i:=6) (N:=some 22) #[T,T,T,T,T,T,T,T,T,T,T,F,F] rfl rfl (one_of HT_.out (by kernel_rfl)) (by decide) (fun K hK=>?_);refine Kd.R_append_step (Kd.int .i64) (w0:=w) w.heap.size (by rfl) (.tmp 16) (.tmp 21) 22 3 (.int .i64 0) 8 rfl Try.underlying22 info3 rfl (by decide) (by omega) u5 x5_1 (rd l0 x6_1) [.int .i64 (rd l0 x6_1)] (fun _=>True) (fun _=>False) rfl rfl ?aP (fun _ hk=>hk.elim) ?aF ?aO ?aB ?aS ?aL ?_
        (case aP=>exact rfl)
        (case aB=>exact bz)
        (case aF=>exact(fun _ _=>trivial))
        (case aO=>exact(Kd.Rz HO_5.out))
        (case aS=>exact(below_size bz))
        (case aL=>have:=LMc7.out;omega)
        intro v186 w11 ho hb hg hat;rw[← Ny185.out] at ho;have n0_:=Sd.mk (hb);have n1_:=Sd.mk (ho);clear HB;clear HO_5;have HB:=n0_;have HO187:=n1_;clear n0_ n1_;clear ho hb hg hat;refine hK.out _ _ ⟨((HB.out.cell (World.block_lt_of_cell? w _ hw184_0)).trans hw184_0),((HB.out.cell (World.block_lt_of_cell? w _ hw188_0)).trans hw188_0)⟩ (fun hHeld=>?_);clear hK K;refine norm_ (a':=?_) ?_ ?_
        rotate_left
        ·show Act.put _ (some 22) _=_
         simp only[Act.put,s1,s2,s3,i64_w,i32_w]
         rfl
        refine one_ (i:=11) (N:=some 27) #[T,T,T,T,T,T,T,T,T,T,T,T,F] rfl rfl (one_of HT_.out (by kernel_rfl)) (by decide) (fun K hK=>?_);refine Kd.R_append_rows_step (Kd.int .i64) (w0:=w) w.heap.size (by rfl) (.tmp 22) (.tmp 26) 22 3 (.int .i64 0) 8 rfl Try.underlying22 info3 rfl (by decide) (by omega) v186 y185 (rd_L1 l1 x6_1) _ _ _ (fun _=>True) (fun _=>False) rfl rfl ?aO ?aR (fun _ _ h=>h) (fun _ h=>h.elim) ?aF ?aB ?aS ?aL ?_
        (case aR=>repeat (first|exact(Kd.C_below HR188_0.out HB.out)|(with_reducible refine Kd.C_alloc ?_ _)|(with_reducible refine Kd.C_drewN ?_ _)|(with_reducible refine Kd.C_drew ?_)))
        (case aB=>exact bz)
        (case aF=>exact(fun _ _=>trivial))
        (case aO=>exact(Kd.Rz HO187.out))
        (case aS=>exact(below_size bz))
        (case aL=>have:=LMc9.out;omega)
        intro v190 w12 ho hb hg hat;rw[← Ny189.out] at ho;have n0_:=Sd.mk (hb);have n1_:=Sd.mk (ho);clear HB;clear HO187;have HB:=n0_;have HO191:=n1_;clear n0_ n1_;clear ho hb hg hat;refine hK.out _ _ ⟨((HB.out.cell (World.block_lt_of_cell? w _ hw184_0)).trans hw184_0),((HB.out.cell (World.block_lt_of_cell? w _ hw188_0)).trans hw188_0)⟩ (fun hHeld=>?_);clear hK K;refine norm_ (a':=?_) ?_ ?_
        rotate_left
        ·show Act.put _ (some 27) _=_
         simp only[Act.put,s1,s2,s3,i64_w,i32_w]
         rfl
        refine pq 12 (some 5) HT_.out rfl rfl ?_;refine done_ (done_of HT_.out (by kernel_rfl)) ?_
        try go_wp2
        go_roundg k1
        case measure=>have:=HK1.out;omega
        case rel=>exact⟨(y189),(wrap64 (x6_1+1)),(by first|rfl|(simp;done)|(simp[*];done)),H',⟨by have:=HK1.out;omega⟩,⟨by(with_reducible repeat (first|apply Kd.R_alloc|apply Kd.R_drewN|apply Kd.R_drew));exact HO191.out⟩,⟨bz⟩⟩
       ·rw[if_neg c9] at H
        exact absurd H (by simp)
      ·rw[if_neg c8] at H
       exact absurd H (by simp)
     ·rw[if_neg c7] at H
      exact absurd H (by simp)
    ·rw[if_neg c6] at H
     exact absurd H (by simp)
   ·rw[if_neg c5] at H
    have c5b0:decide (x6_1<(l0.length:Int))=false:=decide_eq_false c5;clear c5;obtain rfl:=Option.some.inj H;go_wp2;go_ret;exact⟨_,by first|rfl|(simp[errW_none,errW_some]<;>rfl)|(simp[*,errW_none,errW_some]<;>rfl),by(with_reducible repeat (first|apply Kd.R_alloc|apply Kd.R_drewN|apply Kd.R_drew));exact HO_5.out,bz⟩
end Go.Proofs.Ytfblcanijhnhmaa.P