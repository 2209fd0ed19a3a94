/- One Go function comes to what its Lean function tells. -/
import Derived.Test.YtbdbldhpglponaaDoorP0
namespace Go.Proofs.YtbdbldhpglponaaDoor.P
open Go.RowKit YtbdbldhpglponaaDoorW.PrintWords YtbdbldhpglponaaDoorW.PrintLast YtbdbldhpglponaaDoorW.PrintMore
set_option linter.unusedVariables false
set_option linter.unusedSimpArgs false
/-! ### spec_l1Number: function 44 -/
def spec_l1Number.f:Nat→Int→Option (ByteArray)
 | 0,_=>none
 | k+1,a0=>if a0<10 then(some (strOfNums (([(wrap64 (48+a0)) % 256]:List Int)))) else((spec_l1Number.f k (wrap64 (Int.tdiv a0 10))).bind fun t173=>((some (([(wrap64 (48+(Int.tmod a0 10))) % 256]:List Int):List Int)).bind fun y174=>(if t173.size+(strOfNums y174).size≤9223372036854775807 then(some (t173++(strOfNums y174))) else(none))))
def spec_l1Number.T3:Bool × List (List Nat × List Nat):=(true,[([],[]),([0],[0]),([1],[1]),([],[]),([3],[3]),([4],[4]),([5],[5]),([6],[6]),([7],[7]),([2,8],[2,8]),([9,2,0,1,2,3,4,5,6,7,8,9],[9])])
def spec_l1Number.B3:List Nat:=[0,1,3,0,8,24,56,120,248,511,1023]
theorem spec_l1Number.tab3:rtab .any (opsOf Tryd.f44 3)=spec_l1Number.T3:=by kernel_rfl
theorem spec_l1Number.bits3:waitsOk spec_l1Number.T3.2 spec_l1Number.B3=true:=by kernel_rfl
set_option maxHeartbeats 8000000 in
set_option maxRecDepth 100000 in
theorem spec_l1Number.calls (k:Nat):∀ (o:Int) (r:ByteArray) (w:World) (h:spec_l1Number.f k o=some r),
  Calls Tryd.prog 44 #[.int .i64 o] w fun e w'=>e=.returned (.string r)∧Below w.heap.size w w':=by
 induction k using Nat.strongRecOn with
 | _ k ih =>
 intro o r w h
 cases k with
 | zero=>exact absurd h (by simp[spec_l1Number.f])
 | succ k =>
 simp only[spec_l1Number.f] at h;have HB:=Sd.mk (Below.refl w.heap.size w);have H:(if o<10 then(some (strOfNums (([(wrap64 (48+o)) % 256]:List Int)))) else((spec_l1Number.f k (wrap64 (Int.tdiv o 10))).bind fun z=>((some (([(wrap64 (48+(Int.tmod o 10))) % 256]:List Int):List Int)).bind fun D=>(if z.size+(strOfNums D).size≤9223372036854775807 then(some (z++(strOfNums D))) else(none)))))=some r:=h;clear h
 by_cases c2:o<10
 ·rw[if_pos c2] at H
  have ah:decide (o<10)=true:=decide_eq_true c2;clear c2;obtain⟨ai,L⟩:∃ y_:List Int,y_=(([(wrap64 (48+o)) % 256]:List Int)):=⟨_,rfl⟩;replace H:(some (strOfNums ai))=some r:=hz L H;have Z:=Sd.mk L;clear L;obtain rfl:=Option.some.inj H;go_enter Tryd.func44,Tryd.ntmps44;go_wp2_with (first|((with_reducible refine gate_dst (N:=8) rfl ?_);refine Kd.R_lit (Kd.int .u8) _ 5 ?hg (N:=8) ?hd (xs:=([(wrap64 (48+o)) % 256]:List Int)) (inner:=[.int .u8 ((wrap64 (48+o)) % 256)]) (ok:=fun _=>True) (okp:=fun _=>True) ?hr ?hp (fun _ hk=>hk) trivial (Below.refl _ _) (Nat.le_refl _) (by simp) ?_;(case hd=>rfl);(case hg=>rfl);(case hr=>first|(go_simp;done)|(go_simp;rfl));(case hp=>exact(Reps.one (show Kd.M (Kd.int .u8) _ _ _ ((wrap64 (48+o)) % 256) [.int .u8 ((wrap64 (48+o)) % 256)] from rfl) (Reps.none _ _)));intro ak w3 X hb Y hnew_;clear Y hnew_;(first|rw[← Z.out] at X|(simp only[Int.reduceToNat] at X;rw[← Z.out] at X));have aa:=Sd.mk (Kd.R_lower X (below_size bz));replace HB:=Sd.mk (below_step bz hb);clear hb X;have al:=own_string (P:=Tryd.prog) Tryd.underlying28 Tryd.underlying5 Tryd.underlying9 (Kd.own_of_R aa.out)));go_ret;exact⟨by first|rfl|(simp[errW_none,errW_some]<;>rfl)|(simp[*,errW_none,errW_some]<;>rfl),bz⟩
 ·rw[if_neg c2] at H
  have ah:decide (o<10)=false:=decide_eq_false c2;clear c2;obtain⟨z,A6,H⟩:=bs H;obtain⟨D,O⟩:∃ y_:List Int,y_=(([(wrap64 (48+(Int.tmod o 10))) % 256]:List Int)):=⟨_,rfl⟩;replace H:(if z.size+(strOfNums D).size≤9223372036854775807 then(some (z++(strOfNums D))) else(none))=some r:=hz O H;have G:=Sd.mk O;clear O
  by_cases c7:z.size+(strOfNums D).size≤9223372036854775807
  ·rw[if_pos c7] at H
   have am:=eq_true c7;have an:decide (z.size+(strOfNums D).size≤9223372036854775807)=true:=decide_eq_true c7
   try have ao:(9223372036854775807<z.size+(strOfNums D).size)=False:=eq_false (Nat.not_lt.2 c7)
   obtain rfl:=Option.some.inj H;go_enter Tryd.func44,Tryd.ntmps44
   try go_wp2
   replace HB:=Sd.mk (below_drew1 HB.out);refine start_ (n:=11) (S:=fun w'=>True) (ds:=[]) #[F,F,F,F,F,F,F,F,F,F,F] (by kernel_rfl) rfl rfl trivial (fun hHeld=>?_);refine with_tabW spec_l1Number.tab3 spec_l1Number.bits3 (fun HT_ HW_=>?_)
   generalize w.drew=w8 at HB hHeld ⊢
   refine qs 0 10 HT_.out ?_;refine qs 1 11 HT_.out ?_;refine qs 3 13 HT_.out ?_;refine qs 4 14 HT_.out ?_;refine qs 5 15 HT_.out ?_;refine qs 6 16 HT_.out ?_;refine join_ (σ:=Value) 2 #[T,T,T,T,T,T,T,T,T,F,F] (fun s_=>[(12,.string z),(17,s_),(18,.string (strOfNums D))]) (fun s_ w'=>(Kd.R (Kd.int .u8) 5 w' w.heap.size (fun _=>True) s_ D)∧(Below w.heap.size w w')) ?_ ?_
   rotate_left
   ·intro hCont
    refine two_ (i:=2) (j:=7) (Ni:=some 12) (Nj:=some 17) #[T,T,T,T,T,T,T,F,F,F,F] #[T,T,F,T,T,T,T,T,F,F,F] rfl rfl rfl rfl (two_of HT_.out (by kernel_rfl)) (by decide) (by decide) (fun K hK=>?_) (fun K hK=>?_)
    ·skip
     refine goes_ Tryd.func44 (by kernel_rfl) rfl #[.int .i64 (wrap64 (Int.tdiv o 10))] (by rfl) rfl rfl az ?_
     with_reducible refine(ih k (by omega) (wrap64 (Int.tdiv o 10)) z _ A6.out).mono ?_
     rintro e w9 ⟨rfl,hb⟩;refine⟨_,rfl,?_⟩;replace HB:=Sd.mk (below_step bz hb);refine hK.out _ _ trivial (fun hHeld=>?_);clear hK K;refine nm (some 12) ?_;refine on 7 17 HT_.out (fun K hK=>?_);refine Kd.R_lit_step (Kd.int .u8) _ 5 ?hg (N:=17) ?hd (xs:=([(wrap64 (48+(Int.tmod o 10))) % 256]:List Int)) (inner:=[.int .u8 ((wrap64 (48+(Int.tmod o 10))) % 256)]) (ok:=fun _=>True) (okp:=fun _=>True) ?hr ?hp (fun _ hk=>hk) trivial (Below.refl _ _) (Nat.le_refl _) (by simp) ?_;(case hd=>rfl);(case hg=>rfl);(case hr=>first|(go_simp;done)|(go_simp;rfl));(case hp=>exact(Reps.one (show Kd.M (Kd.int .u8) _ _ _ ((wrap64 (48+(Int.tmod o 10))) % 256) [.int .u8 ((wrap64 (48+(Int.tmod o 10))) % 256)] from rfl) (Reps.none _ _)));intro E aq I hb Y hnew_;clear Y hnew_
     (first|rw[← G.out] at I|(simp only[Int.reduceToNat] at I;rw[← G.out] at I))
     have m:=Sd.mk (Kd.R_lower I (below_size bz));replace HB:=Sd.mk (below_step bz hb);clear hb I;refine hK.out _ _ trivial (fun hHeld=>?_);clear hK K;refine nm (some 17) ?_;refine on 8 18 HT_.out (fun K hK=>?_);have U:=own_string (P:=Tryd.prog) Tryd.underlying28 Tryd.underlying5 Tryd.underlying9 (Kd.own_of_R m.out);refine value_ (w1:=?_) (v:=?_) (by rfl) rfl ?_ ?_
     rotate_left 2
     ·go_simp
      constructor
      ·rfl
      ·rfl
     clear U;refine hK.out _ _ trivial (fun hHeld=>?_);clear hK K;refine nm (some 18) ?_;exact norm_ (by simp only[putAll,Act.put,List.setIfInBounds_toArray,List.set_cons_zero,List.set_cons_succ]) (hCont (E) _ ⟨(Kd.Rz m.out),bz⟩)
    ·skip
     refine Kd.R_lit_step (Kd.int .u8) _ 5 ?hg (N:=17) ?hd (xs:=([(wrap64 (48+(Int.tmod o 10))) % 256]:List Int)) (inner:=[.int .u8 ((wrap64 (48+(Int.tmod o 10))) % 256)]) (ok:=fun _=>True) (okp:=fun _=>True) ?hr ?hp (fun _ hk=>hk) trivial (Below.refl _ _) (Nat.le_refl _) (by simp) ?_;(case hd=>rfl);(case hg=>rfl);(case hr=>first|(go_simp;done)|(go_simp;rfl));(case hp=>exact(Reps.one (show Kd.M (Kd.int .u8) _ _ _ ((wrap64 (48+(Int.tmod o 10))) % 256) [.int .u8 ((wrap64 (48+(Int.tmod o 10))) % 256)] from rfl) (Reps.none _ _)));intro E w9 J hb Y hnew_;clear Y hnew_
     (first|rw[← G.out] at J|(simp only[Int.reduceToNat] at J;rw[← G.out] at J))
     have m:=Sd.mk (Kd.R_lower J (below_size bz));replace HB:=Sd.mk (below_step bz hb);clear hb J;refine hK.out _ _ trivial (fun hHeld=>?_);clear hK K;refine nm (some 17) ?_;refine two_ (i:=2) (j:=8) (Ni:=some 12) (Nj:=some 18) #[T,T,T,T,T,T,T,T,F,F,F] #[T,T,F,T,T,T,T,T,T,F,F] rfl rfl rfl rfl (two_of HT_.out (by kernel_rfl)) (by decide) (by decide) (fun K hK=>?_) (fun K hK=>?_)
     ·skip
      refine goes_ Tryd.func44 (by kernel_rfl) rfl #[.int .i64 (wrap64 (Int.tdiv o 10))] (by rfl) rfl rfl az ?_
      with_reducible refine(ih k (by omega) (wrap64 (Int.tdiv o 10)) z _ A6.out).mono ?_
      rintro e ar ⟨rfl,hb⟩;refine⟨_,rfl,?_⟩;replace m:=Sd.mk (Kd.R_below (Kd.Rz m.out) hb);replace HB:=Sd.mk (below_step bz hb);refine hK.out _ _ trivial (fun hHeld=>?_);clear hK K;refine nm (some 12) ?_;refine on 8 18 HT_.out (fun K hK=>?_);have U:=own_string (P:=Tryd.prog) Tryd.underlying28 Tryd.underlying5 Tryd.underlying9 (Kd.own_of_R m.out);refine value_ (w1:=?_) (v:=?_) (by rfl) rfl ?_ ?_
      rotate_left 2
      ·go_simp
       constructor
       ·rfl
       ·rfl
      clear U;refine hK.out _ _ trivial (fun hHeld=>?_);clear hK K;refine nm (some 18) ?_;exact norm_ (by simp only[putAll,Act.put,List.setIfInBounds_toArray,List.set_cons_zero,List.set_cons_succ]) (hCont (E) _ ⟨(Kd.Rz m.out),bz⟩)
     ·skip
      have ab:=own_string (P:=Tryd.prog) Tryd.underlying28 Tryd.underlying5 Tryd.underlying9 (Kd.own_of_R m.out);refine value_ (w1:=?_) (v:=?_) (by rfl) rfl ?_ ?_
      rotate_left 2
      ·go_simp
       constructor
       ·rfl
       ·rfl
      clear ab;refine hK.out _ _ trivial (fun hHeld=>?_);clear hK K;refine nm (some 18) ?_;refine on 2 12 HT_.out (fun K hK=>?_);refine goes_ Tryd.func44 (by kernel_rfl) rfl #[.int .i64 (wrap64 (Int.tdiv o 10))] (by rfl) rfl rfl az ?_
      with_reducible refine(ih k (by omega) (wrap64 (Int.tdiv o 10)) z _ A6.out).mono ?_
      rintro e au ⟨rfl,hb⟩;refine⟨_,rfl,?_⟩;replace m:=Sd.mk (Kd.R_below (Kd.Rz m.out) hb);replace HB:=Sd.mk (below_step bz hb);refine hK.out _ _ trivial (fun hHeld=>?_);clear hK K;refine nm (some 12) ?_;exact norm_ (by simp only[putAll,Act.put,List.setIfInBounds_toArray,List.set_cons_zero,List.set_cons_succ]) (hCont (E) _ ⟨(Kd.Rz m.out),bz⟩)
   rintro E ac ⟨ad,ae⟩;have af:Sd (Kd.R (Kd.int .u8) 5 ac w.heap.size (fun _=>True) E D):=⟨ad⟩;have ag:Sd (Below w.heap.size w ac):=⟨ae⟩;clear HB;clear ad ae;have m:=af;have HB:=ag;clear af ag;have hHeld:=trivial;refine norm_ (a':=?_) ?_ ?_
   rotate_left
   ·simp only[putAll,Act.put,List.setIfInBounds_toArray,List.set_cons_zero,List.set_cons_succ]
    rfl
   refine qs 9 19 HT_.out ?_;refine qs 10 2 HT_.out ?_;refine done_ (done_of HT_.out (by kernel_rfl)) ?_
   try go_wp2
   go_ret;exact⟨by first|rfl|(simp[errW_none,errW_some]<;>rfl)|(simp[*,errW_none,errW_some]<;>rfl),bz⟩
  ·rw[if_neg c7] at H
   exact absurd H (by simp)
end Go.Proofs.YtbdbldhpglponaaDoor.P