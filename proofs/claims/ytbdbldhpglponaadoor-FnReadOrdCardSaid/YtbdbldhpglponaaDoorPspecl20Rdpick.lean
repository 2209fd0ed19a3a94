/- One Go function comes to what its Lean function tells. -/
import Derived.Test.YtbdbldhpglponaaDoorP0
namespace Go.Proofs.YtbdbldhpglponaaDoor.P
open Go.RowKit YtbdbldhpglponaaDoorW.PrintWords YtbdbldhpglponaaDoorW.PrintLast YtbdbldhpglponaaDoorW.PrintMore
set_option linter.unusedVariables false
set_option linter.unusedSimpArgs false
/-! ### spec_l20Rd_pick: function 30 -/
/-- A state of type 66 at block g of W; what its slices lead to came in by w0. -/
def IsS66 (w0 W:World)(g:Nat)(f0:List Int)(f1:Int):Prop:=∃ A0 c0,W.heap[g]?=some (.cells #[.slice A0 f0.length c0,.int .i64 f1] 66 (0,0))∧w0.heap.size≤g∧Kd.C (Kd.int .u8) w0 A0 f0.length f0
theorem IsS66.grown {w0 W:World}{g:Nat}{f0:List Int}{f1:Int}{W1:World}{row:Option Nat}(h:IsS66 w0 W g f0 f1)(hw:W.grownBy W1 row)(hne:some g≠row):IsS66 w0 W1 g f0 f1:=by
 obtain⟨A0,c0,hb,hg,hr0⟩:=h;exact⟨A0,c0,blk_grown hb hw hne,hg,hr0⟩
theorem IsS66.own_neN {w0 W:World}{g:Nat}{f0:List Int}{f1:Int}{α:Type}{d:Kd α}{e:Nat}{base:Nat}{ok:Nat→Prop}{v:Value}{xs:List α}(h:IsS66 w0 W g f0 f1)(ho:Kd.N d e W base ok v xs)(ht:e≠66):some g≠v.ownBlock:=by
 obtain⟨A0,c0,hb,hg,hr0⟩:=h;exact Kd.N_ne ho hb ht
theorem IsS66.fresh {w0 W:World}{g:Nat}{f0:List Int}{f1:Int}(h:IsS66 w0 W g f0 f1):∀ k,W.heap.size≤k→k≠g:=by
 obtain⟨A0,c0,hb,hg,hr0⟩:=h;exact Kd.freshB hb
theorem IsS66.kept {w0 W:World}{g:Nat}{f0:List Int}{f1:Int}{W1:World}{S:Nat→Prop}(h:IsS66 w0 W g f0 f1)(hk:Kept W W1 S)(hne:¬ S g):IsS66 w0 W1 g f0 f1:=by
 obtain⟨A0,c0,hb,hg,hr0⟩:=h;exact⟨A0,c0,blk_kept hb hk hne,hg,hr0⟩
theorem IsS66.below {w0 W:World}{g:Nat}{f0:List Int}{f1:Int}{W1:World}(h:IsS66 w0 W g f0 f1)(hw:Below W.heap.size W W1):IsS66 w0 W1 g f0 f1:=h.grown (grown_of_below hw none) (by simp)
theorem IsS66.alloc {w0 W:World}{g:Nat}{f0:List Int}{f1:Int}(h:IsS66 w0 W g f0 f1)(o:Obj):IsS66 w0 (W.alloc o) g f0 f1:=h.below (below_alloc (Below.refl _ _) o)
theorem IsS66.drewN {w0 W:World}{g:Nat}{f0:List Int}{f1:Int}(h:IsS66 w0 W g f0 f1)(m:Nat):IsS66 w0 (W.drewN m) g f0 f1:=h
theorem IsS66.drew {w0 W:World}{g:Nat}{f0:List Int}{f1:Int}(h:IsS66 w0 W g f0 f1):IsS66 w0 W.drew g f0 f1:=h
theorem IsS66.at_ {w0 W:World}{g:Nat}{f0:List Int}{f1:Int}{w':World}{m:Nat}(hq:W.drewN m=w')(h:IsS66 w0 W g f0 f1):IsS66 w0 w' g f0 f1:=by subst hq;exact IsS66.drewN h m
theorem IsS66.apart {w0 W:World}{g:Nat}{f0:List Int}{f1:Int}{α:Type}{d:Kd α}{e:Nat}{base:Nat}{ok:Nat→Prop}{v:Value}{xs:List α}(h:IsS66 w0 W g f0 f1)(ho:d.R e W base ok v xs)(ht:∀ q,q ∈ e::d.E→q≠66):d.R e W base (fun k=>ok k∧k≠g) v xs:=by
 obtain⟨A0,c0,hb,hg,hr0⟩:=h;exact Kd.R_types ho hb ht
theorem IsS66.own_ne {w0 W:World}{g:Nat}{f0:List Int}{f1:Int}{α:Type}{d:Kd α}{e:Nat}{base:Nat}{ok:Nat→Prop}{v:Value}{xs:List α}(h:IsS66 w0 W g f0 f1)(ho:d.R e W base ok v xs)(ht:e≠66):some g≠v.ownBlock:=by
 obtain⟨A0,c0,hb,hg,hr0⟩:=h;exact Kd.R_ne ho hb ht
theorem IsS66.apartQ {w0 W:World}{g:Nat}{f0:List Int}{f1:Int}{α:Type}{d:Kd α}{e:Nat}{base:Nat}{ok:Nat→Prop}{v:Value}{xs:List α}(h:IsS66 w0 W g f0 f1)(ho:d.Q e W base ok v xs)(ht:∀ q,q ∈ e::d.E→q≠66):d.Q e W base (fun k=>ok k∧k≠g) v xs:=by
 obtain⟨A0,c0,hb,hg,hr0⟩:=h;exact Kd.Q_types ho hb ht
theorem IsS66.own_neQ {w0 W:World}{g:Nat}{f0:List Int}{f1:Int}{α:Type}{d:Kd α}{e:Nat}{base:Nat}{ok:Nat→Prop}{v:Value}{xs:List α}(h:IsS66 w0 W g f0 f1)(ho:d.Q e W base ok v xs)(ht:e≠66):some g≠v.ownBlock:=by
 obtain⟨A0,c0,hb,hg,hr0⟩:=h;exact Kd.Q_ne ho hb ht
theorem IsS66.apartS {w0 W:World}{g:Nat}{f0:List Int}{f1:Int}{α:Type}{d:Kd α}{e:Nat}{base:Nat}{ok:Nat→Prop}{v:Value}{xs:List α}(h:IsS66 w0 W g f0 f1)(ho:d.S e W base ok v xs)(ht:∀ q,q ∈ e::d.E→q≠66):d.S e W base (fun k=>ok k∧k≠g) v xs:=by
 obtain⟨A0,c0,hb,hg,hr0⟩:=h;exact Kd.S_types ho hb ht
theorem IsS66.own_neS {w0 W:World}{g:Nat}{f0:List Int}{f1:Int}{α:Type}{d:Kd α}{e:Nat}{base:Nat}{ok:Nat→Prop}{v:Value}{xs:List α}(h:IsS66 w0 W g f0 f1)(ho:d.S e W base ok v xs)(ht:e≠66):some g≠v.ownBlock:=by
 obtain⟨A0,c0,hb,hg,hr0⟩:=h;exact Kd.S_ne ho hb ht
theorem IsS66.lt {w0 W:World}{g:Nat}{f0:List Int}{f1:Int}(h:IsS66 w0 W g f0 f1):g<W.heap.size:=by
 obtain⟨A0,c0,hb,hg,hr0⟩:=h;exact blk_lt hb
theorem IsS66.ge {w0 W:World}{g:Nat}{f0:List Int}{f1:Int}(h:IsS66 w0 W g f0 f1):w0.heap.size≤g:=by
 obtain⟨A0,c0,hb,hg,hr0⟩:=h;exact hg
theorem IsS66.ne_blk {w0 W:World}{g:Nat}{f0:List Int}{f1:Int}{a:Nat}{cs:Array Value}{t:TypeId}{fr:Nat × Nat}(h:IsS66 w0 W g f0 f1)(hb2:W.heap[a]?=some (.cells cs t fr))(ht:t≠66):g≠a:=by
 obtain⟨A0,c0,hb,hg,hr0⟩:=h;rintro rfl;rw[hb] at hb2
 injection hb2 with hb2
 injection hb2 with _ ht2
 exact ht ht2.symm
theorem IsS66.far {w0 W:World}{g:Nat}{f0:List Int}{f1:Int}{p:Addr}(h:IsS66 w0 W g f0 f1)(hne:g≠p.block)(u:Value):IsS66 w0 (W.setCell p u) g f0 f1:=by
 obtain⟨A0,c0,hb,hg,hr0⟩:=h;exact⟨A0,c0,blk_far hb hne u,hg,hr0⟩
theorem cellS66_0 {W:World}{g:Nat}{A0:Option Addr}{c0:Nat}{f0:List Int}{f1:Int}(h:W.heap[g]?=some (.cells #[.slice A0 f0.length c0,.int .i64 f1] 66 (0,0))):W.cell? ⟨g,0,none⟩=some (.slice A0 f0.length c0):=(blk_cell h 0).trans rfl
theorem cellS66_1 {W:World}{g:Nat}{A0:Option Addr}{c0:Nat}{f0:List Int}{f1:Int}(h:W.heap[g]?=some (.cells #[.slice A0 f0.length c0,.int .i64 f1] 66 (0,0))):W.cell? ⟨g,1,none⟩=some (.int .i64 f1):=(blk_cell h 1).trans rfl
theorem IsS66.set_1 {w0 W:World}{g:Nat}{f0:List Int}{f1:Int}(h:IsS66 w0 W g f0 f1)(x:Int):IsS66 w0 (W.setCell ⟨g,1,none⟩ (.int .i64 x)) g f0 x:=by
 obtain⟨A0,c0,hb,hg,hr0⟩:=h;exact⟨A0,c0,by simpa using blk_set hb 1 (.int .i64 x),hg,hr0⟩
theorem IsS66.new (w0 W:World)(A0:Option Addr)(c0:Nat)(f0:List Int)(f1:Int)(hB:Below w0.heap.size w0 W)(hr0:Kd.C (Kd.int .u8) w0 A0 f0.length f0):IsS66 w0 (W.alloc (.cells #[.slice A0 f0.length c0,.int .i64 f1] 66)) W.heap.size f0 f1:=⟨A0,c0,by simpa using heap_alloc_new W _,hB.size,hr0⟩
theorem iz {p:Prop}(h:p:=by repeat (first|(with_reducible first|exact HI0.out|apply IsS66.alloc|apply IsS66.drewN|apply IsS66.drew|apply IsS66.set_1)|exact HI0.out)):p:=h
theorem bi {B:Nat}{w W:World}(h:Below B w W:=by repeat (first|(with_reducible first|exact HB.out|apply below_alloc|apply pw_below_drewN|apply below_drew1|refine below_set ?_ (IsS66.ge HI0.out))|exact HB.out)):Below B w W:=h
def spec_l20Rd_pick.j0:Nat→Int→Bool→List Int→Int→Option (Int × Int)
 | 0,_,_,_,_=>none
 | k+1,x1,x24,x1000,x1001=>if x24=true then(some (0,x1001)) else(if(wrap64 (x1001-1))<(x1000.length:Int) then(if 0≤(wrap64 (x1001-1)) then(if x1=0 then(none) else(some (Int.tmod (wrap64 (rd x1000 (wrap64 (x1001-1)))) x1,x1001))) else(none)) else(if(x1000.length:Int)=0 then(none) else(if 0≤(Int.tmod (wrap64 (x1001-1)) (x1000.length:Int)) then(if(Int.tmod (wrap64 (x1001-1)) (x1000.length:Int))<(x1000.length:Int) then(if 0≤(Int.tmod (wrap64 ((wrap64 ((wrap64 (x1001-1))*7))+3)) (x1000.length:Int)) then(if(Int.tmod (wrap64 ((wrap64 ((wrap64 (x1001-1))*7))+3)) (x1000.length:Int))<(x1000.length:Int) then(if x1=0 then(none) else(some (Int.tmod (Go.bits .xor .i64 (wrap64 ((wrap64 ((wrap64 ((wrap64 ((wrap64 (rd x1000 (Int.tmod (wrap64 (x1001-1)) (x1000.length:Int))))*131))+(wrap64 ((wrap64 (rd x1000 (Int.tmod (wrap64 ((wrap64 ((wrap64 (x1001-1))*7))+3)) (x1000.length:Int))))*1117))))+(wrap64 ((wrap64 (x1001-1))*29))))+(wrap64 ((wrap64 (Int.tdiv (wrap64 (x1001-1)) (x1000.length:Int)))*53)))) (wrap64 (Int.tdiv (wrap64 ((wrap64 ((wrap64 ((wrap64 ((wrap64 (rd x1000 (Int.tmod (wrap64 (x1001-1)) (x1000.length:Int))))*131))+(wrap64 ((wrap64 (rd x1000 (Int.tmod (wrap64 ((wrap64 ((wrap64 (x1001-1))*7))+3)) (x1000.length:Int))))*1117))))+(wrap64 ((wrap64 (x1001-1))*29))))+(wrap64 ((wrap64 (Int.tdiv (wrap64 (x1001-1)) (x1000.length:Int)))*53)))) 64))) x1,x1001))) else(none)) else(none)) else(none)) else(none))))
def spec_l20Rd_pick.f (k:Nat)(s0_0:List Int)(s0_1:Int)(a1:Int):Option (Int × Int):=if a1<1 then(spec_l20Rd_pick.j0 k a1 true s0_0 (wrap64 (s0_1+1))) else(spec_l20Rd_pick.j0 k a1 ((s0_0.length:Int) == 0) s0_0 (wrap64 (s0_1+1)))
set_option maxHeartbeats 8000000 in
set_option maxRecDepth 100000 in
theorem spec_l20Rd_pick.calls (k:Nat)(g:Nat)(j:List Int)(m:Int)(D:Int)(r1:Int)(r2:Int)(Z w:World)(hI:IsS66 Z w g j m)(hB:Below Z.heap.size Z w)(h:spec_l20Rd_pick.f k j m D=some (r1,r2)) :
  Calls Tryd.prog 30 #[.pointer (some ⟨g,0,none⟩),.int .i64 D] w fun e w'=>e=.returned (.int .i64 r1)∧IsS66 Z w' g j r2∧Below Z.heap.size Z w'∧KeepBut w w' g none:=by
 have HI0:=Sd.mk hI;have HK:=Sd.mk (KeepBut.refl w g none);have HL:=Sd.mk hB.size;clear hI;have cf:=Sd.mk hB.size;have HB:=Sd.mk hB;clear hB;have H:(if D<1 then(spec_l20Rd_pick.j0 k D true j (wrap64 (m+1))) else(spec_l20Rd_pick.j0 k D ((j.length:Int) == 0) j (wrap64 (m+1))))=some (r1,r2):=h;clear h;have aw:=Sd.mk H;clear H;obtain⟨bl,bm,aa,a4,bn⟩:=HI0.out;have bo:=cellS66_0 aa;have bp:=cellS66_1 aa;have bq:=blk_frozen aa 1;clear aa a4;go_enter Tryd.func30,Tryd.ntmps30
 go_upto_region 2 with (fail)
 repeat (go_quiet (fail);go_upto_region 2 with (fail))
 go_cut [24] (fun br wc=>∃ (kq:Nat) (G:Bool),br=.bool G∧Sd (spec_l20Rd_pick.j0 kq D G j (wrap64 (m+1))=some (r1,r2))∧Sd (kq≤k)∧Sd (IsS66 Z wc g j (wrap64 (m+1)))∧Sd (KeepBut w wc g none)∧Sd (Below Z.heap.size Z wc))
 case first =>
  have H:=aw.out;clear aw
  by_cases c5:D<1
  ·rw[if_pos c5] at H
   have L:decide (D<1)=true:=decide_eq_true c5;clear c5
   (first|rw[L]|(simp only[i64_w,i32_w];rw[L])|skip)
   have H':=Sd.mk H;clear H;go_wp2
   repeat (go_quiet (fail);try go_wp2)
   go_meet
   case rel=>exact⟨_,(true),(by first|rfl|(simp;done)|(simp[*];done)),H',⟨by first|omega|exact Nat.le_refl _⟩,⟨iz⟩,⟨by repeat (first|(with_reducible first|exact HK.out|apply KeepBut.set_|apply keep_drewN|apply keep_drew|apply keep_alloc)|exact HK.out)⟩,⟨bi⟩⟩
  ·rw[if_neg c5] at H
   have L:decide (D<1)=false:=decide_eq_false c5;clear c5
   (first|rw[L]|(simp only[i64_w,i32_w];rw[L])|skip)
   have H':=Sd.mk H;clear H;obtain⟨bu,bv,ab,a5,bw⟩:=HI0.out;have bx:=cellS66_0 ab;have b0:=cellS66_1 ab;have b1:=blk_frozen ab 1;clear ab a5;go_wp2
   repeat (go_quiet (fail);try go_wp2)
   go_meet
   case rel=>exact⟨_,(((j.length:Int) == 0)),(by first|rfl|(simp;done)|(simp[*];done)),H',⟨by first|omega|exact Nat.le_refl _⟩,⟨iz⟩,⟨by repeat (first|(with_reducible first|exact HK.out|apply KeepBut.set_|apply keep_drewN|apply keep_drew|apply keep_alloc)|exact HK.out)⟩,⟨bi⟩⟩
 case rest =>
  clear aw;obtain⟨kq,G,rfl,HA,ch,HI0,HK,HB⟩:=hcut
  cases kq with
  | zero=>exact absurd HA.out (by simp[spec_l20Rd_pick.j0])
  | succ ci =>
   have H:=HA.out;clear HA;simp only[spec_l20Rd_pick.j0] at H
   by_cases c7:G=true
   ·subst c7
    replace H:=ip rfl H;simp only[Option.some.injEq,Prod.mk.injEq] at H;obtain⟨rfl,rfl⟩:=H;go_wp2
    repeat (go_quiet (fail);try go_wp2)
    go_ret;exact⟨by first|rfl|(simp[errW_none,errW_some]<;>rfl)|(simp[*,errW_none,errW_some]<;>rfl),iz,bi,by repeat (first|(with_reducible first|exact HK.out|apply KeepBut.set_|apply keep_drewN|apply keep_drew|apply keep_alloc)|exact HK.out)⟩
   ·replace c7:=Bool.eq_false_iff.mpr c7
    subst c7;replace H:=ng ft H
    by_cases c8:(wrap64 ((wrap64 (m+1))-1))<(j.length:Int)
    ·rw[if_pos c8] at H
     have ax:decide ((wrap64 ((wrap64 (m+1))-1))<(j.length:Int))=true:=decide_eq_true c8;clear c8;obtain⟨E,M⟩:∃ j_:Int,(wrap64 ((wrap64 (m+1))-1))=j_:=⟨_,rfl⟩
     replace H:(if 0≤(E) then(if D=0 then(none) else(some (Int.tmod (wrap64 (rd j (E))) D,(wrap64 (m+1))))) else(none))=some (r1,r2):=by first|(rw[M] at H;exact H)|(simp only[M] at H ⊢;exact H)
     (try rw[M] at ax)
     have hji9w:(IntKind.i64.wrap ((wrap64 (m+1))-1))=E:=(i64_w _).trans M
     by_cases c10:0≤(E)
     ·rw[if_pos c10] at H
      have b2:decide (0≤(E))=true:=decide_eq_true c10;clear c10
      by_cases an:D=0
      ·rw[if_pos an] at H
       exact absurd H (by simp)
      ·rw[if_neg an] at H
       have b3:(D == 0)=false:=beq_eq_false_iff_ne.mpr an;have b4:(D != 0)=true:=bne_iff_ne.mpr an;simp only[Option.some.injEq,Prod.mk.injEq] at H;obtain⟨rfl,rfl⟩:=H;obtain⟨ba,bb,I,ay,av⟩:=HI0.out;have bc:=cellS66_0 I;have bd:=cellS66_1 I;have be:=blk_frozen I 1;clear I ay;have ah:0≤((E):Int):=dz;have ai:(E)<(j.length:Int):=dz;obtain⟨b5,a7,O⟩:=Kd.at_int av (E) ah ai;cases a7;replace O:=pw_cell_below HB.out O;replace ah:=eq_true ah;replace ai:=eq_true ai;go_wp2
       repeat (go_quiet (fail);try go_wp2)
       go_ret;exact⟨by first|rfl|(simp[errW_none,errW_some]<;>rfl)|(simp only[← M];first|rfl|(simp[errW_none,errW_some]<;>rfl))|(simp[*,errW_none,errW_some]<;>rfl),iz,bi,by repeat (first|(with_reducible first|exact HK.out|apply KeepBut.set_|apply keep_drewN|apply keep_drew|apply keep_alloc)|exact HK.out)⟩
     ·rw[if_neg c10] at H
      exact absurd H (by simp)
    ·rw[if_neg c8] at H
     have ax:decide ((wrap64 ((wrap64 (m+1))-1))<(j.length:Int))=false:=decide_eq_false c8;clear c8
     by_cases ae:(j.length:Int)=0
     ·rw[if_pos ae] at H
      exact absurd H (by simp)
     ·rw[if_neg ae] at H
      have b6:((j.length:Int) == 0)=false:=beq_eq_false_iff_ne.mpr ae;have b7:((j.length:Int) != 0)=true:=bne_iff_ne.mpr ae;have b8:¬ (j=[]):=fun h_=>ae (by rw[h_];rfl);obtain⟨o,ac⟩:∃ j_:Int,(Int.tmod (wrap64 ((wrap64 (m+1))-1)) (j.length:Int))=j_:=⟨_,rfl⟩
      replace H:(if 0≤(o) then(if(o)<(j.length:Int) then(if 0≤(Int.tmod (wrap64 ((wrap64 ((wrap64 ((wrap64 (m+1))-1))*7))+3)) (j.length:Int)) then(if(Int.tmod (wrap64 ((wrap64 ((wrap64 ((wrap64 (m+1))-1))*7))+3)) (j.length:Int))<(j.length:Int) then(if D=0 then(none) else(some (Int.tmod (Go.bits .xor .i64 (wrap64 ((wrap64 ((wrap64 ((wrap64 ((wrap64 (rd j (o)))*131))+(wrap64 ((wrap64 (rd j (Int.tmod (wrap64 ((wrap64 ((wrap64 ((wrap64 (m+1))-1))*7))+3)) (j.length:Int))))*1117))))+(wrap64 ((wrap64 ((wrap64 (m+1))-1))*29))))+(wrap64 ((wrap64 (Int.tdiv (wrap64 ((wrap64 (m+1))-1)) (j.length:Int)))*53)))) (wrap64 (Int.tdiv (wrap64 ((wrap64 ((wrap64 ((wrap64 ((wrap64 (rd j (o)))*131))+(wrap64 ((wrap64 (rd j (Int.tmod (wrap64 ((wrap64 ((wrap64 ((wrap64 (m+1))-1))*7))+3)) (j.length:Int))))*1117))))+(wrap64 ((wrap64 ((wrap64 (m+1))-1))*29))))+(wrap64 ((wrap64 (Int.tdiv (wrap64 ((wrap64 (m+1))-1)) (j.length:Int)))*53)))) 64))) D,(wrap64 (m+1))))) else(none)) else(none)) else(none)) else(none))=some (r1,r2):=by first|(rw[ac] at H;exact H)|(simp only[ac] at H ⊢;exact H)
      by_cases ao:0≤(o)
      ·rw[if_pos ao] at H
       have b9:decide (0≤(o))=true:=decide_eq_true ao;clear ao
       by_cases ap:(o)<(j.length:Int)
       ·rw[if_pos ap] at H
        have ca:decide ((o)<(j.length:Int))=true:=decide_eq_true ap;clear ap;obtain⟨z,ad⟩:∃ j_:Int,(Int.tmod (wrap64 ((wrap64 ((wrap64 ((wrap64 (m+1))-1))*7))+3)) (j.length:Int))=j_:=⟨_,rfl⟩
        replace H:(if 0≤(z) then(if(z)<(j.length:Int) then(if D=0 then(none) else(some (Int.tmod (Go.bits .xor .i64 (wrap64 ((wrap64 ((wrap64 ((wrap64 ((wrap64 (rd j (o)))*131))+(wrap64 ((wrap64 (rd j (z)))*1117))))+(wrap64 ((wrap64 ((wrap64 (m+1))-1))*29))))+(wrap64 ((wrap64 (Int.tdiv (wrap64 ((wrap64 (m+1))-1)) (j.length:Int)))*53)))) (wrap64 (Int.tdiv (wrap64 ((wrap64 ((wrap64 ((wrap64 ((wrap64 (rd j (o)))*131))+(wrap64 ((wrap64 (rd j (z)))*1117))))+(wrap64 ((wrap64 ((wrap64 (m+1))-1))*29))))+(wrap64 ((wrap64 (Int.tdiv (wrap64 ((wrap64 (m+1))-1)) (j.length:Int)))*53)))) 64))) D,(wrap64 (m+1))))) else(none)) else(none))=some (r1,r2):=by first|(rw[ad] at H;exact H)|(simp only[ad] at H ⊢;exact H)
        by_cases aq:0≤(z)
        ·rw[if_pos aq] at H
         have cb:decide (0≤(z))=true:=decide_eq_true aq;clear aq
         by_cases ar:(z)<(j.length:Int)
         ·rw[if_pos ar] at H
          have cc:decide ((z)<(j.length:Int))=true:=decide_eq_true ar;clear ar
          by_cases au:D=0
          ·rw[if_pos au] at H
           exact absurd H (by simp)
          ·rw[if_neg au] at H
           have cd:(D == 0)=false:=beq_eq_false_iff_ne.mpr au;have ce:(D != 0)=true:=bne_iff_ne.mpr au;simp only[Option.some.injEq,Prod.mk.injEq] at H;obtain⟨rfl,rfl⟩:=H;obtain⟨bf,bg,J,a0,U⟩:=HI0.out;have bh:=cellS66_0 J;have bj:=cellS66_1 J;have bk:=blk_frozen J 1;clear J a0;have aj:0≤((o):Int):=dz;have ak:(o)<(j.length:Int):=dz;obtain⟨a2,a8,X⟩:=Kd.at_int U (o) aj ak;cases a8;replace X:=pw_cell_below HB.out X;replace aj:=eq_true aj;replace ak:=eq_true ak;have al:0≤((z):Int):=dz;have am:(z)<(j.length:Int):=dz;obtain⟨a3,a9,Y⟩:=Kd.at_int U (z) al am;obtain rfl:a2=a3:=(by injection a9);replace Y:=pw_cell_below HB.out Y;replace al:=eq_true al;replace am:=eq_true am;go_wp2
           repeat (go_quiet (fail);try go_wp2)
           go_ret;exact⟨by first|rfl|(simp[errW_none,errW_some]<;>rfl)|(simp only[← ac,← ad];first|rfl|(simp[errW_none,errW_some]<;>rfl))|(simp[*,errW_none,errW_some]<;>rfl),iz,bi,by repeat (first|(with_reducible first|exact HK.out|apply KeepBut.set_|apply keep_drewN|apply keep_drew|apply keep_alloc)|exact HK.out)⟩
         ·rw[if_neg ar] at H
          exact absurd H (by simp)
        ·rw[if_neg aq] at H
         exact absurd H (by simp)
       ·rw[if_neg ap] at H
        exact absurd H (by simp)
      ·rw[if_neg ao] at H
       exact absurd H (by simp)
end Go.Proofs.YtbdbldhpglponaaDoor.P