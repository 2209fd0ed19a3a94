/- One Go function comes to what its Lean function tells. -/
import Derived.Test.YtpgkpahhohfmhaaP0
namespace Go.Proofs.Ytpgkpahhohfmhaa.P
open Go.RowKit YtpgkpahhohfmhaaW.PrintWords YtpgkpahhohfmhaaW.PrintLast YtpgkpahhohfmhaaW.PrintMore
set_option linter.unusedVariables false
set_option linter.unusedSimpArgs false
/-! ### impl_slow: function 56 -/
mutual
def impl_slow.l0:Nat→Int→Int→List (S69)→Int→Int→Option (Int)
 | 0,_,_,_,_,_=>none
 | k+1,x1,x5,x10,x11,x12=>if x12<x11 then(if 0≤x12 then(if x12<(x10.length:Int) then((impl_slow.f k ((rd_T69 x10 x12).f1) x1).bind fun t320=>(if t320<0 then(some (-1)) else(if x1>1 then(impl_slow.l1 k x1 x5 ((rd_T69 x10 x12).f0) x10 x11 x12 t320 0) else(if(wrap64 (x5+((rd_T69 x10 x12).f0)))>1000000000 then(some (-1)) else(impl_slow.l0 k x1 (wrap64 (x5+((rd_T69 x10 x12).f0))) x10 x11 (wrap64 (x12+1))))))) else(none)) else(none)) else(some x5)
def impl_slow.l1:Nat→Int→Int→Int→List (S69)→Int→Int→Int→Int→Option (Int)
 | 0,_,_,_,_,_,_,_,_=>none
 | k+1,x1,x5,x9,x10,x11,x12,x26,x27=>if x27<x26 then(if(wrap64 (x9*x1))>1000000000 then(some (-1)) else(impl_slow.l1 k x1 x5 (wrap64 (x9*x1)) x10 x11 x12 x26 (wrap64 (x27+1)))) else(if(wrap64 (x5+x9))>1000000000 then(some (-1)) else(impl_slow.l0 k x1 (wrap64 (x5+x9)) x10 x11 (wrap64 (x12+1))))
def impl_slow.f:Nat→List (S69)→Int→Option (Int)
 | 0,_,_=>none
 | k+1,l0,a1=>impl_slow.l0 k a1 0 l0 (l0.length:Int) 0
end
theorem impl_slow.mono_l:∀ k,(∀ y0 y1,LeO (impl_slow.f k y0 y1) (impl_slow.f (k+1) y0 y1))∧(∀ y0 y1 y2 y3 y4,LeO (impl_slow.l0 k y0 y1 y2 y3 y4) (impl_slow.l0 (k+1) y0 y1 y2 y3 y4))∧(∀ y0 y1 y2 y3 y4 y5 y6 y7,LeO (impl_slow.l1 k y0 y1 y2 y3 y4 y5 y6 y7) (impl_slow.l1 (k+1) y0 y1 y2 y3 y4 y5 y6 y7))
 | 0=>⟨fun _ _ r h=>by simp[impl_slow.f] at h,fun _ _ _ _ _ r h=>by simp[impl_slow.l0] at h,fun _ _ _ _ _ _ _ _ r h=>by simp[impl_slow.l1] at h⟩
 | k+1=>by
  obtain⟨ih0,ih1,ih2⟩:=impl_slow.mono_l k
  refine⟨?_,?_,?_⟩
  ·intro y0 y1
   unfold impl_slow.f
   repeat' first|(with_reducible first|exact ih0 _ _|exact ih1 _ _ _ _ _|exact LeO.refl _|exact LeO.none _|refine LeO.ite ?_ ?_|refine LeO.bind ?_ (fun _=>?_))|exact ih0 _ _|exact ih1 _ _ _ _ _|exact LeO.none _|refine LeO.ite ?_ ?_|refine LeO.bind ?_ (fun _=>?_)
  ·intro y0 y1 y2 y3 y4
   unfold impl_slow.l0
   repeat' first|(with_reducible first|exact ih0 _ _|exact ih1 _ _ _ _ _|exact ih2 _ _ _ _ _ _ _ _|exact LeO.refl _|exact LeO.none _|refine LeO.ite ?_ ?_|refine LeO.bind ?_ (fun _=>?_))|exact ih0 _ _|exact ih1 _ _ _ _ _|exact ih2 _ _ _ _ _ _ _ _|exact LeO.none _|refine LeO.ite ?_ ?_|refine LeO.bind ?_ (fun _=>?_)
  ·intro y0 y1 y2 y3 y4 y5 y6 y7
   unfold impl_slow.l1
   repeat' first|(with_reducible first|exact ih1 _ _ _ _ _|exact ih2 _ _ _ _ _ _ _ _|exact LeO.refl _|exact LeO.none _|refine LeO.ite ?_ ?_|refine LeO.bind ?_ (fun _=>?_))|exact ih1 _ _ _ _ _|exact ih2 _ _ _ _ _ _ _ _|exact LeO.none _|refine LeO.ite ?_ ?_|refine LeO.bind ?_ (fun _=>?_)
theorem impl_slow.mono:∀ a0 a1 k,LeO (impl_slow.f k a0 a1) (impl_slow.f (k+1) a0 a1):=by
 intro a0 a1 k
 obtain⟨ih0,ih1,ih2⟩:=impl_slow.mono_l k
 exact ih0 a0 a1
set_option maxHeartbeats 8000000 in
set_option maxRecDepth 100000 in
theorem impl_slow.calls (k:Nat):∀ (A0:Option Addr) (c0:Nat) (l0:List (S69)) (a1:Int) (r:Int) (w:World) (hr0:Kd.C k69 w A0 l0.length l0) (hc0:l0.length≤c0) (h:impl_slow.f k l0 a1=some r),
  Calls Try.prog 56 #[.slice A0 l0.length c0,.int .i64 a1] w fun e w'=>e=.returned (.int .i64 r)∧Below w.heap.size w w':=by
 induction k using Nat.strongRecOn with
 | _ k ih =>
 intro A0 c0 l0 a1 r w hr0 hc0 h
 cases k with
 | zero=>exact absurd h (by simp[impl_slow.f])
 | succ k =>
 simp only[impl_slow.f] at h
 have hu69:=Try.underlying69
 have HR0:=Aside0.mk hr0
 have HC0:=Aside0.mk hc0
 clear hr0 hc0
 have HB:=Aside0.mk (Below.refl w.heap.size w)
 have H:(impl_slow.l0 k a1 0 l0 (l0.length:Int) 0)=some r:=h
 clear h
 have H':=Aside0.mk H
 clear H
 go_enter Try.func56,Try.ntmps56
 go_wp2
 go_loopg [5,12] k (fun kq v5 v12 w'=>∃ (x5_1:Int) (x12_1:Int),v5=.int .i64 x5_1∧v12=.int .i64 x12_1∧Aside0 (impl_slow.l0 kq a1 x5_1 l0 (l0.length:Int) x12_1=some r)∧Aside0 (kq≤k)∧Aside0 (Below w.heap.size w w'))
 case atStart=>exact⟨(0),(0),(by first|rfl|(simp;done)|(simp[*];done)),(by first|rfl|(simp;done)|(simp[*];done)),H',⟨Nat.le_refl _⟩,⟨bz⟩⟩
 case round =>
  clear H'
  try clear p2
  obtain⟨x5_1,x12_1,rfl,rfl,HA,HK1,HB⟩:=hrel
  cases gk with
  | zero=>exact absurd HA.out (by simp[impl_slow.l0])
  | succ k1 =>
   have H:=HA.out
   clear HA
   simp only[impl_slow.l0] at H
   by_cases c3:x12_1<(l0.length:Int)
   ·rw[if_pos c3] at H
    have c3b0:decide (x12_1<(l0.length:Int))=true:=decide_eq_true c3
    clear c3
    by_cases c4:0≤x12_1
    ·rw[if_pos c4] at H
     have c4b0:decide (0≤x12_1)=true:=decide_eq_true c4
     clear c4
     by_cases c5:x12_1<(l0.length:Int)
     ·rw[if_pos c5] at H
      have c5b0:decide (x12_1<(l0.length:Int))=true:=decide_eq_true c5
      clear c5
      replace H:=Option.bind_eq_some_iff.mp H
      obtain⟨t320,A60,H⟩:=H
      replace H:(if t320<0 then(some (-1)) else(if a1>1 then(impl_slow.l1 k1 a1 x5_1 ((rd_T69 l0 x12_1).f0) l0 (l0.length:Int) x12_1 t320 0) else(if(wrap64 (x5_1+((rd_T69 l0 x12_1).f0)))>1000000000 then(some (-1)) else(impl_slow.l0 k1 a1 (wrap64 (x5_1+((rd_T69 l0 x12_1).f0))) l0 (l0.length:Int) (wrap64 (x12_1+1))))))=some r:=H
      have A6:=Aside0.mk A60
      clear A60
      by_cases c7:t320<0
      ·rw[if_pos c7] at H
       have c7b0:decide (t320<0)=true:=decide_eq_true c7
       clear c7
       obtain rfl:=Option.some.inj H
       have p318:0≤(x12_1:Int):=dz
       have q318:x12_1<(l0.length:Int):=dz
       obtain⟨ad318,A318_1,c318_1,e318,hx318_0,hx318_1,hl318_1,hi318_1⟩:=at_T69 HR0.out x12_1 p318 q318
       cases e318
       replace hx318_0:=(HB.out.cell (World.block_lt_of_cell? w _ hx318_0)).trans hx318_0
       replace hx318_1:=(HB.out.cell (World.block_lt_of_cell? w _ hx318_1)).trans hx318_1
       have HR318_1:=Aside0.mk hi318_1
       have HC318_1:=Aside0.mk hl318_1
       clear hi318_1 hl318_1
       replace p318:=eq_true p318
       replace q318:=eq_true q318
       go_wp2_with (first|((with_reducible refine gate_dst (N:=7) rfl ?_);refine box_event ?hg (N:=7) ?hd (cs:=#[.int .i64 0,.slice none 0 0]) (t:=69) ?hr ?_;(case hd=>rfl);(case hg=>rfl);(case hr=>first|(go_simp;done)|(go_simp;rfl));intro gb319 hg w8 hbox hb;have BK319:=Aside0.mk (hbox);have GW319:=Aside0.mk ((by rw[hg];exact(below_size bz):w.heap.size≤gb319));have GE319:=Aside0.mk ((by rw[hg];exact(below_size bz):w.heap.size≤gb319));replace HB:=Aside0.mk (below_step bz hb);clear hb hbox hg;have hcz9_0:w8.cell? ⟨gb319,0,none⟩=some (.int .i64 0):=(blk_cell BK319.out 0).trans rfl;have hcz9_1:w8.cell? ⟨gb319,1,none⟩=some (.slice none 0 0):=(blk_cell BK319.out 1).trans rfl;have hfz9_0:=blk_frozen BK319.out 0;have hfz9_1:=blk_frozen BK319.out 1)|((with_reducible refine gate_callee (f:=56) rfl ?_);refine goesL_ (some 19) rfl rfl Try.func56 (by kernel_rfl) rfl #[.slice A318_1 ((rd_T69 l0 x12_1).f1).length c318_1,.int .i64 a1] rfl az ?_;(with_reducible refine(ih k1 (by have:=HK1.out;omega) _ _ ((rd_T69 l0 x12_1).f1) a1 t320 _ ?side1 ?side2 A6.out).mono ?_);(case side1=>exact Kd.C_below HR318_1.out (by repeat (first|(with_reducible first|exact HB.out|apply below_alloc|apply pw_below_drewN|apply below_drew1|refine below_set ?_ GE319.out)|exact HB.out)));(case side2=>exact HC318_1.out);rintro e w10 ⟨rfl,hb⟩;refine⟨_,rfl,?_⟩;replace BK319:=Aside0.mk (blk_below (g:=gb319) (o:=.cells #[.int .i64 ((rd_T69 l0 x12_1).f0),.slice A318_1 ((rd_T69 l0 x12_1).f1).length c318_1] 69 (0,0)) (by(with_reducible repeat (first|refine blk_drewN ?_ _|refine blk_drew ?_|refine blk_alloc ?_ _));refine blk_put (cs:=#[.int .i64 ((rd_T69 l0 x12_1).f0),.slice none 0 0]) ?_ 1 _ rfl;(with_reducible repeat (first|refine blk_drewN ?_ _|refine blk_drew ?_|refine blk_alloc ?_ _));refine blk_put (cs:=#[.int .i64 0,.slice none 0 0]) ?_ 0 _ rfl;(with_reducible repeat (first|refine blk_drewN ?_ _|refine blk_drew ?_|refine blk_alloc ?_ _));exact BK319.out) hb);replace HB:=Aside0.mk (below_step (by repeat (first|(with_reducible first|exact HB.out|apply below_alloc|apply pw_below_drewN|apply below_drew1|refine below_set ?_ GE319.out)|exact HB.out)) hb);(try clear hb);(try clear hb2);(try clear hk);(try clear hi)))
       go_ret
       exact⟨by first|rfl|(simp[errW_none,errW_some]<;>rfl)|(simp[*,errW_none,errW_some]<;>rfl),by repeat (first|(with_reducible first|exact HB.out|apply below_alloc|apply pw_below_drewN|apply below_drew1|refine below_set ?_ GE319.out)|exact HB.out)⟩
      ·rw[if_neg c7] at H
       have c7b0:decide (t320<0)=false:=decide_eq_false c7
       clear c7
       by_cases c11:a1>1
       ·rw[if_pos c11] at H
        have c11b0:decide (1<a1)=true:=decide_eq_true c11
        clear c11
        have H':=Aside0.mk H
        clear H
        have p318:0≤(x12_1:Int):=dz
        have q318:x12_1<(l0.length:Int):=dz
        obtain⟨ad318,A318_1,c318_1,e318,hx318_0,hx318_1,hl318_1,hi318_1⟩:=at_T69 HR0.out x12_1 p318 q318
        cases e318
        replace hx318_0:=(HB.out.cell (World.block_lt_of_cell? w _ hx318_0)).trans hx318_0
        replace hx318_1:=(HB.out.cell (World.block_lt_of_cell? w _ hx318_1)).trans hx318_1
        have HR318_1:=Aside0.mk hi318_1
        have HC318_1:=Aside0.mk hl318_1
        clear hi318_1 hl318_1
        replace p318:=eq_true p318
        replace q318:=eq_true q318
        go_wp2_with (first|((with_reducible refine gate_dst (N:=7) rfl ?_);refine box_event ?hg (N:=7) ?hd (cs:=#[.int .i64 0,.slice none 0 0]) (t:=69) ?hr ?_;(case hd=>rfl);(case hg=>rfl);(case hr=>first|(go_simp;done)|(go_simp;rfl));intro gb319 hg w12 hbox hb;have BK319:=Aside0.mk (hbox);have GW319:=Aside0.mk ((by rw[hg];exact(below_size bz):w.heap.size≤gb319));have GE319:=Aside0.mk ((by rw[hg];exact(below_size bz):w.heap.size≤gb319));replace HB:=Aside0.mk (below_step bz hb);clear hb hbox hg;have hcz13_0:w12.cell? ⟨gb319,0,none⟩=some (.int .i64 0):=(blk_cell BK319.out 0).trans rfl;have hcz13_1:w12.cell? ⟨gb319,1,none⟩=some (.slice none 0 0):=(blk_cell BK319.out 1).trans rfl;have hfz13_0:=blk_frozen BK319.out 0;have hfz13_1:=blk_frozen BK319.out 1)|((with_reducible refine gate_callee (f:=56) rfl ?_);refine goesL_ (some 19) rfl rfl Try.func56 (by kernel_rfl) rfl #[.slice A318_1 ((rd_T69 l0 x12_1).f1).length c318_1,.int .i64 a1] rfl az ?_;(with_reducible refine(ih k1 (by have:=HK1.out;omega) _ _ ((rd_T69 l0 x12_1).f1) a1 t320 _ ?side1 ?side2 A6.out).mono ?_);(case side1=>exact Kd.C_below HR318_1.out (by repeat (first|(with_reducible first|exact HB.out|apply below_alloc|apply pw_below_drewN|apply below_drew1|refine below_set ?_ GE319.out)|exact HB.out)));(case side2=>exact HC318_1.out);rintro e w14 ⟨rfl,hb⟩;refine⟨_,rfl,?_⟩;replace BK319:=Aside0.mk (blk_below (g:=gb319) (o:=.cells #[.int .i64 ((rd_T69 l0 x12_1).f0),.slice A318_1 ((rd_T69 l0 x12_1).f1).length c318_1] 69 (0,0)) (by(with_reducible repeat (first|refine blk_drewN ?_ _|refine blk_drew ?_|refine blk_alloc ?_ _));refine blk_put (cs:=#[.int .i64 ((rd_T69 l0 x12_1).f0),.slice none 0 0]) ?_ 1 _ rfl;(with_reducible repeat (first|refine blk_drewN ?_ _|refine blk_drew ?_|refine blk_alloc ?_ _));refine blk_put (cs:=#[.int .i64 0,.slice none 0 0]) ?_ 0 _ rfl;(with_reducible repeat (first|refine blk_drewN ?_ _|refine blk_drew ?_|refine blk_alloc ?_ _));exact BK319.out) hb);replace HB:=Aside0.mk (below_step (by repeat (first|(with_reducible first|exact HB.out|apply below_alloc|apply pw_below_drewN|apply below_drew1|refine below_set ?_ GE319.out)|exact HB.out)) hb);(try clear hb);(try clear hb2);(try clear hk);(try clear hi);have hcz15_0:w14.cell? ⟨gb319,0,none⟩=some (.int .i64 ((rd_T69 l0 x12_1).f0)):=(blk_cell BK319.out 0).trans rfl;have hcz15_1:w14.cell? ⟨gb319,1,none⟩=some (.slice A318_1 ((rd_T69 l0 x12_1).f1).length c318_1):=(blk_cell BK319.out 1).trans rfl;have hfz15_0:=blk_frozen BK319.out 0;have hfz15_1:=blk_frozen BK319.out 1))
        go_loopg [9,27] k1 (fun kq v9 v27 w'=>∃ (x9_2:Int) (x27_2:Int),v9=.int .i64 x9_2∧v27=.int .i64 x27_2∧Aside0 (impl_slow.l1 kq a1 x5_1 x9_2 l0 (l0.length:Int) x12_1 t320 x27_2=some r)∧Aside0 (kq≤k1)∧Aside0 (w'.heap[gb319]?=some (.cells #[.int .i64 ((rd_T69 l0 x12_1).f0),(.slice A318_1 ((rd_T69 l0 x12_1).f1).length c318_1)] 69 (0,0)))∧Aside0 (Below w.heap.size w w'))
        case atStart=>exact⟨((rd_T69 l0 x12_1).f0),(0),(by first|rfl|(simp;done)|(simp[*];done)),(by first|rfl|(simp;done)|(simp[*];done)),H',⟨Nat.le_refl _⟩,⟨by(with_reducible repeat (first|refine blk_drewN ?_ _|refine blk_drew ?_|refine blk_alloc ?_ _));exact BK319.out⟩,⟨by repeat (first|(with_reducible first|exact HB.out|apply below_alloc|apply pw_below_drewN|apply below_drew1|refine below_set ?_ GE319.out)|exact HB.out)⟩⟩
        case round =>
         clear H'
         try clear c1
         try clear p2
         try clear c3
         try clear c3b0
         try clear p3
         try clear q3
         try clear hx3
         try clear c4
         try clear c4b0
         try clear c5
         try clear c5b0
         try clear p6
         try clear c7
         try clear c7b0
         try clear c11
         try clear c11b0
         try clear hcz13_0
         try clear hcz13_1
         try clear hcz15_0
         try clear hcz15_1
         try clear hcz9_0
         try clear hcz9_1
         try clear hfz13_0
         try clear hfz13_1
         try clear hfz15_0
         try clear hfz15_1
         try clear hfz9_0
         try clear hfz9_1
         try clear hx318_0
         try clear hx318_1
         try clear p2
         try clear p318
         try clear q318
         obtain⟨x9_2,x27_2,rfl,rfl,HA,HK2,BK319,HB⟩:=hrel
         cases gk with
         | zero=>exact absurd HA.out (by simp[impl_slow.l1])
         | succ k2 =>
          have H:=HA.out
          clear HA
          simp only[impl_slow.l1] at H
          by_cases c16:x27_2<t320
          ·rw[if_pos c16] at H
           have c16b0:decide (x27_2<t320)=true:=decide_eq_true c16
           clear c16
           by_cases c17:(wrap64 (x9_2*a1))>1000000000
           ·rw[if_pos c17] at H
            have c17b0:decide (1000000000<(wrap64 (x9_2*a1)))=true:=decide_eq_true c17
            clear c17
            obtain rfl:=Option.some.inj H
            go_wp2
            go_ret
            exact⟨by first|rfl|(simp[errW_none,errW_some]<;>rfl)|(simp[*,errW_none,errW_some]<;>rfl),by repeat (first|(with_reducible first|exact HB.out|apply below_alloc|apply pw_below_drewN|apply below_drew1|refine below_set ?_ GE319.out)|exact HB.out)⟩
           ·rw[if_neg c17] at H
            have c17b0:decide (1000000000<(wrap64 (x9_2*a1)))=false:=decide_eq_false c17
            clear c17
            have H':=Aside0.mk H
            clear H
            go_wp2
            go_roundg k2
            case measure=>have:=HK1.out;have:=HK2.out;omega
            case rel=>exact⟨(wrap64 (x9_2*a1)),(wrap64 (x27_2+1)),(by first|rfl|(simp;done)|(simp[*];done)),(by first|rfl|(simp;done)|(simp[*];done)),H',⟨by have:=HK1.out;have:=HK2.out;omega⟩,⟨by(with_reducible repeat (first|refine blk_drewN ?_ _|refine blk_drew ?_|refine blk_alloc ?_ _));exact BK319.out⟩,⟨by repeat (first|(with_reducible first|exact HB.out|apply below_alloc|apply pw_below_drewN|apply below_drew1|refine below_set ?_ GE319.out)|exact HB.out)⟩⟩
          ·rw[if_neg c16] at H
           have c16b0:decide (x27_2<t320)=false:=decide_eq_false c16
           clear c16
           by_cases c18:(wrap64 (x5_1+x9_2))>1000000000
           ·rw[if_pos c18] at H
            have c18b0:decide (1000000000<(wrap64 (x5_1+x9_2)))=true:=decide_eq_true c18
            clear c18
            obtain rfl:=Option.some.inj H
            go_wp2
            go_ret
            exact⟨by first|rfl|(simp[errW_none,errW_some]<;>rfl)|(simp[*,errW_none,errW_some]<;>rfl),by repeat (first|(with_reducible first|exact HB.out|apply below_alloc|apply pw_below_drewN|apply below_drew1|refine below_set ?_ GE319.out)|exact HB.out)⟩
           ·rw[if_neg c18] at H
            have c18b0:decide (1000000000<(wrap64 (x5_1+x9_2)))=false:=decide_eq_false c18
            clear c18
            have H':=Aside0.mk H
            clear H
            go_wp2
            go_roundg k2
            case measure=>have:=HK1.out;have:=HK2.out;omega
            case rel=>exact⟨(wrap64 (x5_1+x9_2)),(wrap64 (x12_1+1)),(by first|rfl|(simp;done)|(simp[*];done)),(by first|rfl|(simp;done)|(simp[*];done)),H',⟨by have:=HK1.out;have:=HK2.out;omega⟩,⟨by repeat (first|(with_reducible first|exact HB.out|apply below_alloc|apply pw_below_drewN|apply below_drew1|refine below_set ?_ GE319.out)|exact HB.out)⟩⟩
       ·rw[if_neg c11] at H
        have c11b0:decide (1<a1)=false:=decide_eq_false c11
        clear c11
        by_cases c19:(wrap64 (x5_1+((rd_T69 l0 x12_1).f0)))>1000000000
        ·rw[if_pos c19] at H
         have c19b0:decide (1000000000<(wrap64 (x5_1+((rd_T69 l0 x12_1).f0))))=true:=decide_eq_true c19
         clear c19
         obtain rfl:=Option.some.inj H
         have p318:0≤(x12_1:Int):=dz
         have q318:x12_1<(l0.length:Int):=dz
         obtain⟨ad318,A318_1,c318_1,e318,hx318_0,hx318_1,hl318_1,hi318_1⟩:=at_T69 HR0.out x12_1 p318 q318
         cases e318
         replace hx318_0:=(HB.out.cell (World.block_lt_of_cell? w _ hx318_0)).trans hx318_0
         replace hx318_1:=(HB.out.cell (World.block_lt_of_cell? w _ hx318_1)).trans hx318_1
         have HR318_1:=Aside0.mk hi318_1
         have HC318_1:=Aside0.mk hl318_1
         clear hi318_1 hl318_1
         replace p318:=eq_true p318
         replace q318:=eq_true q318
         go_wp2_with (first|((with_reducible refine gate_dst (N:=7) rfl ?_);refine box_event ?hg (N:=7) ?hd (cs:=#[.int .i64 0,.slice none 0 0]) (t:=69) ?hr ?_;(case hd=>rfl);(case hg=>rfl);(case hr=>first|(go_simp;done)|(go_simp;rfl));intro gb319 hg w20 hbox hb;have BK319:=Aside0.mk (hbox);have GW319:=Aside0.mk ((by rw[hg];exact(below_size bz):w.heap.size≤gb319));have GE319:=Aside0.mk ((by rw[hg];exact(below_size bz):w.heap.size≤gb319));replace HB:=Aside0.mk (below_step bz hb);clear hb hbox hg;have hcz21_0:w20.cell? ⟨gb319,0,none⟩=some (.int .i64 0):=(blk_cell BK319.out 0).trans rfl;have hcz21_1:w20.cell? ⟨gb319,1,none⟩=some (.slice none 0 0):=(blk_cell BK319.out 1).trans rfl;have hfz21_0:=blk_frozen BK319.out 0;have hfz21_1:=blk_frozen BK319.out 1)|((with_reducible refine gate_callee (f:=56) rfl ?_);refine goesL_ (some 19) rfl rfl Try.func56 (by kernel_rfl) rfl #[.slice A318_1 ((rd_T69 l0 x12_1).f1).length c318_1,.int .i64 a1] rfl az ?_;(with_reducible refine(ih k1 (by have:=HK1.out;omega) _ _ ((rd_T69 l0 x12_1).f1) a1 t320 _ ?side1 ?side2 A6.out).mono ?_);(case side1=>exact Kd.C_below HR318_1.out (by repeat (first|(with_reducible first|exact HB.out|apply below_alloc|apply pw_below_drewN|apply below_drew1|refine below_set ?_ GE319.out)|exact HB.out)));(case side2=>exact HC318_1.out);rintro e w22 ⟨rfl,hb⟩;refine⟨_,rfl,?_⟩;replace BK319:=Aside0.mk (blk_below (g:=gb319) (o:=.cells #[.int .i64 ((rd_T69 l0 x12_1).f0),.slice A318_1 ((rd_T69 l0 x12_1).f1).length c318_1] 69 (0,0)) (by(with_reducible repeat (first|refine blk_drewN ?_ _|refine blk_drew ?_|refine blk_alloc ?_ _));refine blk_put (cs:=#[.int .i64 ((rd_T69 l0 x12_1).f0),.slice none 0 0]) ?_ 1 _ rfl;(with_reducible repeat (first|refine blk_drewN ?_ _|refine blk_drew ?_|refine blk_alloc ?_ _));refine blk_put (cs:=#[.int .i64 0,.slice none 0 0]) ?_ 0 _ rfl;(with_reducible repeat (first|refine blk_drewN ?_ _|refine blk_drew ?_|refine blk_alloc ?_ _));exact BK319.out) hb);replace HB:=Aside0.mk (below_step (by repeat (first|(with_reducible first|exact HB.out|apply below_alloc|apply pw_below_drewN|apply below_drew1|refine below_set ?_ GE319.out)|exact HB.out)) hb);(try clear hb);(try clear hb2);(try clear hk);(try clear hi);have hcz23_0:w22.cell? ⟨gb319,0,none⟩=some (.int .i64 ((rd_T69 l0 x12_1).f0)):=(blk_cell BK319.out 0).trans rfl;have hcz23_1:w22.cell? ⟨gb319,1,none⟩=some (.slice A318_1 ((rd_T69 l0 x12_1).f1).length c318_1):=(blk_cell BK319.out 1).trans rfl;have hfz23_0:=blk_frozen BK319.out 0;have hfz23_1:=blk_frozen BK319.out 1))
         go_ret
         exact⟨by first|rfl|(simp[errW_none,errW_some]<;>rfl)|(simp[*,errW_none,errW_some]<;>rfl),by repeat (first|(with_reducible first|exact HB.out|apply below_alloc|apply pw_below_drewN|apply below_drew1|refine below_set ?_ GE319.out)|exact HB.out)⟩
        ·rw[if_neg c19] at H
         have c19b0:decide (1000000000<(wrap64 (x5_1+((rd_T69 l0 x12_1).f0))))=false:=decide_eq_false c19
         clear c19
         have H':=Aside0.mk H
         clear H
         have p318:0≤(x12_1:Int):=dz
         have q318:x12_1<(l0.length:Int):=dz
         obtain⟨ad318,A318_1,c318_1,e318,hx318_0,hx318_1,hl318_1,hi318_1⟩:=at_T69 HR0.out x12_1 p318 q318
         cases e318
         replace hx318_0:=(HB.out.cell (World.block_lt_of_cell? w _ hx318_0)).trans hx318_0
         replace hx318_1:=(HB.out.cell (World.block_lt_of_cell? w _ hx318_1)).trans hx318_1
         have HR318_1:=Aside0.mk hi318_1
         have HC318_1:=Aside0.mk hl318_1
         clear hi318_1 hl318_1
         replace p318:=eq_true p318
         replace q318:=eq_true q318
         go_wp2_with (first|((with_reducible refine gate_dst (N:=7) rfl ?_);refine box_event ?hg (N:=7) ?hd (cs:=#[.int .i64 0,.slice none 0 0]) (t:=69) ?hr ?_;(case hd=>rfl);(case hg=>rfl);(case hr=>first|(go_simp;done)|(go_simp;rfl));intro gb319 hg w24 hbox hb;have BK319:=Aside0.mk (hbox);have GW319:=Aside0.mk ((by rw[hg];exact(below_size bz):w.heap.size≤gb319));have GE319:=Aside0.mk ((by rw[hg];exact(below_size bz):w.heap.size≤gb319));replace HB:=Aside0.mk (below_step bz hb);clear hb hbox hg;have hcz25_0:w24.cell? ⟨gb319,0,none⟩=some (.int .i64 0):=(blk_cell BK319.out 0).trans rfl;have hcz25_1:w24.cell? ⟨gb319,1,none⟩=some (.slice none 0 0):=(blk_cell BK319.out 1).trans rfl;have hfz25_0:=blk_frozen BK319.out 0;have hfz25_1:=blk_frozen BK319.out 1)|((with_reducible refine gate_callee (f:=56) rfl ?_);refine goesL_ (some 19) rfl rfl Try.func56 (by kernel_rfl) rfl #[.slice A318_1 ((rd_T69 l0 x12_1).f1).length c318_1,.int .i64 a1] rfl az ?_;(with_reducible refine(ih k1 (by have:=HK1.out;omega) _ _ ((rd_T69 l0 x12_1).f1) a1 t320 _ ?side1 ?side2 A6.out).mono ?_);(case side1=>exact Kd.C_below HR318_1.out (by repeat (first|(with_reducible first|exact HB.out|apply below_alloc|apply pw_below_drewN|apply below_drew1|refine below_set ?_ GE319.out)|exact HB.out)));(case side2=>exact HC318_1.out);rintro e w26 ⟨rfl,hb⟩;refine⟨_,rfl,?_⟩;replace BK319:=Aside0.mk (blk_below (g:=gb319) (o:=.cells #[.int .i64 ((rd_T69 l0 x12_1).f0),.slice A318_1 ((rd_T69 l0 x12_1).f1).length c318_1] 69 (0,0)) (by(with_reducible repeat (first|refine blk_drewN ?_ _|refine blk_drew ?_|refine blk_alloc ?_ _));refine blk_put (cs:=#[.int .i64 ((rd_T69 l0 x12_1).f0),.slice none 0 0]) ?_ 1 _ rfl;(with_reducible repeat (first|refine blk_drewN ?_ _|refine blk_drew ?_|refine blk_alloc ?_ _));refine blk_put (cs:=#[.int .i64 0,.slice none 0 0]) ?_ 0 _ rfl;(with_reducible repeat (first|refine blk_drewN ?_ _|refine blk_drew ?_|refine blk_alloc ?_ _));exact BK319.out) hb);replace HB:=Aside0.mk (below_step (by repeat (first|(with_reducible first|exact HB.out|apply below_alloc|apply pw_below_drewN|apply below_drew1|refine below_set ?_ GE319.out)|exact HB.out)) hb);(try clear hb);(try clear hb2);(try clear hk);(try clear hi);have hcz27_0:w26.cell? ⟨gb319,0,none⟩=some (.int .i64 ((rd_T69 l0 x12_1).f0)):=(blk_cell BK319.out 0).trans rfl;have hcz27_1:w26.cell? ⟨gb319,1,none⟩=some (.slice A318_1 ((rd_T69 l0 x12_1).f1).length c318_1):=(blk_cell BK319.out 1).trans rfl;have hfz27_0:=blk_frozen BK319.out 0;have hfz27_1:=blk_frozen BK319.out 1))
         go_roundg k1
         case measure=>have:=HK1.out;omega
         case rel=>exact⟨(wrap64 (x5_1+((rd_T69 l0 x12_1).f0))),(wrap64 (x12_1+1)),(by first|rfl|(simp;done)|(simp[*];done)),(by first|rfl|(simp;done)|(simp[*];done)),H',⟨by have:=HK1.out;omega⟩,⟨by repeat (first|(with_reducible first|exact HB.out|apply below_alloc|apply pw_below_drewN|apply below_drew1|refine below_set ?_ GE319.out)|exact HB.out)⟩⟩
     ·rw[if_neg c5] at H
      exact absurd H (by simp)
    ·rw[if_neg c4] at H
     exact absurd H (by simp)
   ·rw[if_neg c3] at H
    have c3b0:decide (x12_1<(l0.length:Int))=false:=decide_eq_false c3
    clear c3
    obtain rfl:=Option.some.inj H
    go_wp2
    go_ret
    exact⟨by first|rfl|(simp[errW_none,errW_some]<;>rfl)|(simp[*,errW_none,errW_some]<;>rfl),bz⟩
end Go.Proofs.Ytpgkpahhohfmhaa.P