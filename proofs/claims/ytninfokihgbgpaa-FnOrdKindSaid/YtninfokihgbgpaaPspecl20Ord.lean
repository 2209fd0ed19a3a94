/- The walk of one Go function that the law reaches: it comes to what the Lean function of its name tells. -/
import Derived.Test.YtninfokihgbgpaaP0
import Derived.Test.YtninfokihgbgpaaPspecl20Open
import Derived.Test.YtninfokihgbgpaaPspecl20Raw
import Derived.Test.YtninfokihgbgpaaPspecl20Rdodd
import Derived.Test.YtninfokihgbgpaaPspecl20Rdpick
namespace Go.Proofs.Ytninfokihgbgpaa.P
open Go.RowKit Go.Proofs.YtninfokihgbgpaaW.PrintWords Go.Proofs.YtninfokihgbgpaaW.PrintLast Go.Proofs.YtninfokihgbgpaaW.PrintMore
attribute [local go_sem] max2_int min2_int max_two min_two max_three min_three max_four min_four   
set_option linter.unusedVariables false
set_option linter.unusedSimpArgs false

/-! ### spec_l20Ord: function 63 -/
mutual
def spec_l20Ord.j1 : Nat → Int → List Int → List Int → Int → Option (List Int × Int)
 | 0,_,_,_,_ => none
 | k + 1,x1,x5,x1000,x1001 => (spec_l20Rd_odd.f k x1000 x1001 x1).bind fun bt435 => (if bt435.1 = true then ((spec_l20Rd_pick.f k x1000 bt435.2 5).bind fun bt437 => (if bt437.1 = 0 then (some ((([] : List Int)),bt437.2)) else (if bt437.1 = 1 then ((some (([] : List Int) : List Int)).bind fun y442 => (if y442.length + x5.length < 17592186044416 then ((some (y442 ++ x5 : List Int)).bind fun y445 => (if y445.length < 17592186044416 then (some ((y445 ++ [0]),bt437.2)) else (none))) else (none))) else (if bt437.1 = 2 then (some ((([2,1,0,1,1,1,0] : List Int)),bt437.2)) else (if bt437.1 = 3 then (some ((([1,0,0] : List Int)),bt437.2)) else (some ((([1,10000,0] : List Int)),bt437.2))))))) else (some (x5,bt435.2)))
def spec_l20Ord.l0 : Nat → Int → List Int → Int → List Int → Int → Option (List Int × Int)
 | 0,_,_,_,_,_ => none
 | k + 1,x1,x5,x6,x1000,x1001 => if x6 < 4 then (if (x5.length : Int) > 24 then ((spec_l20Raw.f k x1000 x1001 2).bind fun bt431 => (spec_l20Ord.l0 k x1 bt431.1 (wrap64 (x6 + 1)) x1000 bt431.2)) else (spec_l20Ord.j1 k x1 x5 x1000 x1001)) else (spec_l20Ord.j1 k x1 x5 x1000 x1001)
end
def spec_l20Ord.f (k : Nat) (s0_0 : List Int) (s0_1 : Int) (a1 : Int) : Option (List Int × Int) := (spec_l20Raw.f k s0_0 s0_1 3).bind fun bt427 => (spec_l20Ord.l0 k a1 bt427.1 0 s0_0 bt427.2)
theorem spec_l20Ord.mono_l : ∀ k,(∀ y0 y1 y2 y3,LeO (spec_l20Ord.j1 k y0 y1 y2 y3) (spec_l20Ord.j1 (k + 1) y0 y1 y2 y3)) ∧ (∀ y0 y1 y2 y3 y4,LeO (spec_l20Ord.l0 k y0 y1 y2 y3 y4) (spec_l20Ord.l0 (k + 1) y0 y1 y2 y3 y4))
 | 0 => ⟨fun _ _ _ _ r h => by simp [spec_l20Ord.j1] at h,fun _ _ _ _ _ r h => by simp [spec_l20Ord.l0] at h⟩
 | k + 1 => by
  obtain ⟨ih0,ih1⟩ := spec_l20Ord.mono_l k
  refine ⟨?_,?_⟩
  ·intro y0 y1 y2 y3
   unfold spec_l20Ord.j1
   repeat' first|(with_reducible first|exact ih0 _ _ _ _|exact spec_l20Rd_odd.mono _ _ _ _|exact spec_l20Rd_pick.mono _ _ _ _|exact LeO.refl _|exact LeO.none _|refine LeO.ite ?_ ?_|refine LeO.bind ?_ (fun _ => ?_))|exact ih0 _ _ _ _|exact spec_l20Rd_odd.mono _ _ _ _|exact spec_l20Rd_pick.mono _ _ _ _|exact LeO.none _|refine LeO.ite ?_ ?_|refine LeO.bind ?_ (fun _ => ?_)
  ·intro y0 y1 y2 y3 y4
   unfold spec_l20Ord.l0
   repeat' first|(with_reducible first|exact ih0 _ _ _ _|exact ih1 _ _ _ _ _|exact spec_l20Raw.mono _ _ _ _|exact LeO.refl _|exact LeO.none _|refine LeO.ite ?_ ?_|refine LeO.bind ?_ (fun _ => ?_))|exact ih0 _ _ _ _|exact ih1 _ _ _ _ _|exact spec_l20Raw.mono _ _ _ _|exact LeO.none _|refine LeO.ite ?_ ?_|refine LeO.bind ?_ (fun _ => ?_)
theorem spec_l20Ord.mono : ∀ a0 a1 a2 k,LeO (spec_l20Ord.f k a0 a1 a2) (spec_l20Ord.f (k + 1) a0 a1 a2) := by
 intro a0 a1 a2 k
 obtain ⟨ih0,ih1⟩ := spec_l20Ord.mono_l k
 unfold spec_l20Ord.f
 repeat' first|(with_reducible first|exact ih0 _ _ _ _|exact ih1 _ _ _ _ _|exact spec_l20Raw.mono _ _ _ _|exact LeO.refl _|exact LeO.none _|refine LeO.ite ?_ ?_|refine LeO.bind ?_ (fun _ => ?_))|exact ih0 _ _ _ _|exact ih1 _ _ _ _ _|exact spec_l20Raw.mono _ _ _ _|exact LeO.none _|refine LeO.ite ?_ ?_|refine LeO.bind ?_ (fun _ => ?_)
set_option maxHeartbeats 8000000 in
set_option maxRecDepth 100000 in
theorem spec_l20Ord.calls (k : Nat) (g : Nat) (s0_0 : List Int) (s0_1 : Int) (a1 : Int) (r1 : List Int) (r2 : Int) (w0 w : World) (hI : IsS73 w0 w g s0_0 s0_1) (hB : Below w0.heap.size w0 w) (h : spec_l20Ord.f k s0_0 s0_1 a1 = some (r1,r2)) :
  Calls Try.prog 63 #[.pointer (some ⟨g,0,none⟩),.int .i64 a1] w fun e w' => ∃ v0_ : Value,e = .returned (v0_) ∧ Kd.R (Kd.int .i64) 3 w' w.heap.size (fun _ => True) v0_ r1 ∧ IsS73 w0 w' g s0_0 r2 ∧ Below w0.heap.size w0 w' ∧ KeepBut w w' g none := by
 have HI0 := Aside0.mk hI
 have HK := Aside0.mk (KeepBut.refl w g none)
 have HL := Aside0.mk hB.size
 clear hI
 have HW0 := Aside0.mk hB.size
 have HB := Aside0.mk hB
 clear hB
 have H : ((spec_l20Raw.f k s0_0 s0_1 3).bind fun bt427 => (spec_l20Ord.l0 k a1 bt427.1 0 s0_0 bt427.2)) = some (r1,r2) := h
 clear h
 replace H := Option.bind_eq_some_iff.mp H
 obtain ⟨⟨t427,t430⟩,A30,H⟩ := H
 replace H : (spec_l20Ord.l0 k a1 t427 0 s0_0 t430) = some (r1,r2) := H
 have A3 := Aside0.mk A30
 clear A30
 have HC4 := Aside0.mk H
 clear H
 go_enter Try.func63,Try.ntmps63
 go_upto_block 0 with (first|((with_reducible refine gate_callee (f := 84) rfl ?_);refine goesL_ (some 8) rfl rfl Try.func84 (by kernel_rfl) rfl #[.pointer (some ⟨g,0,none⟩),.int .i64 3] rfl az ?_;(with_reducible refine (spec_l20Raw.calls k g s0_0 s0_1 3 t427 t430 w0 _ ?side1 ?side2 A3.out).mono ?_);(case side1 => repeat (first|(with_reducible first|exact HI0.out|apply IsS73.alloc|apply IsS73.drewN|apply IsS73.drew|apply IsS73.set_1)|exact HI0.out));(case side2 => repeat (first|(with_reducible first|exact HB.out|apply below_alloc|apply pw_below_drewN|apply below_drew1|refine below_set ?_ (IsS73.ge HI0.out))|exact HB.out));rintro e w5 ⟨v428,rfl,ho0,hi,hb,hk⟩;refine ⟨_,rfl,?_⟩;have n0_ := Aside0.mk (Kd.R_lower ho0 (keep_size (w := w) (g := g) (row := none) kz));have n1_ := Aside0.mk (KeepBut.trans kz hk (.inl rfl));have n2_ := Aside0.mk (hb);have n3_ := Aside0.mk (hi);clear HK;clear HB;clear HI0;have HO429 := n0_;have HK := n1_;have HB := n2_;have HI0 := n3_;clear n0_ n1_ n2_ n3_;(try clear hb);(try clear hb2);(try clear hk);(try clear hi);(try clear ho0)))
 (try simp only [Act.put,List.setIfInBounds_toArray,List.set_cons_zero,List.set_cons_succ])
 go_cut [5] (fun v5 wc => ∃ (kq : Nat) (x5_3 : List Int) (x1001_3 : Int),Aside0 (spec_l20Ord.j1 kq a1 x5_3 s0_0 x1001_3 = some (r1,r2)) ∧ Aside0 (kq ≤ k) ∧ Aside0 (Kd.R (Kd.int .i64) 3 wc w.heap.size (fun _ => True) v5 x5_3) ∧ Aside0 (IsS73 w0 wc g s0_0 x1001_3) ∧ Aside0 (KeepBut w wc g none) ∧ Aside0 (Below w0.heap.size w0 wc))
 case first =>
  have H := HC4.out
  clear HC4
  have H' := Aside0.mk H
  clear H
  go_wp2
  go_loopg [5,6] k (fun kq v5 v6 w' => ∃ (x5_1 : List Int) (x6_1 : Int) (x1001_1 : Int),v6 = .int .i64 x6_1 ∧ Aside0 (spec_l20Ord.l0 kq a1 x5_1 x6_1 s0_0 x1001_1 = some (r1,r2)) ∧ Aside0 (kq ≤ k) ∧ Aside0 (Kd.R (Kd.int .i64) 3 w' w.heap.size (fun _ => True) v5 x5_1) ∧ Aside0 (IsS73 w0 w' g s0_0 x1001_1) ∧ Aside0 (KeepBut w w' g none) ∧ Aside0 (Below w0.heap.size w0 w'))
  case atStart => exact ⟨(t427),(0),(t430),(by first|rfl|(simp;done)|(simp [*];done)),H',⟨Nat.le_refl _⟩,⟨by (with_reducible repeat (first|apply Kd.R_alloc|apply Kd.R_drewN|apply Kd.R_drew));exact HO429.out⟩,⟨by repeat (first|(with_reducible first|exact HI0.out|apply IsS73.alloc|apply IsS73.drewN|apply IsS73.drew|apply IsS73.set_1)|exact HI0.out)⟩,⟨by repeat (first|(with_reducible first|exact HK.out|apply KeepBut.set_|apply keep_drewN|apply keep_drew|apply keep_alloc)|exact HK.out)⟩,⟨by repeat (first|(with_reducible first|exact HB.out|apply below_alloc|apply pw_below_drewN|apply below_drew1|refine below_set ?_ (IsS73.ge HI0.out))|exact HB.out)⟩⟩
  case round =>
   clear H'
   try clear p2
   obtain ⟨x5_1,x6_1,x1001_1,rfl,HA,HK1,HO_5,HI0,HK,HB⟩ := hrel
   cases gk with
   | zero => exact absurd HA.out (by simp [spec_l20Ord.l0])
   | succ k1 =>
    have H := HA.out
    clear HA
    simp only [spec_l20Ord.l0] at H
    by_cases c6 : x6_1 < 4
    ·rw [if_pos c6] at H
     have c6b0 : decide (x6_1 < 4) = true := decide_eq_true c6
     clear c6
     (first|rw [c6b0]|(simp only [i64_w,i32_w];rw [c6b0])|skip)
     by_cases c7 : (x5_1.length : Int) > 24
     ·rw [if_pos c7] at H
      have c7b0 : decide (24 < (x5_1.length : Int)) = true := decide_eq_true c7
      have c7b1 : decide (24 < x5_1.length) = true := decide_eq_true (by omega)
      clear c7
      replace H := Option.bind_eq_some_iff.mp H
      obtain ⟨⟨t431,t434⟩,A80,H⟩ := H
      replace H : (spec_l20Ord.l0 k1 a1 t431 (wrap64 (x6_1 + 1)) s0_0 t434) = some (r1,r2) := H
      have A8 := Aside0.mk A80
      clear A80
      have H' := Aside0.mk H
      clear H
      obtain ⟨Ao9,co9,eo9⟩ := Kd.R_slice HO_5.out
      subst eo9
      go_wp2_with (first|((with_reducible refine gate_callee (f := 84) rfl ?_);refine goesL_ (some 19) rfl rfl Try.func84 (by kernel_rfl) rfl #[.pointer (some ⟨g,0,none⟩),.int .i64 2] rfl az ?_;(with_reducible refine (spec_l20Raw.calls k1 g s0_0 x1001_1 2 t431 t434 w0 _ ?side1 ?side2 A8.out).mono ?_);(case side1 => repeat (first|(with_reducible first|exact HI0.out|apply IsS73.alloc|apply IsS73.drewN|apply IsS73.drew|apply IsS73.set_1)|exact HI0.out));(case side2 => repeat (first|(with_reducible first|exact HB.out|apply below_alloc|apply pw_below_drewN|apply below_drew1|refine below_set ?_ (IsS73.ge HI0.out))|exact HB.out));rintro e w10 ⟨v432,rfl,ho0,hi,hb,hk⟩;refine ⟨_,rfl,?_⟩;have n0_ := Aside0.mk (Kd.R_mono (Kd.R_told (Kd.R_oldK (IsS73.apart (show IsS73 w0 _ g s0_0 x1001_1 from by repeat (first|(with_reducible first|exact HI0.out|apply IsS73.alloc|apply IsS73.drewN|apply IsS73.drew|apply IsS73.set_1)|exact HI0.out)) (Kd.Rz HO_5.out) (by decide)) hk) (Kd.R_base ho0)) (fun _ h_ => h_.1));have n1_ := Aside0.mk (Kd.R_lower (Kd.R_new' ho0 (Kd.R_lt (Kd.Rz HO_5.out))) (keep_size (w := w) (g := g) (row := none) kz));have n2_ := Aside0.mk (KeepBut.trans kz hk (.inl rfl));have n3_ := Aside0.mk (hb);have n4_ := Aside0.mk (hi);clear HO_5;clear HK;clear HB;clear HI0;have HO_5 := n0_;have HO433 := n1_;have HK := n2_;have HB := n3_;have HI0 := n4_;clear n0_ n1_ n2_ n3_ n4_;(try clear hb);(try clear hb2);(try clear hk);(try clear hi);(try clear ho0)))
      go_roundg k1
      case measure => have := HK1.out;omega
      case rel => exact ⟨(t431),(wrap64 (x6_1 + 1)),(t434),(by first|rfl|(simp;done)|(simp [*];done)),H',⟨by have := HK1.out;omega⟩,⟨by (with_reducible repeat (first|apply Kd.R_alloc|apply Kd.R_drewN|apply Kd.R_drew));exact Kd.R_mono HO433.out (fun _ hk => trivial)⟩,⟨by repeat (first|(with_reducible first|exact HI0.out|apply IsS73.alloc|apply IsS73.drewN|apply IsS73.drew|apply IsS73.set_1)|exact HI0.out)⟩,⟨by repeat (first|(with_reducible first|exact HK.out|apply KeepBut.set_|apply keep_drewN|apply keep_drew|apply keep_alloc)|exact HK.out)⟩,⟨by repeat (first|(with_reducible first|exact HB.out|apply below_alloc|apply pw_below_drewN|apply below_drew1|refine below_set ?_ (IsS73.ge HI0.out))|exact HB.out)⟩⟩
     ·rw [if_neg c7] at H
      have c7b0 : decide (24 < (x5_1.length : Int)) = false := decide_eq_false c7
      have c7b1 : decide (24 < x5_1.length) = false := decide_eq_false (by omega)
      clear c7
      have H' := Aside0.mk H
      clear H
      obtain ⟨Ao11,co11,eo11⟩ := Kd.R_slice HO_5.out
      subst eo11
      go_wp2
      go_meet
      case rel => exact ⟨_,(x5_1),(x1001_1),H',⟨by have := HK1.out;first|omega|exact Nat.le_refl _⟩,⟨by (with_reducible repeat (first|apply Kd.R_alloc|apply Kd.R_drewN|apply Kd.R_drew));exact HO_5.out⟩,⟨by repeat (first|(with_reducible first|exact HI0.out|apply IsS73.alloc|apply IsS73.drewN|apply IsS73.drew|apply IsS73.set_1)|exact HI0.out)⟩,⟨by repeat (first|(with_reducible first|exact HK.out|apply KeepBut.set_|apply keep_drewN|apply keep_drew|apply keep_alloc)|exact HK.out)⟩,⟨by repeat (first|(with_reducible first|exact HB.out|apply below_alloc|apply pw_below_drewN|apply below_drew1|refine below_set ?_ (IsS73.ge HI0.out))|exact HB.out)⟩⟩
    ·rw [if_neg c6] at H
     have c6b0 : decide (x6_1 < 4) = false := decide_eq_false c6
     clear c6
     (first|rw [c6b0]|(simp only [i64_w,i32_w];rw [c6b0])|skip)
     have H' := Aside0.mk H
     clear H
     go_wp2
     go_meet
     case rel => exact ⟨_,(x5_1),(x1001_1),H',⟨by have := HK1.out;first|omega|exact Nat.le_refl _⟩,⟨by (with_reducible repeat (first|apply Kd.R_alloc|apply Kd.R_drewN|apply Kd.R_drew));exact HO_5.out⟩,⟨by repeat (first|(with_reducible first|exact HI0.out|apply IsS73.alloc|apply IsS73.drewN|apply IsS73.drew|apply IsS73.set_1)|exact HI0.out)⟩,⟨by repeat (first|(with_reducible first|exact HK.out|apply KeepBut.set_|apply keep_drewN|apply keep_drew|apply keep_alloc)|exact HK.out)⟩,⟨by repeat (first|(with_reducible first|exact HB.out|apply below_alloc|apply pw_below_drewN|apply below_drew1|refine below_set ?_ (IsS73.ge HI0.out))|exact HB.out)⟩⟩
 case rest =>
  clear HC4
  try clear p2
  try clear c6
  try clear c6b0
  try clear p6
  try clear c7
  try clear c7b0
  try clear c7b1
  try clear c8
  try clear p2
  obtain ⟨kq,x5_3,x1001_3,HA,HJ3,HO_5,HI0,HK,HB⟩ := hcut
  cases kq with
  | zero => exact absurd HA.out (by simp [spec_l20Ord.j1])
  | succ kj3 =>
   have H := HA.out
   clear HA
   simp only [spec_l20Ord.j1] at H
   replace H := Option.bind_eq_some_iff.mp H
   obtain ⟨⟨t435,t436⟩,A120,H⟩ := H
   replace H : (if t435 = true then ((spec_l20Rd_pick.f kj3 s0_0 t436 5).bind fun bt437 => (if bt437.1 = 0 then (some ((([] : List Int)),bt437.2)) else (if bt437.1 = 1 then ((some (([] : List Int) : List Int)).bind fun y442 => (if y442.length + x5_3.length < 17592186044416 then ((some (y442 ++ x5_3 : List Int)).bind fun y445 => (if y445.length < 17592186044416 then (some ((y445 ++ [0]),bt437.2)) else (none))) else (none))) else (if bt437.1 = 2 then (some ((([2,1,0,1,1,1,0] : List Int)),bt437.2)) else (if bt437.1 = 3 then (some ((([1,0,0] : List Int)),bt437.2)) else (some ((([1,10000,0] : List Int)),bt437.2))))))) else (some (x5_3,t436))) = some (r1,r2) := H
   have A12 := Aside0.mk A120
   clear A120
   by_cases c13 : t435 = true
   ·subst c13
    have H1 : ((spec_l20Rd_pick.f kj3 s0_0 t436 5).bind fun bt437 => (if bt437.1 = 0 then (some ((([] : List Int)),bt437.2)) else (if bt437.1 = 1 then ((some (([] : List Int) : List Int)).bind fun y442 => (if y442.length + x5_3.length < 17592186044416 then ((some (y442 ++ x5_3 : List Int)).bind fun y445 => (if y445.length < 17592186044416 then (some ((y445 ++ [0]),bt437.2)) else (none))) else (none))) else (if bt437.1 = 2 then (some ((([2,1,0,1,1,1,0] : List Int)),bt437.2)) else (if bt437.1 = 3 then (some ((([1,0,0] : List Int)),bt437.2)) else (some ((([1,10000,0] : List Int)),bt437.2))))))) = some (r1,r2) := by rw [if_pos rfl] at H;exact H
    clear H
    have H := H1
    clear H1
    replace H := Option.bind_eq_some_iff.mp H
    obtain ⟨⟨t437,t438⟩,A140,H⟩ := H
    replace H : (if t437 = 0 then (some ((([] : List Int)),t438)) else (if t437 = 1 then ((some (([] : List Int) : List Int)).bind fun y442 => (if y442.length + x5_3.length < 17592186044416 then ((some (y442 ++ x5_3 : List Int)).bind fun y445 => (if y445.length < 17592186044416 then (some ((y445 ++ [0]),t438)) else (none))) else (none))) else (if t437 = 2 then (some ((([2,1,0,1,1,1,0] : List Int)),t438)) else (if t437 = 3 then (some ((([1,0,0] : List Int)),t438)) else (some ((([1,10000,0] : List Int)),t438)))))) = some (r1,r2) := H
    have A14 := Aside0.mk A140
    clear A140
    by_cases c15 : t437 = 0
    ·rw [if_pos c15] at H
     have c15b0 : (t437 == 0) = true := beq_iff_eq.mpr c15
     have c15b1 : (t437 != 0) = false := bne_eq_false_iff_eq.mpr c15
     clear c15
     obtain ⟨y439,hy439⟩ : ∃ y_ : List Int,y_ = (([] : List Int)) := ⟨_,rfl⟩
     replace H : (some (y439,t438)) = some (r1,r2) := by first|(rw [hy439];with_reducible exact H)|(have H2_ := (Option.bind_some _ _).symm.trans H;rw [hy439];with_reducible exact H2_)|(have H2_ := (Option.bind_some _ _).symm.trans H;with_reducible exact H2_)|with_reducible exact H|(rw [hy439];exact H)|exact H
     have Ny439 := Aside0.mk hy439
     clear hy439
     simp only [Option.some.injEq,Prod.mk.injEq] at H
     obtain ⟨rfl,rfl⟩ := H
     go_wp2_with (first|((with_reducible refine gate_callee (f := 85) rfl ?_);refine goesL_ (some 22) rfl rfl Try.func85 (by kernel_rfl) rfl #[.pointer (some ⟨g,0,none⟩),.int .i64 a1] rfl az ?_;(with_reducible refine (spec_l20Rd_odd.calls kj3 g s0_0 x1001_3 a1 true t436 w0 _ ?side1 ?side2 A12.out).mono ?_);(case side1 => repeat (first|(with_reducible first|exact HI0.out|apply IsS73.alloc|apply IsS73.drewN|apply IsS73.drew|apply IsS73.set_1)|exact HI0.out));(case side2 => repeat (first|(with_reducible first|exact HB.out|apply below_alloc|apply pw_below_drewN|apply below_drew1|refine below_set ?_ (IsS73.ge HI0.out))|exact HB.out));rintro e w16 ⟨rfl,hi,hb,hk⟩;refine ⟨_,rfl,?_⟩;have n0_ := Aside0.mk (Kd.R_mono (Kd.R_keep (IsS73.apart (show IsS73 w0 _ g s0_0 x1001_3 from by repeat (first|(with_reducible first|exact HI0.out|apply IsS73.alloc|apply IsS73.drewN|apply IsS73.drew|apply IsS73.set_1)|exact HI0.out)) (Kd.Rz HO_5.out) (by decide)) hk (fun _ h => h.2)) (fun _ h => h.1));have n1_ := Aside0.mk (KeepBut.trans kz hk (.inl rfl));have n2_ := Aside0.mk (hb);have n3_ := Aside0.mk (hi);clear HO_5;clear HK;clear HB;clear HI0;have HO_5 := n0_;have HK := n1_;have HB := n2_;have HI0 := n3_;clear n0_ n1_ n2_ n3_;(try clear hb);(try clear hb2);(try clear hk);(try clear hi))|((with_reducible refine gate_callee (f := 56) rfl ?_);refine goesL_ (some 24) rfl rfl Try.func56 (by kernel_rfl) rfl #[.pointer (some ⟨g,0,none⟩),.int .i64 5] rfl az ?_;(with_reducible refine (spec_l20Rd_pick.calls kj3 g s0_0 t436 5 t437 t438 w0 _ ?side1 ?side2 A14.out).mono ?_);(case side1 => repeat (first|(with_reducible first|exact HI0.out|apply IsS73.alloc|apply IsS73.drewN|apply IsS73.drew|apply IsS73.set_1)|exact HI0.out));(case side2 => repeat (first|(with_reducible first|exact HB.out|apply below_alloc|apply pw_below_drewN|apply below_drew1|refine below_set ?_ (IsS73.ge HI0.out))|exact HB.out));rintro e w17 ⟨rfl,hi,hb,hk⟩;refine ⟨_,rfl,?_⟩;have n0_ := Aside0.mk (Kd.R_mono (Kd.R_keep (IsS73.apart (show IsS73 w0 _ g s0_0 t436 from by repeat (first|(with_reducible first|exact HI0.out|apply IsS73.alloc|apply IsS73.drewN|apply IsS73.drew|apply IsS73.set_1)|exact HI0.out)) (Kd.Rz HO_5.out) (by decide)) hk (fun _ h => h.2)) (fun _ h => h.1));have n1_ := Aside0.mk (KeepBut.trans kz hk (.inl rfl));have n2_ := Aside0.mk (hb);have n3_ := Aside0.mk (hi);clear HO_5;clear HK;clear HB;clear HI0;have HO_5 := n0_;have HK := n1_;have HB := n2_;have HI0 := n3_;clear n0_ n1_ n2_ n3_;(try clear hb);(try clear hb2);(try clear hk);(try clear hi))|((with_reducible refine gate_dst (N := 28) rfl ?_);refine Kd.R_lit (Kd.int .i64) _ 3 ?hg (N := 28) ?hd (xs := ([] : List Int)) (inner := []) (ok := fun _ => True) (okp := fun _ => True) ?hr ?hp (fun _ hk => hk) trivial (Below.refl _ _) (Nat.le_refl _) (by simp) ?_;(case hd => rfl);(case hg => rfl);(case hr => first|(go_simp;done)|(go_simp;rfl));(case hp => exact (Reps.none _ _));intro v440 w18 ho19 hb hg_ hnew_;clear hg_ hnew_;(first|rw [← Ny439.out] at ho19|(simp only [Int.reduceToNat] at ho19;rw [← Ny439.out] at ho19));have n0_ := Aside0.mk (Kd.R_elder' (Kd.Rz HO_5.out) (Kd.R_base ho19) hb);have n1_ := Aside0.mk (Kd.R_lower (Kd.R_new' ho19 (Kd.R_lt (Kd.Rz HO_5.out))) (keep_size (w := w) (g := g) (row := none) kz));have n2_ := Aside0.mk (IsS73.below (by repeat (first|(with_reducible first|exact HI0.out|apply IsS73.alloc|apply IsS73.drewN|apply IsS73.drew|apply IsS73.set_1)|exact HI0.out)) hb);have n3_ := Aside0.mk (KeepBut.trans kz (KeepBut.of_below hb g none) (.inl rfl));have n4_ := Aside0.mk (below_step (by repeat (first|(with_reducible first|exact HB.out|apply below_alloc|apply pw_below_drewN|apply below_drew1|refine below_set ?_ (IsS73.ge HI0.out))|exact HB.out)) hb);clear HO_5;clear HI0;clear HK;clear HB;have HO_5 := n0_;have HO441 := n1_;have HI0 := n2_;have HK := n3_;have HB := n4_;clear n0_ n1_ n2_ n3_ n4_;clear hb ho19))
     go_ret
     exact ⟨_,by first|rfl|(simp [errW_none,errW_some] <;> rfl)|(simp [*,errW_none,errW_some] <;> rfl),by (with_reducible repeat (first|apply Kd.R_alloc|apply Kd.R_drewN|apply Kd.R_drew));exact Kd.R_mono HO441.out (fun _ hk => trivial),by repeat (first|(with_reducible first|exact HI0.out|apply IsS73.alloc|apply IsS73.drewN|apply IsS73.drew|apply IsS73.set_1)|exact HI0.out),by repeat (first|(with_reducible first|exact HB.out|apply below_alloc|apply pw_below_drewN|apply below_drew1|refine below_set ?_ (IsS73.ge HI0.out))|exact HB.out),by repeat (first|(with_reducible first|exact HK.out|apply KeepBut.set_|apply keep_drewN|apply keep_drew|apply keep_alloc)|exact HK.out)⟩
    ·rw [if_neg c15] at H
     have c15b0 : (t437 == 0) = false := beq_eq_false_iff_ne.mpr c15
     have c15b1 : (t437 != 0) = true := bne_iff_ne.mpr c15
     by_cases c20 : t437 = 1
     ·rw [if_pos c20] at H
      have c20b0 : (t437 == 1) = true := beq_iff_eq.mpr c20
      have c20b1 : (t437 != 1) = false := bne_eq_false_iff_eq.mpr c20
      clear c20
      obtain ⟨y442,hy442⟩ : ∃ y_ : List Int,y_ = (([] : List Int)) := ⟨_,rfl⟩
      replace H : (if y442.length + x5_3.length < 17592186044416 then ((some (y442 ++ x5_3 : List Int)).bind fun y445 => (if y445.length < 17592186044416 then (some ((y445 ++ [0]),t438)) else (none))) else (none)) = some (r1,r2) := by first|(rw [hy442];with_reducible exact H)|(have H2_ := (Option.bind_some _ _).symm.trans H;rw [hy442];with_reducible exact H2_)|(have H2_ := (Option.bind_some _ _).symm.trans H;with_reducible exact H2_)|with_reducible exact H|(rw [hy442];exact H)|exact H
      have Ny442 := Aside0.mk hy442
      clear hy442
      by_cases c21 : y442.length + x5_3.length < 17592186044416
      ·rw [if_pos c21] at H
       have LMc21 := Aside0.mk c21
       clear c21
       obtain ⟨y445,hy445⟩ : ∃ y_ : List Int,y_ = (y442 ++ x5_3) := ⟨_,rfl⟩
       replace H : (if y445.length < 17592186044416 then (some ((y445 ++ [0]),t438)) else (none)) = some (r1,r2) := by first|(rw [hy445];with_reducible exact H)|(have H2_ := (Option.bind_some _ _).symm.trans H;rw [hy445];with_reducible exact H2_)|(have H2_ := (Option.bind_some _ _).symm.trans H;with_reducible exact H2_)|with_reducible exact H|(rw [hy445];exact H)|exact H
       have Ny445 := Aside0.mk hy445
       clear hy445
       by_cases c22 : y445.length < 17592186044416
       ·rw [if_pos c22] at H
        have LMc22 := Aside0.mk c22
        clear c22
        obtain ⟨y448,hy448⟩ : ∃ y_ : List Int,y_ = (y445 ++ [0]) := ⟨_,rfl⟩
        replace H : (some (y448,t438)) = some (r1,r2) := by first|(rw [hy448];with_reducible exact H)|(have H2_ := (Option.bind_some _ _).symm.trans H;rw [hy448];with_reducible exact H2_)|(have H2_ := (Option.bind_some _ _).symm.trans H;with_reducible exact H2_)|with_reducible exact H|(rw [hy448];exact H)|exact H
        have Ny448 := Aside0.mk hy448
        clear hy448
        simp only [Option.some.injEq,Prod.mk.injEq] at H
        obtain ⟨rfl,rfl⟩ := H
        go_wp2_with (first|((with_reducible refine gate_callee (f := 85) rfl ?_);refine goesL_ (some 22) rfl rfl Try.func85 (by kernel_rfl) rfl #[.pointer (some ⟨g,0,none⟩),.int .i64 a1] rfl az ?_;(with_reducible refine (spec_l20Rd_odd.calls kj3 g s0_0 x1001_3 a1 true t436 w0 _ ?side1 ?side2 A12.out).mono ?_);(case side1 => repeat (first|(with_reducible first|exact HI0.out|apply IsS73.alloc|apply IsS73.drewN|apply IsS73.drew|apply IsS73.set_1)|exact HI0.out));(case side2 => repeat (first|(with_reducible first|exact HB.out|apply below_alloc|apply pw_below_drewN|apply below_drew1|refine below_set ?_ (IsS73.ge HI0.out))|exact HB.out));rintro e w23 ⟨rfl,hi,hb,hk⟩;refine ⟨_,rfl,?_⟩;have n0_ := Aside0.mk (Kd.R_mono (Kd.R_keep (IsS73.apart (show IsS73 w0 _ g s0_0 x1001_3 from by repeat (first|(with_reducible first|exact HI0.out|apply IsS73.alloc|apply IsS73.drewN|apply IsS73.drew|apply IsS73.set_1)|exact HI0.out)) (Kd.Rz HO_5.out) (by decide)) hk (fun _ h => h.2)) (fun _ h => h.1));have n1_ := Aside0.mk (KeepBut.trans kz hk (.inl rfl));have n2_ := Aside0.mk (hb);have n3_ := Aside0.mk (hi);clear HO_5;clear HK;clear HB;clear HI0;have HO_5 := n0_;have HK := n1_;have HB := n2_;have HI0 := n3_;clear n0_ n1_ n2_ n3_;(try clear hb);(try clear hb2);(try clear hk);(try clear hi))|((with_reducible refine gate_callee (f := 56) rfl ?_);refine goesL_ (some 24) rfl rfl Try.func56 (by kernel_rfl) rfl #[.pointer (some ⟨g,0,none⟩),.int .i64 5] rfl az ?_;(with_reducible refine (spec_l20Rd_pick.calls kj3 g s0_0 t436 5 t437 t438 w0 _ ?side1 ?side2 A14.out).mono ?_);(case side1 => repeat (first|(with_reducible first|exact HI0.out|apply IsS73.alloc|apply IsS73.drewN|apply IsS73.drew|apply IsS73.set_1)|exact HI0.out));(case side2 => repeat (first|(with_reducible first|exact HB.out|apply below_alloc|apply pw_below_drewN|apply below_drew1|refine below_set ?_ (IsS73.ge HI0.out))|exact HB.out));rintro e w24 ⟨rfl,hi,hb,hk⟩;refine ⟨_,rfl,?_⟩;have n0_ := Aside0.mk (Kd.R_mono (Kd.R_keep (IsS73.apart (show IsS73 w0 _ g s0_0 t436 from by repeat (first|(with_reducible first|exact HI0.out|apply IsS73.alloc|apply IsS73.drewN|apply IsS73.drew|apply IsS73.set_1)|exact HI0.out)) (Kd.Rz HO_5.out) (by decide)) hk (fun _ h => h.2)) (fun _ h => h.1));have n1_ := Aside0.mk (KeepBut.trans kz hk (.inl rfl));have n2_ := Aside0.mk (hb);have n3_ := Aside0.mk (hi);clear HO_5;clear HK;clear HB;clear HI0;have HO_5 := n0_;have HK := n1_;have HB := n2_;have HI0 := n3_;clear n0_ n1_ n2_ n3_;(try clear hb);(try clear hb2);(try clear hk);(try clear hi))|((with_reducible refine gate_dst (N := 31) rfl ?_);refine Kd.R_lit (Kd.int .i64) _ 3 ?hg (N := 31) ?hd (xs := ([] : List Int)) (inner := []) (ok := fun _ => True) (okp := fun _ => True) ?hr ?hp (fun _ hk => hk) trivial (Below.refl _ _) (Nat.le_refl _) (by simp) ?_;(case hd => rfl);(case hg => rfl);(case hr => first|(go_simp;done)|(go_simp;rfl));(case hp => exact (Reps.none _ _));intro v443 w25 ho26 hb hg_ hnew_;clear hg_ hnew_;(first|rw [← Ny442.out] at ho26|(simp only [Int.reduceToNat] at ho26;rw [← Ny442.out] at ho26));have n0_ := Aside0.mk (Kd.R_elder' (Kd.Rz HO_5.out) (Kd.R_base ho26) hb);have n1_ := Aside0.mk (Kd.R_lower (Kd.R_new' ho26 (Kd.R_lt (Kd.Rz HO_5.out))) (keep_size (w := w) (g := g) (row := none) kz));have n2_ := Aside0.mk (IsS73.below (by repeat (first|(with_reducible first|exact HI0.out|apply IsS73.alloc|apply IsS73.drewN|apply IsS73.drew|apply IsS73.set_1)|exact HI0.out)) hb);have n3_ := Aside0.mk (KeepBut.trans kz (KeepBut.of_below hb g none) (.inl rfl));have n4_ := Aside0.mk (below_step (by repeat (first|(with_reducible first|exact HB.out|apply below_alloc|apply pw_below_drewN|apply below_drew1|refine below_set ?_ (IsS73.ge HI0.out))|exact HB.out)) hb);clear HO_5;clear HI0;clear HK;clear HB;have HO_5 := n0_;have HO444 := n1_;have HI0 := n2_;have HK := n3_;have HB := n4_;clear n0_ n1_ n2_ n3_ n4_;clear hb ho26;obtain ⟨Ao28,co28,eo28⟩ := Kd.R_slice HO_5.out;subst eo28)|((with_reducible refine gate_builtin (b := .append) (xs := #[.tmp 31,.tmp 32]) rfl ?_);at_builtin;refine Kd.R_append_rows (Kd.int .i64) w.heap.size rfl (.tmp 31) (.tmp 32) 24 3 (.int .i64 0) 8 rfl Try.underlying24 info3 rfl (by decide) (by omega) v443 y442 x5_3 _ _ _ (fun k_ => some k_ ≠ (.slice Ao28 x5_3.length co28 : Value).ownBlock) (fun _ => False) rfl rfl ?aO ?aR (fun _ _ h => h) (fun _ h => h.elim) ?aF (Below.refl _ _) ?aS ?aL ?_;(case aR => repeat (first|exact (Kd.R_reads' HO_5.out).2.2|(with_reducible refine Kd.C_alloc ?_ _)|(with_reducible refine Kd.C_drewN ?_ _)|(with_reducible refine Kd.C_drew ?_)));(case aF => exact (fun k_ hk => Kd.fresh' (Kd.R_lt (Kd.Rz HO_5.out)) k_ hk));(case aO => exact (by (with_reducible repeat (first|apply Kd.R_alloc|apply Kd.R_drewN|apply Kd.R_drew));exact Kd.R_mono HO444.out (fun _ hk => hk.2)));(case aS => exact (keep_size (w := w) (g := g) (row := none) kz));(case aL => have := LMc21.out;omega);intro v446 w27 ho hb hg hat;rw [← Ny445.out] at ho;have n0_ := Aside0.mk (Kd.R_after (ok := (fun _ => True)) (Kd.Rz HO_5.out) hg hat);have n1_ := Aside0.mk (IsS73.grown (by repeat (first|(with_reducible first|exact HI0.out|apply IsS73.alloc|apply IsS73.drewN|apply IsS73.drew|apply IsS73.set_1)|exact HI0.out)) hg (IsS73.own_ne HI0.out HO444.out (by decide)));have n2_ := Aside0.mk (below_weaken (by repeat (first|(with_reducible first|exact HB.out|apply below_alloc|apply pw_below_drewN|apply below_drew1|refine below_set ?_ (IsS73.ge HI0.out))|exact HB.out)) HL.out hb);have n3_ := Aside0.mk (KeepBut.trans kz (KeepBut.of_grown hg g) (Kd.R_base2 HO444.out));have n4_ := Aside0.mk (ho);clear HO_5;clear HI0;clear HB;clear HK;clear HO444;have HO_5 := n0_;have HI0 := n1_;have HB := n2_;have HK := n3_;have HO447 := n4_;clear n0_ n1_ n2_ n3_ n4_;clear ho hb hg hat)|((with_reducible refine gate_builtin (b := .append) (xs := #[.tmp 33,.tmp 34]) rfl ?_);at_builtin;refine Kd.R_append (Kd.int .i64) w.heap.size rfl (.tmp 33) (.tmp 34) 24 3 (.int .i64 0) 8 rfl Try.underlying24 info3 rfl (by decide) (by omega) v446 y445 0 [.int .i64 0] (fun k_ => some k_ ≠ (.slice Ao28 x5_3.length co28 : Value).ownBlock) (fun _ => False) rfl rfl ?aP (fun _ hk => hk.elim) ?aF ?aO (Below.refl _ _) ?aS ?aL ?_;(case aP => exact rfl);(case aF => exact (fun k_ hk => Kd.fresh' (Kd.R_lt (Kd.Rz HO_5.out)) k_ hk));(case aO => exact (Kd.Rz HO447.out));(case aS => exact (keep_size (w := w) (g := g) (row := none) kz));(case aL => have := LMc22.out;omega);intro v449 w29 ho hb hg hat;rw [← Ny448.out] at ho;have n0_ := Aside0.mk (Kd.R_after (ok := (fun _ => True)) (Kd.Rz HO_5.out) hg hat);have n1_ := Aside0.mk (IsS73.grown (by repeat (first|(with_reducible first|exact HI0.out|apply IsS73.alloc|apply IsS73.drewN|apply IsS73.drew|apply IsS73.set_1)|exact HI0.out)) hg (IsS73.own_ne HI0.out HO447.out (by decide)));have n2_ := Aside0.mk (below_weaken (by repeat (first|(with_reducible first|exact HB.out|apply below_alloc|apply pw_below_drewN|apply below_drew1|refine below_set ?_ (IsS73.ge HI0.out))|exact HB.out)) HL.out hb);have n3_ := Aside0.mk (KeepBut.trans kz (KeepBut.of_grown hg g) (Kd.R_base2 HO447.out));have n4_ := Aside0.mk (ho);clear HO_5;clear HI0;clear HB;clear HK;clear HO447;have HO_5 := n0_;have HI0 := n1_;have HB := n2_;have HK := n3_;have HO450 := n4_;clear n0_ n1_ n2_ n3_ n4_;clear ho hb hg hat))
        go_ret
        exact ⟨_,by first|rfl|(simp [errW_none,errW_some] <;> rfl)|(simp [*,errW_none,errW_some] <;> rfl),by (with_reducible repeat (first|apply Kd.R_alloc|apply Kd.R_drewN|apply Kd.R_drew));exact Kd.R_mono HO450.out (fun _ hk => trivial),by repeat (first|(with_reducible first|exact HI0.out|apply IsS73.alloc|apply IsS73.drewN|apply IsS73.drew|apply IsS73.set_1)|exact HI0.out),by repeat (first|(with_reducible first|exact HB.out|apply below_alloc|apply pw_below_drewN|apply below_drew1|refine below_set ?_ (IsS73.ge HI0.out))|exact HB.out),by repeat (first|(with_reducible first|exact HK.out|apply KeepBut.set_|apply keep_drewN|apply keep_drew|apply keep_alloc)|exact HK.out)⟩
       ·rw [if_neg c22] at H
        exact absurd H (by simp)
      ·rw [if_neg c21] at H
       exact absurd H (by simp)
     ·rw [if_neg c20] at H
      have c20b0 : (t437 == 1) = false := beq_eq_false_iff_ne.mpr c20
      have c20b1 : (t437 != 1) = true := bne_iff_ne.mpr c20
      by_cases c30 : t437 = 2
      ·rw [if_pos c30] at H
       have c30b0 : (t437 == 2) = true := beq_iff_eq.mpr c30
       have c30b1 : (t437 != 2) = false := bne_eq_false_iff_eq.mpr c30
       clear c30
       obtain ⟨y451,hy451⟩ : ∃ y_ : List Int,y_ = (([2,1,0,1,1,1,0] : List Int)) := ⟨_,rfl⟩
       replace H : (some (y451,t438)) = some (r1,r2) := by first|(rw [hy451];with_reducible exact H)|(have H2_ := (Option.bind_some _ _).symm.trans H;rw [hy451];with_reducible exact H2_)|(have H2_ := (Option.bind_some _ _).symm.trans H;with_reducible exact H2_)|with_reducible exact H|(rw [hy451];exact H)|exact H
       have Ny451 := Aside0.mk hy451
       clear hy451
       simp only [Option.some.injEq,Prod.mk.injEq] at H
       obtain ⟨rfl,rfl⟩ := H
       go_wp2_with (first|((with_reducible refine gate_callee (f := 85) rfl ?_);refine goesL_ (some 22) rfl rfl Try.func85 (by kernel_rfl) rfl #[.pointer (some ⟨g,0,none⟩),.int .i64 a1] rfl az ?_;(with_reducible refine (spec_l20Rd_odd.calls kj3 g s0_0 x1001_3 a1 true t436 w0 _ ?side1 ?side2 A12.out).mono ?_);(case side1 => repeat (first|(with_reducible first|exact HI0.out|apply IsS73.alloc|apply IsS73.drewN|apply IsS73.drew|apply IsS73.set_1)|exact HI0.out));(case side2 => repeat (first|(with_reducible first|exact HB.out|apply below_alloc|apply pw_below_drewN|apply below_drew1|refine below_set ?_ (IsS73.ge HI0.out))|exact HB.out));rintro e w31 ⟨rfl,hi,hb,hk⟩;refine ⟨_,rfl,?_⟩;have n0_ := Aside0.mk (Kd.R_mono (Kd.R_keep (IsS73.apart (show IsS73 w0 _ g s0_0 x1001_3 from by repeat (first|(with_reducible first|exact HI0.out|apply IsS73.alloc|apply IsS73.drewN|apply IsS73.drew|apply IsS73.set_1)|exact HI0.out)) (Kd.Rz HO_5.out) (by decide)) hk (fun _ h => h.2)) (fun _ h => h.1));have n1_ := Aside0.mk (KeepBut.trans kz hk (.inl rfl));have n2_ := Aside0.mk (hb);have n3_ := Aside0.mk (hi);clear HO_5;clear HK;clear HB;clear HI0;have HO_5 := n0_;have HK := n1_;have HB := n2_;have HI0 := n3_;clear n0_ n1_ n2_ n3_;(try clear hb);(try clear hb2);(try clear hk);(try clear hi))|((with_reducible refine gate_callee (f := 56) rfl ?_);refine goesL_ (some 24) rfl rfl Try.func56 (by kernel_rfl) rfl #[.pointer (some ⟨g,0,none⟩),.int .i64 5] rfl az ?_;(with_reducible refine (spec_l20Rd_pick.calls kj3 g s0_0 t436 5 t437 t438 w0 _ ?side1 ?side2 A14.out).mono ?_);(case side1 => repeat (first|(with_reducible first|exact HI0.out|apply IsS73.alloc|apply IsS73.drewN|apply IsS73.drew|apply IsS73.set_1)|exact HI0.out));(case side2 => repeat (first|(with_reducible first|exact HB.out|apply below_alloc|apply pw_below_drewN|apply below_drew1|refine below_set ?_ (IsS73.ge HI0.out))|exact HB.out));rintro e w32 ⟨rfl,hi,hb,hk⟩;refine ⟨_,rfl,?_⟩;have n0_ := Aside0.mk (Kd.R_mono (Kd.R_keep (IsS73.apart (show IsS73 w0 _ g s0_0 t436 from by repeat (first|(with_reducible first|exact HI0.out|apply IsS73.alloc|apply IsS73.drewN|apply IsS73.drew|apply IsS73.set_1)|exact HI0.out)) (Kd.Rz HO_5.out) (by decide)) hk (fun _ h => h.2)) (fun _ h => h.1));have n1_ := Aside0.mk (KeepBut.trans kz hk (.inl rfl));have n2_ := Aside0.mk (hb);have n3_ := Aside0.mk (hi);clear HO_5;clear HK;clear HB;clear HI0;have HO_5 := n0_;have HK := n1_;have HB := n2_;have HI0 := n3_;clear n0_ n1_ n2_ n3_;(try clear hb);(try clear hb2);(try clear hk);(try clear hi))|((with_reducible refine gate_dst (N := 38) rfl ?_);refine Kd.R_lit (Kd.int .i64) _ 3 ?hg (N := 38) ?hd (xs := ([2,1,0,1,1,1,0] : List Int)) (inner := [.int .i64 2,.int .i64 1,.int .i64 0,.int .i64 1,.int .i64 1,.int .i64 1,.int .i64 0]) (ok := fun _ => True) (okp := fun _ => True) ?hr ?hp (fun _ hk => hk) trivial (Below.refl _ _) (Nat.le_refl _) (by simp) ?_;(case hd => rfl);(case hg => rfl);(case hr => first|(go_simp;done)|(go_simp;rfl));(case hp => exact (Reps.one (show Kd.M (Kd.int .i64) _ _ _ 2 [.int .i64 2] from rfl) (Reps.one (show Kd.M (Kd.int .i64) _ _ _ 1 [.int .i64 1] from rfl) (Reps.one (show Kd.M (Kd.int .i64) _ _ _ 0 [.int .i64 0] from rfl) (Reps.one (show Kd.M (Kd.int .i64) _ _ _ 1 [.int .i64 1] from rfl) (Reps.one (show Kd.M (Kd.int .i64) _ _ _ 1 [.int .i64 1] from rfl) (Reps.one (show Kd.M (Kd.int .i64) _ _ _ 1 [.int .i64 1] from rfl) (Reps.one (show Kd.M (Kd.int .i64) _ _ _ 0 [.int .i64 0] from rfl) (Reps.none _ _)))))))));intro v452 w33 ho34 hb hg_ hnew_;clear hg_ hnew_;(first|rw [← Ny451.out] at ho34|(simp only [Int.reduceToNat] at ho34;rw [← Ny451.out] at ho34));have n0_ := Aside0.mk (Kd.R_elder' (Kd.Rz HO_5.out) (Kd.R_base ho34) hb);have n1_ := Aside0.mk (Kd.R_lower (Kd.R_new' ho34 (Kd.R_lt (Kd.Rz HO_5.out))) (keep_size (w := w) (g := g) (row := none) kz));have n2_ := Aside0.mk (IsS73.below (by repeat (first|(with_reducible first|exact HI0.out|apply IsS73.alloc|apply IsS73.drewN|apply IsS73.drew|apply IsS73.set_1)|exact HI0.out)) hb);have n3_ := Aside0.mk (KeepBut.trans kz (KeepBut.of_below hb g none) (.inl rfl));have n4_ := Aside0.mk (below_step (by repeat (first|(with_reducible first|exact HB.out|apply below_alloc|apply pw_below_drewN|apply below_drew1|refine below_set ?_ (IsS73.ge HI0.out))|exact HB.out)) hb);clear HO_5;clear HI0;clear HK;clear HB;have HO_5 := n0_;have HO453 := n1_;have HI0 := n2_;have HK := n3_;have HB := n4_;clear n0_ n1_ n2_ n3_ n4_;clear hb ho34))
       go_ret
       exact ⟨_,by first|rfl|(simp [errW_none,errW_some] <;> rfl)|(simp [*,errW_none,errW_some] <;> rfl),by (with_reducible repeat (first|apply Kd.R_alloc|apply Kd.R_drewN|apply Kd.R_drew));exact Kd.R_mono HO453.out (fun _ hk => trivial),by repeat (first|(with_reducible first|exact HI0.out|apply IsS73.alloc|apply IsS73.drewN|apply IsS73.drew|apply IsS73.set_1)|exact HI0.out),by repeat (first|(with_reducible first|exact HB.out|apply below_alloc|apply pw_below_drewN|apply below_drew1|refine below_set ?_ (IsS73.ge HI0.out))|exact HB.out),by repeat (first|(with_reducible first|exact HK.out|apply KeepBut.set_|apply keep_drewN|apply keep_drew|apply keep_alloc)|exact HK.out)⟩
      ·rw [if_neg c30] at H
       have c30b0 : (t437 == 2) = false := beq_eq_false_iff_ne.mpr c30
       have c30b1 : (t437 != 2) = true := bne_iff_ne.mpr c30
       by_cases c35 : t437 = 3
       ·rw [if_pos c35] at H
        have c35b0 : (t437 == 3) = true := beq_iff_eq.mpr c35
        have c35b1 : (t437 != 3) = false := bne_eq_false_iff_eq.mpr c35
        clear c35
        obtain ⟨y454,hy454⟩ : ∃ y_ : List Int,y_ = (([1,0,0] : List Int)) := ⟨_,rfl⟩
        replace H : (some (y454,t438)) = some (r1,r2) := by first|(rw [hy454];with_reducible exact H)|(have H2_ := (Option.bind_some _ _).symm.trans H;rw [hy454];with_reducible exact H2_)|(have H2_ := (Option.bind_some _ _).symm.trans H;with_reducible exact H2_)|with_reducible exact H|(rw [hy454];exact H)|exact H
        have Ny454 := Aside0.mk hy454
        clear hy454
        simp only [Option.some.injEq,Prod.mk.injEq] at H
        obtain ⟨rfl,rfl⟩ := H
        go_wp2_with (first|((with_reducible refine gate_callee (f := 85) rfl ?_);refine goesL_ (some 22) rfl rfl Try.func85 (by kernel_rfl) rfl #[.pointer (some ⟨g,0,none⟩),.int .i64 a1] rfl az ?_;(with_reducible refine (spec_l20Rd_odd.calls kj3 g s0_0 x1001_3 a1 true t436 w0 _ ?side1 ?side2 A12.out).mono ?_);(case side1 => repeat (first|(with_reducible first|exact HI0.out|apply IsS73.alloc|apply IsS73.drewN|apply IsS73.drew|apply IsS73.set_1)|exact HI0.out));(case side2 => repeat (first|(with_reducible first|exact HB.out|apply below_alloc|apply pw_below_drewN|apply below_drew1|refine below_set ?_ (IsS73.ge HI0.out))|exact HB.out));rintro e w36 ⟨rfl,hi,hb,hk⟩;refine ⟨_,rfl,?_⟩;have n0_ := Aside0.mk (Kd.R_mono (Kd.R_keep (IsS73.apart (show IsS73 w0 _ g s0_0 x1001_3 from by repeat (first|(with_reducible first|exact HI0.out|apply IsS73.alloc|apply IsS73.drewN|apply IsS73.drew|apply IsS73.set_1)|exact HI0.out)) (Kd.Rz HO_5.out) (by decide)) hk (fun _ h => h.2)) (fun _ h => h.1));have n1_ := Aside0.mk (KeepBut.trans kz hk (.inl rfl));have n2_ := Aside0.mk (hb);have n3_ := Aside0.mk (hi);clear HO_5;clear HK;clear HB;clear HI0;have HO_5 := n0_;have HK := n1_;have HB := n2_;have HI0 := n3_;clear n0_ n1_ n2_ n3_;(try clear hb);(try clear hb2);(try clear hk);(try clear hi))|((with_reducible refine gate_callee (f := 56) rfl ?_);refine goesL_ (some 24) rfl rfl Try.func56 (by kernel_rfl) rfl #[.pointer (some ⟨g,0,none⟩),.int .i64 5] rfl az ?_;(with_reducible refine (spec_l20Rd_pick.calls kj3 g s0_0 t436 5 t437 t438 w0 _ ?side1 ?side2 A14.out).mono ?_);(case side1 => repeat (first|(with_reducible first|exact HI0.out|apply IsS73.alloc|apply IsS73.drewN|apply IsS73.drew|apply IsS73.set_1)|exact HI0.out));(case side2 => repeat (first|(with_reducible first|exact HB.out|apply below_alloc|apply pw_below_drewN|apply below_drew1|refine below_set ?_ (IsS73.ge HI0.out))|exact HB.out));rintro e w37 ⟨rfl,hi,hb,hk⟩;refine ⟨_,rfl,?_⟩;have n0_ := Aside0.mk (Kd.R_mono (Kd.R_keep (IsS73.apart (show IsS73 w0 _ g s0_0 t436 from by repeat (first|(with_reducible first|exact HI0.out|apply IsS73.alloc|apply IsS73.drewN|apply IsS73.drew|apply IsS73.set_1)|exact HI0.out)) (Kd.Rz HO_5.out) (by decide)) hk (fun _ h => h.2)) (fun _ h => h.1));have n1_ := Aside0.mk (KeepBut.trans kz hk (.inl rfl));have n2_ := Aside0.mk (hb);have n3_ := Aside0.mk (hi);clear HO_5;clear HK;clear HB;clear HI0;have HO_5 := n0_;have HK := n1_;have HB := n2_;have HI0 := n3_;clear n0_ n1_ n2_ n3_;(try clear hb);(try clear hb2);(try clear hk);(try clear hi))|((with_reducible refine gate_dst (N := 41) rfl ?_);refine Kd.R_lit (Kd.int .i64) _ 3 ?hg (N := 41) ?hd (xs := ([1,0,0] : List Int)) (inner := [.int .i64 1,.int .i64 0,.int .i64 0]) (ok := fun _ => True) (okp := fun _ => True) ?hr ?hp (fun _ hk => hk) trivial (Below.refl _ _) (Nat.le_refl _) (by simp) ?_;(case hd => rfl);(case hg => rfl);(case hr => first|(go_simp;done)|(go_simp;rfl));(case hp => exact (Reps.one (show Kd.M (Kd.int .i64) _ _ _ 1 [.int .i64 1] from rfl) (Reps.one (show Kd.M (Kd.int .i64) _ _ _ 0 [.int .i64 0] from rfl) (Reps.one (show Kd.M (Kd.int .i64) _ _ _ 0 [.int .i64 0] from rfl) (Reps.none _ _)))));intro v455 w38 ho39 hb hg_ hnew_;clear hg_ hnew_;(first|rw [← Ny454.out] at ho39|(simp only [Int.reduceToNat] at ho39;rw [← Ny454.out] at ho39));have n0_ := Aside0.mk (Kd.R_elder' (Kd.Rz HO_5.out) (Kd.R_base ho39) hb);have n1_ := Aside0.mk (Kd.R_lower (Kd.R_new' ho39 (Kd.R_lt (Kd.Rz HO_5.out))) (keep_size (w := w) (g := g) (row := none) kz));have n2_ := Aside0.mk (IsS73.below (by repeat (first|(with_reducible first|exact HI0.out|apply IsS73.alloc|apply IsS73.drewN|apply IsS73.drew|apply IsS73.set_1)|exact HI0.out)) hb);have n3_ := Aside0.mk (KeepBut.trans kz (KeepBut.of_below hb g none) (.inl rfl));have n4_ := Aside0.mk (below_step (by repeat (first|(with_reducible first|exact HB.out|apply below_alloc|apply pw_below_drewN|apply below_drew1|refine below_set ?_ (IsS73.ge HI0.out))|exact HB.out)) hb);clear HO_5;clear HI0;clear HK;clear HB;have HO_5 := n0_;have HO456 := n1_;have HI0 := n2_;have HK := n3_;have HB := n4_;clear n0_ n1_ n2_ n3_ n4_;clear hb ho39))
        go_ret
        exact ⟨_,by first|rfl|(simp [errW_none,errW_some] <;> rfl)|(simp [*,errW_none,errW_some] <;> rfl),by (with_reducible repeat (first|apply Kd.R_alloc|apply Kd.R_drewN|apply Kd.R_drew));exact Kd.R_mono HO456.out (fun _ hk => trivial),by repeat (first|(with_reducible first|exact HI0.out|apply IsS73.alloc|apply IsS73.drewN|apply IsS73.drew|apply IsS73.set_1)|exact HI0.out),by repeat (first|(with_reducible first|exact HB.out|apply below_alloc|apply pw_below_drewN|apply below_drew1|refine below_set ?_ (IsS73.ge HI0.out))|exact HB.out),by repeat (first|(with_reducible first|exact HK.out|apply KeepBut.set_|apply keep_drewN|apply keep_drew|apply keep_alloc)|exact HK.out)⟩
       ·rw [if_neg c35] at H
        have c35b0 : (t437 == 3) = false := beq_eq_false_iff_ne.mpr c35
        have c35b1 : (t437 != 3) = true := bne_iff_ne.mpr c35
        obtain ⟨y457,hy457⟩ : ∃ y_ : List Int,y_ = (([1,10000,0] : List Int)) := ⟨_,rfl⟩
        replace H : (some (y457,t438)) = some (r1,r2) := by first|(rw [hy457];with_reducible exact H)|(have H2_ := (Option.bind_some _ _).symm.trans H;rw [hy457];with_reducible exact H2_)|(have H2_ := (Option.bind_some _ _).symm.trans H;with_reducible exact H2_)|with_reducible exact H|(rw [hy457];exact H)|exact H
        have Ny457 := Aside0.mk hy457
        clear hy457
        simp only [Option.some.injEq,Prod.mk.injEq] at H
        obtain ⟨rfl,rfl⟩ := H
        go_wp2_with (first|((with_reducible refine gate_callee (f := 85) rfl ?_);refine goesL_ (some 22) rfl rfl Try.func85 (by kernel_rfl) rfl #[.pointer (some ⟨g,0,none⟩),.int .i64 a1] rfl az ?_;(with_reducible refine (spec_l20Rd_odd.calls kj3 g s0_0 x1001_3 a1 true t436 w0 _ ?side1 ?side2 A12.out).mono ?_);(case side1 => repeat (first|(with_reducible first|exact HI0.out|apply IsS73.alloc|apply IsS73.drewN|apply IsS73.drew|apply IsS73.set_1)|exact HI0.out));(case side2 => repeat (first|(with_reducible first|exact HB.out|apply below_alloc|apply pw_below_drewN|apply below_drew1|refine below_set ?_ (IsS73.ge HI0.out))|exact HB.out));rintro e w40 ⟨rfl,hi,hb,hk⟩;refine ⟨_,rfl,?_⟩;have n0_ := Aside0.mk (Kd.R_mono (Kd.R_keep (IsS73.apart (show IsS73 w0 _ g s0_0 x1001_3 from by repeat (first|(with_reducible first|exact HI0.out|apply IsS73.alloc|apply IsS73.drewN|apply IsS73.drew|apply IsS73.set_1)|exact HI0.out)) (Kd.Rz HO_5.out) (by decide)) hk (fun _ h => h.2)) (fun _ h => h.1));have n1_ := Aside0.mk (KeepBut.trans kz hk (.inl rfl));have n2_ := Aside0.mk (hb);have n3_ := Aside0.mk (hi);clear HO_5;clear HK;clear HB;clear HI0;have HO_5 := n0_;have HK := n1_;have HB := n2_;have HI0 := n3_;clear n0_ n1_ n2_ n3_;(try clear hb);(try clear hb2);(try clear hk);(try clear hi))|((with_reducible refine gate_callee (f := 56) rfl ?_);refine goesL_ (some 24) rfl rfl Try.func56 (by kernel_rfl) rfl #[.pointer (some ⟨g,0,none⟩),.int .i64 5] rfl az ?_;(with_reducible refine (spec_l20Rd_pick.calls kj3 g s0_0 t436 5 t437 t438 w0 _ ?side1 ?side2 A14.out).mono ?_);(case side1 => repeat (first|(with_reducible first|exact HI0.out|apply IsS73.alloc|apply IsS73.drewN|apply IsS73.drew|apply IsS73.set_1)|exact HI0.out));(case side2 => repeat (first|(with_reducible first|exact HB.out|apply below_alloc|apply pw_below_drewN|apply below_drew1|refine below_set ?_ (IsS73.ge HI0.out))|exact HB.out));rintro e w41 ⟨rfl,hi,hb,hk⟩;refine ⟨_,rfl,?_⟩;have n0_ := Aside0.mk (Kd.R_mono (Kd.R_keep (IsS73.apart (show IsS73 w0 _ g s0_0 t436 from by repeat (first|(with_reducible first|exact HI0.out|apply IsS73.alloc|apply IsS73.drewN|apply IsS73.drew|apply IsS73.set_1)|exact HI0.out)) (Kd.Rz HO_5.out) (by decide)) hk (fun _ h => h.2)) (fun _ h => h.1));have n1_ := Aside0.mk (KeepBut.trans kz hk (.inl rfl));have n2_ := Aside0.mk (hb);have n3_ := Aside0.mk (hi);clear HO_5;clear HK;clear HB;clear HI0;have HO_5 := n0_;have HK := n1_;have HB := n2_;have HI0 := n3_;clear n0_ n1_ n2_ n3_;(try clear hb);(try clear hb2);(try clear hk);(try clear hi))|((with_reducible refine gate_dst (N := 25) rfl ?_);refine Kd.R_lit (Kd.int .i64) _ 3 ?hg (N := 25) ?hd (xs := ([1,10000,0] : List Int)) (inner := [.int .i64 1,.int .i64 10000,.int .i64 0]) (ok := fun _ => True) (okp := fun _ => True) ?hr ?hp (fun _ hk => hk) trivial (Below.refl _ _) (Nat.le_refl _) (by simp) ?_;(case hd => rfl);(case hg => rfl);(case hr => first|(go_simp;done)|(go_simp;rfl));(case hp => exact (Reps.one (show Kd.M (Kd.int .i64) _ _ _ 1 [.int .i64 1] from rfl) (Reps.one (show Kd.M (Kd.int .i64) _ _ _ 10000 [.int .i64 10000] from rfl) (Reps.one (show Kd.M (Kd.int .i64) _ _ _ 0 [.int .i64 0] from rfl) (Reps.none _ _)))));intro v458 w42 ho43 hb hg_ hnew_;clear hg_ hnew_;(first|rw [← Ny457.out] at ho43|(simp only [Int.reduceToNat] at ho43;rw [← Ny457.out] at ho43));have n0_ := Aside0.mk (Kd.R_elder' (Kd.Rz HO_5.out) (Kd.R_base ho43) hb);have n1_ := Aside0.mk (Kd.R_lower (Kd.R_new' ho43 (Kd.R_lt (Kd.Rz HO_5.out))) (keep_size (w := w) (g := g) (row := none) kz));have n2_ := Aside0.mk (IsS73.below (by repeat (first|(with_reducible first|exact HI0.out|apply IsS73.alloc|apply IsS73.drewN|apply IsS73.drew|apply IsS73.set_1)|exact HI0.out)) hb);have n3_ := Aside0.mk (KeepBut.trans kz (KeepBut.of_below hb g none) (.inl rfl));have n4_ := Aside0.mk (below_step (by repeat (first|(with_reducible first|exact HB.out|apply below_alloc|apply pw_below_drewN|apply below_drew1|refine below_set ?_ (IsS73.ge HI0.out))|exact HB.out)) hb);clear HO_5;clear HI0;clear HK;clear HB;have HO_5 := n0_;have HO459 := n1_;have HI0 := n2_;have HK := n3_;have HB := n4_;clear n0_ n1_ n2_ n3_ n4_;clear hb ho43))
        go_ret
        exact ⟨_,by first|rfl|(simp [errW_none,errW_some] <;> rfl)|(simp [*,errW_none,errW_some] <;> rfl),by (with_reducible repeat (first|apply Kd.R_alloc|apply Kd.R_drewN|apply Kd.R_drew));exact Kd.R_mono HO459.out (fun _ hk => trivial),by repeat (first|(with_reducible first|exact HI0.out|apply IsS73.alloc|apply IsS73.drewN|apply IsS73.drew|apply IsS73.set_1)|exact HI0.out),by repeat (first|(with_reducible first|exact HB.out|apply below_alloc|apply pw_below_drewN|apply below_drew1|refine below_set ?_ (IsS73.ge HI0.out))|exact HB.out),by repeat (first|(with_reducible first|exact HK.out|apply KeepBut.set_|apply keep_drewN|apply keep_drew|apply keep_alloc)|exact HK.out)⟩
   ·replace c13 := Bool.eq_false_iff.mpr c13
    subst c13
    have H1 : (some (x5_3,t436)) = some (r1,r2) := by rw [if_neg (show ¬ (false = true) by decide)] at H;exact H
    clear H
    have H := H1
    clear H1
    simp only [Option.some.injEq,Prod.mk.injEq] at H
    obtain ⟨rfl,rfl⟩ := H
    go_wp2_with (first|((with_reducible refine gate_callee (f := 85) rfl ?_);refine goesL_ (some 22) rfl rfl Try.func85 (by kernel_rfl) rfl #[.pointer (some ⟨g,0,none⟩),.int .i64 a1] rfl az ?_;(with_reducible refine (spec_l20Rd_odd.calls kj3 g s0_0 x1001_3 a1 false t436 w0 _ ?side1 ?side2 A12.out).mono ?_);(case side1 => repeat (first|(with_reducible first|exact HI0.out|apply IsS73.alloc|apply IsS73.drewN|apply IsS73.drew|apply IsS73.set_1)|exact HI0.out));(case side2 => repeat (first|(with_reducible first|exact HB.out|apply below_alloc|apply pw_below_drewN|apply below_drew1|refine below_set ?_ (IsS73.ge HI0.out))|exact HB.out));rintro e w44 ⟨rfl,hi,hb,hk⟩;refine ⟨_,rfl,?_⟩;have n0_ := Aside0.mk (Kd.R_mono (Kd.R_keep (IsS73.apart (show IsS73 w0 _ g s0_0 x1001_3 from by repeat (first|(with_reducible first|exact HI0.out|apply IsS73.alloc|apply IsS73.drewN|apply IsS73.drew|apply IsS73.set_1)|exact HI0.out)) (Kd.Rz HO_5.out) (by decide)) hk (fun _ h => h.2)) (fun _ h => h.1));have n1_ := Aside0.mk (KeepBut.trans kz hk (.inl rfl));have n2_ := Aside0.mk (hb);have n3_ := Aside0.mk (hi);clear HO_5;clear HK;clear HB;clear HI0;have HO_5 := n0_;have HK := n1_;have HB := n2_;have HI0 := n3_;clear n0_ n1_ n2_ n3_;(try clear hb);(try clear hb2);(try clear hk);(try clear hi)))
    go_ret
    exact ⟨_,by first|rfl|(simp [errW_none,errW_some] <;> rfl)|(simp [*,errW_none,errW_some] <;> rfl),by (with_reducible repeat (first|apply Kd.R_alloc|apply Kd.R_drewN|apply Kd.R_drew));exact HO_5.out,by repeat (first|(with_reducible first|exact HI0.out|apply IsS73.alloc|apply IsS73.drewN|apply IsS73.drew|apply IsS73.set_1)|exact HI0.out),by repeat (first|(with_reducible first|exact HB.out|apply below_alloc|apply pw_below_drewN|apply below_drew1|refine below_set ?_ (IsS73.ge HI0.out))|exact HB.out),by repeat (first|(with_reducible first|exact HK.out|apply KeepBut.set_|apply keep_drewN|apply keep_drew|apply keep_alloc)|exact HK.out)⟩

end Go.Proofs.Ytninfokihgbgpaa.P
