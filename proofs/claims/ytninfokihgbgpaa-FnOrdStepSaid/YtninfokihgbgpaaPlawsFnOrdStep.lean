/- The walk of one Go function that the law reaches: it comes to what the Lean function of its name tells. -/
import Derived.Test.YtninfokihgbgpaaP0
import Derived.Test.YtninfokihgbgpaaPimplOrdCompare
import Derived.Test.YtninfokihgbgpaaPimplOrdKind
import Derived.Test.YtninfokihgbgpaaPimplOrdMost
import Derived.Test.YtninfokihgbgpaaPimplOrdStep
import Derived.Test.YtninfokihgbgpaaPimplOrdValid
import Derived.Test.YtninfokihgbgpaaPlawsalive
import Derived.Test.YtninfokihgbgpaaPlawssameInts
import Derived.Test.YtninfokihgbgpaaPspecDrawOrdStep
import Derived.Test.YtninfokihgbgpaaPspecOrdStep
import Derived.Test.YtninfokihgbgpaaPspecOrdValid
namespace Go.Proofs.Ytninfokihgbgpaa.P
open Go.RowKit Go.Proofs.YtninfokihgbgpaaW.PrintWords Go.Proofs.YtninfokihgbgpaaW.PrintLast Go.Proofs.YtninfokihgbgpaaW.PrintMore
attribute [local go_sem] max2_int min2_int max_two min_two max_three min_three max_four min_four   
set_option linter.unusedVariables false
set_option linter.unusedSimpArgs false

/-! ### laws_FnOrdStep: function 14 -/
mutual
def laws_FnOrdStep.j0 : Nat → List Int → List Int → Bool → Option (Bool)
 | 0,_,_,_ => none
 | k + 1,x0,x1,x25 => if x25 = true then (some true) else ((spec_DrawOrdStep.f k x0).bind fun bt1209 => ((impl_OrdStep.f k bt1209.1 bt1209.2).bind fun bt1213 => ((spec_OrdStep.f k bt1209.1 bt1209.2).bind fun bt1217 => ((laws_sameInts.f k bt1213.1 bt1217.1).bind fun t1221 => (if t1221 = true then (laws_FnOrdStep.j1 k x1 bt1209.1 bt1209.2 bt1213.1 bt1213.2 (bt1213.2 != bt1217.2)) else (laws_FnOrdStep.j1 k x1 bt1209.1 bt1209.2 bt1213.1 bt1213.2 true))))))
def laws_FnOrdStep.j1 : Nat → List Int → List Int → Int → List Int → Bool → Bool → Option (Bool)
 | 0,_,_,_,_,_,_ => none
 | k + 1,x1,x5,x6,x7,x8,x51 => if x51 = true then (some false) else (if x8 = true then (if (x5.length : Int) = 1 then ((laws_sameInts.f k x7 x5).bind fun t1223 => (some t1223)) else ((impl_OrdKind.f k x5).bind fun t1224 => ((impl_OrdStep.f k x5 (wrap64 (x6 + 1))).bind fun bt1225 => ((spec_DrawOrdStep.f k x1).bind fun bt1229 => ((impl_OrdMost.f k bt1229.1).bind fun t1233 => ((spec_OrdValid.f k bt1229.1).bind fun t1234 => (if t1234 = true then (if t1224 = 2 then (if t1233 < x6 then ((impl_OrdCompare.f k bt1229.1 x5).bind fun t1235 => (laws_FnOrdStep.j2 k x5 x7 t1224 bt1225.1 bt1225.2 bt1229.1 (t1235 == (-1)))) else (laws_FnOrdStep.j2 k x5 x7 t1224 bt1225.1 bt1225.2 bt1229.1 false)) else (laws_FnOrdStep.j2 k x5 x7 t1224 bt1225.1 bt1225.2 bt1229.1 false)) else (laws_FnOrdStep.j2 k x5 x7 t1224 bt1225.1 bt1225.2 bt1229.1 false)))))))) else (if (x7.length : Int) = 0 then ((laws_alive.f k).bind fun t1222 => (some t1222)) else (some false)))
def laws_FnOrdStep.j2 : Nat → List Int → List Int → Int → List Int → Bool → List Int → Bool → Option (Bool)
 | 0,_,_,_,_,_,_,_ => none
 | k + 1,x5,x7,x11,x12,x13,x14,x17 => (impl_OrdValid.f k x7).bind fun t1236 => (if t1236 = true then ((impl_OrdCompare.f k x7 x5).bind fun t1237 => (if t1237 = (-1) then (if x11 = 2 then (if x13 = true then ((impl_OrdCompare.f k x7 x12).bind fun t1238 => (if t1238 = (-1) then (if x17 = true then ((impl_OrdCompare.f k x14 x7).bind fun t1239 => (some (t1239 == (-1)))) else (some true)) else (some false))) else (if x17 = true then ((impl_OrdCompare.f k x14 x7).bind fun t1240 => (some (t1240 == (-1)))) else (some true))) else (if x17 = true then ((impl_OrdCompare.f k x14 x7).bind fun t1241 => (some (t1241 == (-1)))) else (some true))) else (some false))) else (some false))
end
def laws_FnOrdStep.f (k : Nat) (l0 : List Int) (l1 : List Int) : Option (Bool) := if (l0.length : Int) > 1048576 then (laws_FnOrdStep.j0 k l0 l1 true) else (laws_FnOrdStep.j0 k l0 l1 (decide ((l1.length : Int) > 1048576)))
theorem laws_FnOrdStep.mono_l : ∀ k,(∀ y0 y1 y2,LeO (laws_FnOrdStep.j0 k y0 y1 y2) (laws_FnOrdStep.j0 (k + 1) y0 y1 y2)) ∧ (∀ y0 y1 y2 y3 y4 y5,LeO (laws_FnOrdStep.j1 k y0 y1 y2 y3 y4 y5) (laws_FnOrdStep.j1 (k + 1) y0 y1 y2 y3 y4 y5)) ∧ (∀ y0 y1 y2 y3 y4 y5 y6,LeO (laws_FnOrdStep.j2 k y0 y1 y2 y3 y4 y5 y6) (laws_FnOrdStep.j2 (k + 1) y0 y1 y2 y3 y4 y5 y6))
 | 0 => ⟨fun _ _ _ r h => by simp [laws_FnOrdStep.j0] at h,fun _ _ _ _ _ _ r h => by simp [laws_FnOrdStep.j1] at h,fun _ _ _ _ _ _ _ r h => by simp [laws_FnOrdStep.j2] at h⟩
 | k + 1 => by
  obtain ⟨ih0,ih1,ih2⟩ := laws_FnOrdStep.mono_l k
  refine ⟨?_,?_,?_⟩
  ·intro y0 y1 y2
   unfold laws_FnOrdStep.j0
   repeat' first|(with_reducible first|exact ih0 _ _ _|exact ih1 _ _ _ _ _ _|exact impl_OrdStep.mono _ _ _|exact laws_sameInts.mono _ _ _|exact spec_DrawOrdStep.mono _ _|exact spec_OrdStep.mono _ _ _|exact LeO.refl _|exact LeO.none _|refine LeO.ite ?_ ?_|refine LeO.bind ?_ (fun _ => ?_))|exact ih0 _ _ _|exact ih1 _ _ _ _ _ _|exact impl_OrdStep.mono _ _ _|exact laws_sameInts.mono _ _ _|exact spec_DrawOrdStep.mono _ _|exact spec_OrdStep.mono _ _ _|exact LeO.none _|refine LeO.ite ?_ ?_|refine LeO.bind ?_ (fun _ => ?_)
  ·intro y0 y1 y2 y3 y4 y5
   unfold laws_FnOrdStep.j1
   repeat' first|(with_reducible first|exact ih1 _ _ _ _ _ _|exact ih2 _ _ _ _ _ _ _|exact impl_OrdCompare.mono _ _ _|exact impl_OrdKind.mono _ _|exact impl_OrdMost.mono _ _|exact impl_OrdStep.mono _ _ _|exact laws_alive.mono _|exact laws_sameInts.mono _ _ _|exact spec_DrawOrdStep.mono _ _|exact spec_OrdValid.mono _ _|exact LeO.refl _|exact LeO.none _|refine LeO.ite ?_ ?_|refine LeO.bind ?_ (fun _ => ?_))|exact ih1 _ _ _ _ _ _|exact ih2 _ _ _ _ _ _ _|exact impl_OrdCompare.mono _ _ _|exact impl_OrdKind.mono _ _|exact impl_OrdMost.mono _ _|exact impl_OrdStep.mono _ _ _|exact laws_alive.mono _|exact laws_sameInts.mono _ _ _|exact spec_DrawOrdStep.mono _ _|exact spec_OrdValid.mono _ _|exact LeO.none _|refine LeO.ite ?_ ?_|refine LeO.bind ?_ (fun _ => ?_)
  ·intro y0 y1 y2 y3 y4 y5 y6
   unfold laws_FnOrdStep.j2
   repeat' first|(with_reducible first|exact ih2 _ _ _ _ _ _ _|exact impl_OrdCompare.mono _ _ _|exact impl_OrdValid.mono _ _|exact LeO.refl _|exact LeO.none _|refine LeO.ite ?_ ?_|refine LeO.bind ?_ (fun _ => ?_))|exact ih2 _ _ _ _ _ _ _|exact impl_OrdCompare.mono _ _ _|exact impl_OrdValid.mono _ _|exact LeO.none _|refine LeO.ite ?_ ?_|refine LeO.bind ?_ (fun _ => ?_)
theorem laws_FnOrdStep.mono : ∀ a0 a1 k,LeO (laws_FnOrdStep.f k a0 a1) (laws_FnOrdStep.f (k + 1) a0 a1) := by
 intro a0 a1 k
 obtain ⟨ih0,ih1,ih2⟩ := laws_FnOrdStep.mono_l k
 unfold laws_FnOrdStep.f
 repeat' first|(with_reducible first|exact ih0 _ _ _|exact ih1 _ _ _ _ _ _|exact ih2 _ _ _ _ _ _ _|exact LeO.refl _|exact LeO.none _|refine LeO.ite ?_ ?_|refine LeO.bind ?_ (fun _ => ?_))|exact ih0 _ _ _|exact ih1 _ _ _ _ _ _|exact ih2 _ _ _ _ _ _ _|exact LeO.none _|refine LeO.ite ?_ ?_|refine LeO.bind ?_ (fun _ => ?_)
set_option maxHeartbeats 8000000 in
set_option maxRecDepth 100000 in
theorem laws_FnOrdStep.calls (k : Nat) (A0 : Option Addr) (c0 : Nat) (l0 : List Int) (A1 : Option Addr) (c1 : Nat) (l1 : List Int) (r : Bool) (w : World) (hr0 : Kd.C (Kd.int .u8) w A0 l0.length l0) (hc0 : l0.length ≤ c0) (hr1 : Kd.C (Kd.int .u8) w A1 l1.length l1) (hc1 : l1.length ≤ c1) (h : laws_FnOrdStep.f k l0 l1 = some r) :
  Calls Try.prog 14 #[.slice A0 l0.length c0,.slice A1 l1.length c1] w fun e w' => e = .returned (.bool r) ∧ Below w.heap.size w w' := by
 have HR0 := Aside0.mk hr0
 have HC0 := Aside0.mk hc0
 clear hr0 hc0
 have HR1 := Aside0.mk hr1
 have HC1 := Aside0.mk hc1
 clear hr1 hc1
 have HB := Aside0.mk (Below.refl w.heap.size w)
 have H : (if (l0.length : Int) > 1048576 then (laws_FnOrdStep.j0 k l0 l1 true) else (laws_FnOrdStep.j0 k l0 l1 (decide ((l1.length : Int) > 1048576)))) = some r := h
 clear h
 have HC3 := Aside0.mk H
 clear H
 go_enter Try.func14,Try.ntmps14
 go_upto_region 1 with (fail)
 go_cut [25] (fun v25 wc => ∃ (kq : Nat) (x25_2 : Bool),v25 = .bool x25_2 ∧ Aside0 (laws_FnOrdStep.j0 kq l0 l1 x25_2 = some r) ∧ Aside0 (kq ≤ k) ∧ Aside0 (Below w.heap.size w wc))
 case first =>
  have H := HC3.out
  clear HC3
  by_cases c4 : (l0.length : Int) > 1048576
  ·rw [if_pos c4] at H
   have c4b0 : decide (1048576 < (l0.length : Int)) = true := decide_eq_true c4
   have c4b1 : decide (1048576 < l0.length) = true := decide_eq_true (by omega)
   clear c4
   (first|rw [c4b0]|(simp only [i64_w,i32_w];rw [c4b0])|skip)
   have H' := Aside0.mk H
   clear H
   go_wp2
   go_meet
   case rel => exact ⟨_,(true),(by first|rfl|(simp;done)|(simp [*];done)),H',⟨by first|omega|exact Nat.le_refl _⟩,⟨bz⟩⟩
  ·rw [if_neg c4] at H
   have c4b0 : decide (1048576 < (l0.length : Int)) = false := decide_eq_false c4
   have c4b1 : decide (1048576 < l0.length) = false := decide_eq_false (by omega)
   clear c4
   (first|rw [c4b0]|(simp only [i64_w,i32_w];rw [c4b0])|skip)
   have H' := Aside0.mk H
   clear H
   go_wp2
   go_meet
   case rel => exact ⟨_,(decide ((l1.length : Int) > 1048576)),(by first|rfl|(simp;done)|(simp [*];done)),H',⟨by first|omega|exact Nat.le_refl _⟩,⟨bz⟩⟩
 case rest =>
  clear HC3
  try clear c1
  try clear p2
  try clear c4
  try clear c4b0
  try clear c4b1
  obtain ⟨kq,x25_2,rfl,HA,HJ2,HB⟩ := hcut
  cases kq with
  | zero => exact absurd HA.out (by simp [laws_FnOrdStep.j0])
  | succ kj2 =>
   have H := HA.out
   clear HA
   simp only [laws_FnOrdStep.j0] at H
   by_cases c5 : x25_2 = true
   ·subst c5
    have H1 : (some true) = some r := by rw [if_pos rfl] at H;exact H
    clear H
    have H := H1
    clear H1
    obtain rfl := Option.some.inj H
    go_wp2
    go_ret
    exact ⟨by first|rfl|(simp [errW_none,errW_some] <;> rfl)|(simp [*,errW_none,errW_some] <;> rfl),bz⟩
   ·replace c5 := Bool.eq_false_iff.mpr c5
    subst c5
    have H1 : ((spec_DrawOrdStep.f kj2 l0).bind fun bt1209 => ((impl_OrdStep.f kj2 bt1209.1 bt1209.2).bind fun bt1213 => ((spec_OrdStep.f kj2 bt1209.1 bt1209.2).bind fun bt1217 => ((laws_sameInts.f kj2 bt1213.1 bt1217.1).bind fun t1221 => (if t1221 = true then (laws_FnOrdStep.j1 kj2 l1 bt1209.1 bt1209.2 bt1213.1 bt1213.2 (bt1213.2 != bt1217.2)) else (laws_FnOrdStep.j1 kj2 l1 bt1209.1 bt1209.2 bt1213.1 bt1213.2 true)))))) = some r := by rw [if_neg (show ¬ (false = true) by decide)] at H;exact H
    clear H
    have H := H1
    clear H1
    replace H := Option.bind_eq_some_iff.mp H
    obtain ⟨⟨t1209,t1210⟩,A60,H⟩ := H
    replace H : ((impl_OrdStep.f kj2 t1209 t1210).bind fun bt1213 => ((spec_OrdStep.f kj2 t1209 t1210).bind fun bt1217 => ((laws_sameInts.f kj2 bt1213.1 bt1217.1).bind fun t1221 => (if t1221 = true then (laws_FnOrdStep.j1 kj2 l1 t1209 t1210 bt1213.1 bt1213.2 (bt1213.2 != bt1217.2)) else (laws_FnOrdStep.j1 kj2 l1 t1209 t1210 bt1213.1 bt1213.2 true))))) = some r := H
    have A6 := Aside0.mk A60
    clear A60
    replace H := Option.bind_eq_some_iff.mp H
    obtain ⟨⟨t1213,t1214⟩,A70,H⟩ := H
    replace H : ((spec_OrdStep.f kj2 t1209 t1210).bind fun bt1217 => ((laws_sameInts.f kj2 t1213 bt1217.1).bind fun t1221 => (if t1221 = true then (laws_FnOrdStep.j1 kj2 l1 t1209 t1210 t1213 t1214 (t1214 != bt1217.2)) else (laws_FnOrdStep.j1 kj2 l1 t1209 t1210 t1213 t1214 true)))) = some r := H
    have A7 := Aside0.mk A70
    clear A70
    replace H := Option.bind_eq_some_iff.mp H
    obtain ⟨⟨t1217,t1218⟩,A80,H⟩ := H
    replace H : ((laws_sameInts.f kj2 t1213 t1217).bind fun t1221 => (if t1221 = true then (laws_FnOrdStep.j1 kj2 l1 t1209 t1210 t1213 t1214 (t1214 != t1218)) else (laws_FnOrdStep.j1 kj2 l1 t1209 t1210 t1213 t1214 true))) = some r := H
    have A8 := Aside0.mk A80
    clear A80
    have HC9 := Aside0.mk H
    clear H
    go_upto_region 6 with (first|((with_reducible refine gate_callee (f := 52) rfl ?_);refine goesL_ (some 28) rfl rfl Try.func52 (by kernel_rfl) rfl #[.slice A0 l0.length c0] rfl az ?_;(with_reducible refine (spec_DrawOrdStep.calls kj2 _ _ l0 t1209 t1210 _ ?side1 ?side2 A6.out).mono ?_);(case side1 => exact Kd.Cz (Kd.C_below HR0.out HB.out));(case side2 => exact HC0.out);rintro e w10 ⟨v1211,rfl,ho0,hb⟩;refine ⟨_,rfl,?_⟩;have n0_ := Aside0.mk (Kd.R_lower ho0 (below_size bz));have n1_ := Aside0.mk (below_step bz hb);clear HB;have HO1212 := n0_;have HB := n1_;clear n0_ n1_;(try clear hb);(try clear hb2);(try clear hk);(try clear hi);(try clear ho0);obtain ⟨Ao11,co11,eo11⟩ := Kd.R_slice HO1212.out;subst eo11)|((with_reducible refine gate_callee (f := 53) rfl ?_);refine goesL_ (some 34) rfl rfl Try.func53 (by kernel_rfl) rfl #[.slice Ao11 t1209.length co11,.int .i64 t1210] rfl az ?_;(with_reducible refine (impl_OrdStep.calls kj2 _ _ t1209 t1210 t1213 t1214 _ ?side1 ?side2 A7.out).mono ?_);(case side1 => exact Kd.Cz (Kd.R_reads' HO1212.out).2.2);(case side2 => exact (Kd.R_reads' HO1212.out).2.1);rintro e w12 ⟨v1215,rfl,ho0,hb⟩;refine ⟨_,rfl,?_⟩;have n0_ := Aside0.mk (Kd.R_elder' (Kd.Rz HO1212.out) (Kd.R_base ho0) hb);have n1_ := Aside0.mk (Kd.R_lower (Kd.R_new' ho0 (Kd.R_lt (Kd.Rz HO1212.out))) (below_size bz));have n2_ := Aside0.mk (below_step bz hb);clear HO1212;clear HB;have HO1212 := n0_;have HO1216 := n1_;have HB := n2_;clear n0_ n1_ n2_;(try clear hb);(try clear hb2);(try clear hk);(try clear hi);(try clear ho0))|((with_reducible refine gate_callee (f := 54) rfl ?_);refine goesL_ (some 40) rfl rfl Try.func54 (by kernel_rfl) rfl #[.slice Ao11 t1209.length co11,.int .i64 t1210] rfl az ?_;(with_reducible refine (spec_OrdStep.calls kj2 _ _ t1209 t1210 t1217 t1218 _ ?side1 ?side2 A8.out).mono ?_);(case side1 => exact Kd.Cz (Kd.R_reads' HO1212.out).2.2);(case side2 => exact (Kd.R_reads' HO1212.out).2.1);rintro e w13 ⟨v1219,rfl,ho0,hb⟩;refine ⟨_,rfl,?_⟩;have n0_ := Aside0.mk (Kd.R_elder' (Kd.Rz HO1212.out) (Kd.R_base ho0) hb);have n1_ := Aside0.mk (Kd.R_elder' (Kd.Rz HO1216.out) (Kd.R_base ho0) hb);have n2_ := Aside0.mk (Kd.R_lower (Kd.R_new' (Kd.R_new' ho0 (Kd.R_lt (Kd.Rz HO1212.out))) (Kd.R_lt (Kd.Rz HO1216.out))) (below_size bz));have n3_ := Aside0.mk (below_step bz hb);clear HO1212;clear HO1216;clear HB;have HO1212 := n0_;have HO1216 := n1_;have HO1220 := n2_;have HB := n3_;clear n0_ n1_ n2_ n3_;(try clear hb);(try clear hb2);(try clear hk);(try clear hi);(try clear ho0)))
    (try simp only [Act.put,List.setIfInBounds_toArray,List.set_cons_zero,List.set_cons_succ])
    go_cut [51] (fun v51 wc => ∃ (kq : Nat) (x51_8 : Bool),v51 = .bool x51_8 ∧ Aside0 (laws_FnOrdStep.j1 kq l1 t1209 t1210 t1213 t1214 x51_8 = some r) ∧ Aside0 (kq ≤ kj2) ∧ Aside0 (Kd.R (Kd.int .i64) 3 wc w.heap.size (fun k_ => some k_ ≠ (v1215 : Value).ownBlock) (.slice Ao11 t1209.length co11) t1209) ∧ Aside0 (Kd.R (Kd.int .i64) 3 wc w.heap.size (fun k_ => some k_ ≠ ((.slice Ao11 t1209.length co11) : Value).ownBlock) v1215 t1213) ∧ Aside0 (Below w.heap.size w wc))
    case first =>
     have H := HC9.out
     clear HC9
     replace H := Option.bind_eq_some_iff.mp H
     obtain ⟨t1221,A140,H⟩ := H
     replace H : (if t1221 = true then (laws_FnOrdStep.j1 kj2 l1 t1209 t1210 t1213 t1214 (t1214 != t1218)) else (laws_FnOrdStep.j1 kj2 l1 t1209 t1210 t1213 t1214 true)) = some r := H
     have A14 := Aside0.mk A140
     clear A140
     by_cases c15 : t1221 = true
     ·subst c15
      have H1 : (laws_FnOrdStep.j1 kj2 l1 t1209 t1210 t1213 t1214 (t1214 != t1218)) = some r := by rw [if_pos rfl] at H;exact H
      clear H
      have H := H1
      clear H1
      have H' := Aside0.mk H
      clear H
      obtain ⟨Ao16,co16,eo16⟩ := Kd.R_slice HO1216.out
      subst eo16
      obtain ⟨Ao17,co17,eo17⟩ := Kd.R_slice HO1220.out
      subst eo17
      go_wp2_with (first|((with_reducible refine gate_callee (f := 17) rfl ?_);refine goesL_ (some 45) rfl rfl Try.func17 (by kernel_rfl) rfl #[.slice Ao16 t1213.length co16,.slice Ao17 t1217.length co17] rfl az ?_;(with_reducible refine (laws_sameInts.calls kj2 _ _ t1213 _ _ t1217 true _ ?side1 ?side2 ?side3 ?side4 A14.out).mono ?_);(case side1 => exact Kd.Cz (Kd.R_reads' HO1216.out).2.2);(case side2 => exact (Kd.R_reads' HO1216.out).2.1);(case side3 => exact Kd.Cz (Kd.R_reads' HO1220.out).2.2);(case side4 => exact (Kd.R_reads' HO1220.out).2.1);rintro e w' ⟨rfl,⟨nd,rfl⟩⟩;refine ⟨_,rfl,?_⟩))
      go_meet
      case rel => exact ⟨_,((t1214 != t1218)),(by first|rfl|(simp;done)|(simp [*];done)),H',⟨by have := HJ2.out;first|omega|exact Nat.le_refl _⟩,⟨by (with_reducible repeat (first|apply Kd.R_alloc|apply Kd.R_drewN|apply Kd.R_drew));exact Kd.R_mono HO1212.out (fun _ hk => hk.1.2)⟩,⟨by (with_reducible repeat (first|apply Kd.R_alloc|apply Kd.R_drewN|apply Kd.R_drew));exact Kd.R_mono HO1216.out (fun _ hk => hk.1.2)⟩,⟨bz⟩⟩
     ·replace c15 := Bool.eq_false_iff.mpr c15
      subst c15
      have H1 : (laws_FnOrdStep.j1 kj2 l1 t1209 t1210 t1213 t1214 true) = some r := by rw [if_neg (show ¬ (false = true) by decide)] at H;exact H
      clear H
      have H := H1
      clear H1
      have H' := Aside0.mk H
      clear H
      obtain ⟨Ao18,co18,eo18⟩ := Kd.R_slice HO1216.out
      subst eo18
      obtain ⟨Ao19,co19,eo19⟩ := Kd.R_slice HO1220.out
      subst eo19
      go_wp2_with (first|((with_reducible refine gate_callee (f := 17) rfl ?_);refine goesL_ (some 45) rfl rfl Try.func17 (by kernel_rfl) rfl #[.slice Ao18 t1213.length co18,.slice Ao19 t1217.length co19] rfl az ?_;(with_reducible refine (laws_sameInts.calls kj2 _ _ t1213 _ _ t1217 false _ ?side1 ?side2 ?side3 ?side4 A14.out).mono ?_);(case side1 => exact Kd.Cz (Kd.R_reads' HO1216.out).2.2);(case side2 => exact (Kd.R_reads' HO1216.out).2.1);(case side3 => exact Kd.Cz (Kd.R_reads' HO1220.out).2.2);(case side4 => exact (Kd.R_reads' HO1220.out).2.1);rintro e w' ⟨rfl,⟨nd,rfl⟩⟩;refine ⟨_,rfl,?_⟩))
      go_meet
      case rel => exact ⟨_,(true),(by first|rfl|(simp;done)|(simp [*];done)),H',⟨by have := HJ2.out;first|omega|exact Nat.le_refl _⟩,⟨by (with_reducible repeat (first|apply Kd.R_alloc|apply Kd.R_drewN|apply Kd.R_drew));exact Kd.R_mono HO1212.out (fun _ hk => hk.1.2)⟩,⟨by (with_reducible repeat (first|apply Kd.R_alloc|apply Kd.R_drewN|apply Kd.R_drew));exact Kd.R_mono HO1216.out (fun _ hk => hk.1.2)⟩,⟨bz⟩⟩
    case rest =>
     clear HC9
     try clear c1
     try clear p2
     try clear c4
     try clear c4b0
     try clear c4b1
     try clear c5
     try clear c14
     try clear c15
     try clear c17
     try clear p2
     obtain ⟨kq,x51_8,rfl,HA,HJ8,HO_5,HO_7,HB⟩ := hcut
     cases kq with
     | zero => exact absurd HA.out (by simp [laws_FnOrdStep.j1])
     | succ kj8 =>
      have H := HA.out
      clear HA
      simp only [laws_FnOrdStep.j1] at H
      by_cases c20 : x51_8 = true
      ·subst c20
       have H1 : (some false) = some r := by rw [if_pos rfl] at H;exact H
       clear H
       have H := H1
       clear H1
       obtain rfl := Option.some.inj H
       go_wp2
       go_ret
       exact ⟨by first|rfl|(simp [errW_none,errW_some] <;> rfl)|(simp [*,errW_none,errW_some] <;> rfl),bz⟩
      ·replace c20 := Bool.eq_false_iff.mpr c20
       subst c20
       have H1 : (if t1214 = true then (if (t1209.length : Int) = 1 then ((laws_sameInts.f kj8 t1213 t1209).bind fun t1223 => (some t1223)) else ((impl_OrdKind.f kj8 t1209).bind fun t1224 => ((impl_OrdStep.f kj8 t1209 (wrap64 (t1210 + 1))).bind fun bt1225 => ((spec_DrawOrdStep.f kj8 l1).bind fun bt1229 => ((impl_OrdMost.f kj8 bt1229.1).bind fun t1233 => ((spec_OrdValid.f kj8 bt1229.1).bind fun t1234 => (if t1234 = true then (if t1224 = 2 then (if t1233 < t1210 then ((impl_OrdCompare.f kj8 bt1229.1 t1209).bind fun t1235 => (laws_FnOrdStep.j2 kj8 t1209 t1213 t1224 bt1225.1 bt1225.2 bt1229.1 (t1235 == (-1)))) else (laws_FnOrdStep.j2 kj8 t1209 t1213 t1224 bt1225.1 bt1225.2 bt1229.1 false)) else (laws_FnOrdStep.j2 kj8 t1209 t1213 t1224 bt1225.1 bt1225.2 bt1229.1 false)) else (laws_FnOrdStep.j2 kj8 t1209 t1213 t1224 bt1225.1 bt1225.2 bt1229.1 false)))))))) else (if (t1213.length : Int) = 0 then ((laws_alive.f kj8).bind fun t1222 => (some t1222)) else (some false))) = some r := by rw [if_neg (show ¬ (false = true) by decide)] at H;exact H
       clear H
       have H := H1
       clear H1
       by_cases c21 : t1214 = true
       ·subst c21
        have H1 : (if (t1209.length : Int) = 1 then ((laws_sameInts.f kj8 t1213 t1209).bind fun t1223 => (some t1223)) else ((impl_OrdKind.f kj8 t1209).bind fun t1224 => ((impl_OrdStep.f kj8 t1209 (wrap64 (t1210 + 1))).bind fun bt1225 => ((spec_DrawOrdStep.f kj8 l1).bind fun bt1229 => ((impl_OrdMost.f kj8 bt1229.1).bind fun t1233 => ((spec_OrdValid.f kj8 bt1229.1).bind fun t1234 => (if t1234 = true then (if t1224 = 2 then (if t1233 < t1210 then ((impl_OrdCompare.f kj8 bt1229.1 t1209).bind fun t1235 => (laws_FnOrdStep.j2 kj8 t1209 t1213 t1224 bt1225.1 bt1225.2 bt1229.1 (t1235 == (-1)))) else (laws_FnOrdStep.j2 kj8 t1209 t1213 t1224 bt1225.1 bt1225.2 bt1229.1 false)) else (laws_FnOrdStep.j2 kj8 t1209 t1213 t1224 bt1225.1 bt1225.2 bt1229.1 false)) else (laws_FnOrdStep.j2 kj8 t1209 t1213 t1224 bt1225.1 bt1225.2 bt1229.1 false)))))))) = some r := by rw [if_pos rfl] at H;exact H
        clear H
        have H := H1
        clear H1
        by_cases c22 : (t1209.length : Int) = 1
        ·rw [if_pos c22] at H
         have c22b0 : ((t1209.length : Int) == 1) = true := beq_iff_eq.mpr c22
         have c22b1 : ((t1209.length : Int) != 1) = false := bne_eq_false_iff_eq.mpr c22
         clear c22
         replace H := Option.bind_eq_some_iff.mp H
         obtain ⟨t1223,A230,H⟩ := H
         replace H : (some t1223) = some r := H
         have A23 := Aside0.mk A230
         clear A230
         obtain rfl := Option.some.inj H
         obtain ⟨Ao24,co24,eo24⟩ := Kd.R_slice HO_7.out
         subst eo24
         go_wp2_with (first|((with_reducible refine gate_callee (f := 17) rfl ?_);refine goesL_ (some 65) rfl rfl Try.func17 (by kernel_rfl) rfl #[.slice Ao24 t1213.length co24,.slice Ao11 t1209.length co11] rfl az ?_;(with_reducible refine (laws_sameInts.calls kj8 _ _ t1213 _ _ t1209 t1223 _ ?side1 ?side2 ?side3 ?side4 A23.out).mono ?_);(case side1 => exact Kd.Cz (Kd.R_reads' HO_7.out).2.2);(case side2 => exact (Kd.R_reads' HO_7.out).2.1);(case side3 => exact Kd.Cz (Kd.R_reads' HO_5.out).2.2);(case side4 => exact (Kd.R_reads' HO_5.out).2.1);rintro e w' ⟨rfl,⟨nd,rfl⟩⟩;refine ⟨_,rfl,?_⟩))
         go_ret
         exact ⟨by first|rfl|(simp [errW_none,errW_some] <;> rfl)|(simp [*,errW_none,errW_some] <;> rfl),bz⟩
        ·rw [if_neg c22] at H
         have c22b0 : ((t1209.length : Int) == 1) = false := beq_eq_false_iff_ne.mpr c22
         have c22b1 : ((t1209.length : Int) != 1) = true := bne_iff_ne.mpr c22
         replace H := Option.bind_eq_some_iff.mp H
         obtain ⟨t1224,A250,H⟩ := H
         replace H : ((impl_OrdStep.f kj8 t1209 (wrap64 (t1210 + 1))).bind fun bt1225 => ((spec_DrawOrdStep.f kj8 l1).bind fun bt1229 => ((impl_OrdMost.f kj8 bt1229.1).bind fun t1233 => ((spec_OrdValid.f kj8 bt1229.1).bind fun t1234 => (if t1234 = true then (if t1224 = 2 then (if t1233 < t1210 then ((impl_OrdCompare.f kj8 bt1229.1 t1209).bind fun t1235 => (laws_FnOrdStep.j2 kj8 t1209 t1213 t1224 bt1225.1 bt1225.2 bt1229.1 (t1235 == (-1)))) else (laws_FnOrdStep.j2 kj8 t1209 t1213 t1224 bt1225.1 bt1225.2 bt1229.1 false)) else (laws_FnOrdStep.j2 kj8 t1209 t1213 t1224 bt1225.1 bt1225.2 bt1229.1 false)) else (laws_FnOrdStep.j2 kj8 t1209 t1213 t1224 bt1225.1 bt1225.2 bt1229.1 false)))))) = some r := H
         have A25 := Aside0.mk A250
         clear A250
         replace H := Option.bind_eq_some_iff.mp H
         obtain ⟨⟨t1225,t1226⟩,A260,H⟩ := H
         replace H : ((spec_DrawOrdStep.f kj8 l1).bind fun bt1229 => ((impl_OrdMost.f kj8 bt1229.1).bind fun t1233 => ((spec_OrdValid.f kj8 bt1229.1).bind fun t1234 => (if t1234 = true then (if t1224 = 2 then (if t1233 < t1210 then ((impl_OrdCompare.f kj8 bt1229.1 t1209).bind fun t1235 => (laws_FnOrdStep.j2 kj8 t1209 t1213 t1224 t1225 t1226 bt1229.1 (t1235 == (-1)))) else (laws_FnOrdStep.j2 kj8 t1209 t1213 t1224 t1225 t1226 bt1229.1 false)) else (laws_FnOrdStep.j2 kj8 t1209 t1213 t1224 t1225 t1226 bt1229.1 false)) else (laws_FnOrdStep.j2 kj8 t1209 t1213 t1224 t1225 t1226 bt1229.1 false))))) = some r := H
         have A26 := Aside0.mk A260
         clear A260
         replace H := Option.bind_eq_some_iff.mp H
         obtain ⟨⟨t1229,t1230⟩,A270,H⟩ := H
         replace H : ((impl_OrdMost.f kj8 t1229).bind fun t1233 => ((spec_OrdValid.f kj8 t1229).bind fun t1234 => (if t1234 = true then (if t1224 = 2 then (if t1233 < t1210 then ((impl_OrdCompare.f kj8 t1229 t1209).bind fun t1235 => (laws_FnOrdStep.j2 kj8 t1209 t1213 t1224 t1225 t1226 t1229 (t1235 == (-1)))) else (laws_FnOrdStep.j2 kj8 t1209 t1213 t1224 t1225 t1226 t1229 false)) else (laws_FnOrdStep.j2 kj8 t1209 t1213 t1224 t1225 t1226 t1229 false)) else (laws_FnOrdStep.j2 kj8 t1209 t1213 t1224 t1225 t1226 t1229 false)))) = some r := H
         have A27 := Aside0.mk A270
         clear A270
         replace H := Option.bind_eq_some_iff.mp H
         obtain ⟨t1233,A280,H⟩ := H
         replace H : ((spec_OrdValid.f kj8 t1229).bind fun t1234 => (if t1234 = true then (if t1224 = 2 then (if t1233 < t1210 then ((impl_OrdCompare.f kj8 t1229 t1209).bind fun t1235 => (laws_FnOrdStep.j2 kj8 t1209 t1213 t1224 t1225 t1226 t1229 (t1235 == (-1)))) else (laws_FnOrdStep.j2 kj8 t1209 t1213 t1224 t1225 t1226 t1229 false)) else (laws_FnOrdStep.j2 kj8 t1209 t1213 t1224 t1225 t1226 t1229 false)) else (laws_FnOrdStep.j2 kj8 t1209 t1213 t1224 t1225 t1226 t1229 false))) = some r := H
         have A28 := Aside0.mk A280
         clear A280
         have HC29 := Aside0.mk H
         clear H
         go_upto_region 16 with (first|((with_reducible refine gate_callee (f := 45) rfl ?_);refine goesL_ (some 67) rfl rfl Try.func45 (by kernel_rfl) rfl #[.slice Ao11 t1209.length co11] rfl az ?_;(with_reducible refine (impl_OrdKind.calls kj8 _ _ t1209 t1224 _ ?side1 ?side2 A25.out).mono ?_);(case side1 => exact Kd.Cz (Kd.R_reads' HO_5.out).2.2);(case side2 => exact (Kd.R_reads' HO_5.out).2.1);rintro e w30 ⟨rfl,hb⟩;refine ⟨_,rfl,?_⟩;have n0_ := Aside0.mk (Kd.R_below (Kd.Rz HO_5.out) hb);have n1_ := Aside0.mk (Kd.R_below (Kd.Rz HO_7.out) hb);have n2_ := Aside0.mk (below_step bz hb);clear HO_5;clear HO_7;clear HB;have HO_5 := n0_;have HO_7 := n1_;have HB := n2_;clear n0_ n1_ n2_;(try clear hb);(try clear hb2);(try clear hk);(try clear hi))|((with_reducible refine gate_callee (f := 53) rfl ?_);refine goesL_ (some 72) rfl rfl Try.func53 (by kernel_rfl) rfl #[.slice Ao11 t1209.length co11,.int .i64 (wrap64 (t1210 + 1))] rfl az ?_;(with_reducible refine (impl_OrdStep.calls kj8 _ _ t1209 (wrap64 (t1210 + 1)) t1225 t1226 _ ?side1 ?side2 A26.out).mono ?_);(case side1 => exact Kd.Cz (Kd.R_reads' HO_5.out).2.2);(case side2 => exact (Kd.R_reads' HO_5.out).2.1);rintro e w31 ⟨v1227,rfl,ho0,hb⟩;refine ⟨_,rfl,?_⟩;have n0_ := Aside0.mk (Kd.R_elder' (Kd.Rz HO_5.out) (Kd.R_base ho0) hb);have n1_ := Aside0.mk (Kd.R_elder' (Kd.Rz HO_7.out) (Kd.R_base ho0) hb);have n2_ := Aside0.mk (Kd.R_lower (Kd.R_new' (Kd.R_new' ho0 (Kd.R_lt (Kd.Rz HO_5.out))) (Kd.R_lt (Kd.Rz HO_7.out))) (below_size bz));have n3_ := Aside0.mk (below_step bz hb);clear HO_5;clear HO_7;clear HB;have HO_5 := n0_;have HO_7 := n1_;have HO1228 := n2_;have HB := n3_;clear n0_ n1_ n2_ n3_;(try clear hb);(try clear hb2);(try clear hk);(try clear hi);(try clear ho0))|((with_reducible refine gate_callee (f := 52) rfl ?_);refine goesL_ (some 77) rfl rfl Try.func52 (by kernel_rfl) rfl #[.slice A1 l1.length c1] rfl az ?_;(with_reducible refine (spec_DrawOrdStep.calls kj8 _ _ l1 t1229 t1230 _ ?side1 ?side2 A27.out).mono ?_);(case side1 => exact Kd.Cz (Kd.C_below HR1.out HB.out));(case side2 => exact HC1.out);rintro e w32 ⟨v1231,rfl,ho0,hb⟩;refine ⟨_,rfl,?_⟩;have n0_ := Aside0.mk (Kd.R_elder' (Kd.Rz HO_5.out) (Kd.R_base ho0) hb);have n1_ := Aside0.mk (Kd.R_elder' (Kd.Rz HO_7.out) (Kd.R_base ho0) hb);have n2_ := Aside0.mk (Kd.R_elder' (Kd.Rz HO1228.out) (Kd.R_base ho0) hb);have n3_ := Aside0.mk (Kd.R_lower (Kd.R_new' (Kd.R_new' (Kd.R_new' ho0 (Kd.R_lt (Kd.Rz HO_5.out))) (Kd.R_lt (Kd.Rz HO_7.out))) (Kd.R_lt (Kd.Rz HO1228.out))) (below_size bz));have n4_ := Aside0.mk (below_step bz hb);clear HO_5;clear HO_7;clear HO1228;clear HB;have HO_5 := n0_;have HO_7 := n1_;have HO1228 := n2_;have HO1232 := n3_;have HB := n4_;clear n0_ n1_ n2_ n3_ n4_;(try clear hb);(try clear hb2);(try clear hk);(try clear hi);(try clear ho0);obtain ⟨Ao33,co33,eo33⟩ := Kd.R_slice HO1232.out;subst eo33)|((with_reducible refine gate_callee (f := 34) rfl ?_);refine goesL_ (some 81) rfl rfl Try.func34 (by kernel_rfl) rfl #[.slice Ao33 t1229.length co33] rfl az ?_;(with_reducible refine (impl_OrdMost.calls kj8 _ _ t1229 t1233 _ ?side1 ?side2 A28.out).mono ?_);(case side1 => exact Kd.Cz (Kd.R_reads' HO1232.out).2.2);(case side2 => exact (Kd.R_reads' HO1232.out).2.1);rintro e w34 ⟨rfl,hb⟩;refine ⟨_,rfl,?_⟩;have n0_ := Aside0.mk (Kd.R_below (Kd.Rz HO_5.out) hb);have n1_ := Aside0.mk (Kd.R_below (Kd.Rz HO_7.out) hb);have n2_ := Aside0.mk (Kd.R_below (Kd.Rz HO1228.out) hb);have n3_ := Aside0.mk (Kd.R_below (Kd.Rz HO1232.out) hb);have n4_ := Aside0.mk (below_step bz hb);clear HO_5;clear HO_7;clear HO1228;clear HO1232;clear HB;have HO_5 := n0_;have HO_7 := n1_;have HO1228 := n2_;have HO1232 := n3_;have HB := n4_;clear n0_ n1_ n2_ n3_ n4_;(try clear hb);(try clear hb2);(try clear hk);(try clear hi)))
         (try simp only [Act.put,List.setIfInBounds_toArray,List.set_cons_zero,List.set_cons_succ])
         go_cut [17] (fun v17 wc => ∃ (kq : Nat) (x17_28 : Bool),v17 = .bool x17_28 ∧ Aside0 (laws_FnOrdStep.j2 kq t1209 t1213 t1224 t1225 t1226 t1229 x17_28 = some r) ∧ Aside0 (kq ≤ kj8) ∧ Aside0 (Kd.R (Kd.int .i64) 3 wc w.heap.size (fun k_ => some k_ ≠ (v1215 : Value).ownBlock ∧ some k_ ≠ (v1227 : Value).ownBlock ∧ some k_ ≠ ((.slice Ao33 t1229.length co33) : Value).ownBlock) (.slice Ao11 t1209.length co11) t1209) ∧ Aside0 (Kd.R (Kd.int .i64) 3 wc w.heap.size (fun k_ => some k_ ≠ ((.slice Ao11 t1209.length co11) : Value).ownBlock ∧ some k_ ≠ (v1227 : Value).ownBlock ∧ some k_ ≠ ((.slice Ao33 t1229.length co33) : Value).ownBlock) v1215 t1213) ∧ Aside0 (Kd.R (Kd.int .i64) 3 wc w.heap.size (fun k_ => some k_ ≠ ((.slice Ao11 t1209.length co11) : Value).ownBlock ∧ some k_ ≠ (v1215 : Value).ownBlock ∧ some k_ ≠ ((.slice Ao33 t1229.length co33) : Value).ownBlock) v1227 t1225) ∧ Aside0 (Kd.R (Kd.int .i64) 3 wc w.heap.size (fun k_ => some k_ ≠ ((.slice Ao11 t1209.length co11) : Value).ownBlock ∧ some k_ ≠ (v1215 : Value).ownBlock ∧ some k_ ≠ (v1227 : Value).ownBlock) (.slice Ao33 t1229.length co33) t1229) ∧ Aside0 (Below w.heap.size w wc))
         case first =>
          have H := HC29.out
          clear HC29
          replace H := Option.bind_eq_some_iff.mp H
          obtain ⟨t1234,A350,H⟩ := H
          replace H : (if t1234 = true then (if t1224 = 2 then (if t1233 < t1210 then ((impl_OrdCompare.f kj8 t1229 t1209).bind fun t1235 => (laws_FnOrdStep.j2 kj8 t1209 t1213 t1224 t1225 t1226 t1229 (t1235 == (-1)))) else (laws_FnOrdStep.j2 kj8 t1209 t1213 t1224 t1225 t1226 t1229 false)) else (laws_FnOrdStep.j2 kj8 t1209 t1213 t1224 t1225 t1226 t1229 false)) else (laws_FnOrdStep.j2 kj8 t1209 t1213 t1224 t1225 t1226 t1229 false)) = some r := H
          have A35 := Aside0.mk A350
          clear A350
          by_cases c36 : t1234 = true
          ·subst c36
           have H1 : (if t1224 = 2 then (if t1233 < t1210 then ((impl_OrdCompare.f kj8 t1229 t1209).bind fun t1235 => (laws_FnOrdStep.j2 kj8 t1209 t1213 t1224 t1225 t1226 t1229 (t1235 == (-1)))) else (laws_FnOrdStep.j2 kj8 t1209 t1213 t1224 t1225 t1226 t1229 false)) else (laws_FnOrdStep.j2 kj8 t1209 t1213 t1224 t1225 t1226 t1229 false)) = some r := by rw [if_pos rfl] at H;exact H
           clear H
           have H := H1
           clear H1
           by_cases c37 : t1224 = 2
           ·rw [if_pos c37] at H
            have c37b0 : (t1224 == 2) = true := beq_iff_eq.mpr c37
            have c37b1 : (t1224 != 2) = false := bne_eq_false_iff_eq.mpr c37
            clear c37
            (first|rw [c37b0]|(simp only [i64_w,i32_w];rw [c37b0])|skip)
            by_cases c38 : t1233 < t1210
            ·rw [if_pos c38] at H
             have c38b0 : decide (t1233 < t1210) = true := decide_eq_true c38
             clear c38
             replace H := Option.bind_eq_some_iff.mp H
             obtain ⟨t1235,A390,H⟩ := H
             replace H : (laws_FnOrdStep.j2 kj8 t1209 t1213 t1224 t1225 t1226 t1229 (t1235 == (-1))) = some r := H
             have A39 := Aside0.mk A390
             clear A390
             have H' := Aside0.mk H
             clear H
             go_wp2_with (first|((with_reducible refine gate_callee (f := 24) rfl ?_);refine goesL_ (some 83) rfl rfl Try.func24 (by kernel_rfl) rfl #[.slice Ao33 t1229.length co33] rfl az ?_;(with_reducible refine (spec_OrdValid.calls kj8 _ _ t1229 true _ ?side1 ?side2 A35.out).mono ?_);(case side1 => exact Kd.Cz (Kd.R_reads' HO1232.out).2.2);(case side2 => exact (Kd.R_reads' HO1232.out).2.1);rintro e w40 ⟨rfl,hb⟩;refine ⟨_,rfl,?_⟩;have n0_ := Aside0.mk (Kd.R_below (Kd.Rz HO_5.out) hb);have n1_ := Aside0.mk (Kd.R_below (Kd.Rz HO_7.out) hb);have n2_ := Aside0.mk (Kd.R_below (Kd.Rz HO1228.out) hb);have n3_ := Aside0.mk (Kd.R_below (Kd.Rz HO1232.out) hb);have n4_ := Aside0.mk (below_step bz hb);clear HO_5;clear HO_7;clear HO1228;clear HO1232;clear HB;have HO_5 := n0_;have HO_7 := n1_;have HO1228 := n2_;have HO1232 := n3_;have HB := n4_;clear n0_ n1_ n2_ n3_ n4_;(try clear hb);(try clear hb2);(try clear hk);(try clear hi))|(go_at_call 28;(with_reducible refine (impl_OrdCompare.calls kj8 _ _ t1229 _ _ t1209 t1235 _ ?side1 ?side2 ?side3 ?side4 A39.out).mono ?_);(case side1 => exact Kd.Cz (Kd.R_reads' HO1232.out).2.2);(case side2 => exact (Kd.R_reads' HO1232.out).2.1);(case side3 => exact Kd.Cz (Kd.R_reads' HO_5.out).2.2);(case side4 => exact (Kd.R_reads' HO_5.out).2.1);rintro e w41 ⟨rfl,hb⟩;have n0_ := Aside0.mk (Kd.R_below (Kd.Rz HO_5.out) hb);have n1_ := Aside0.mk (Kd.R_below (Kd.Rz HO_7.out) hb);have n2_ := Aside0.mk (Kd.R_below (Kd.Rz HO1228.out) hb);have n3_ := Aside0.mk (Kd.R_below (Kd.Rz HO1232.out) hb);have n4_ := Aside0.mk (below_step bz hb);clear HO_5;clear HO_7;clear HO1228;clear HO1232;clear HB;have HO_5 := n0_;have HO_7 := n1_;have HO1228 := n2_;have HO1232 := n3_;have HB := n4_;clear n0_ n1_ n2_ n3_ n4_;(try clear hb);(try clear hb2);(try clear hk);(try clear hi)))
             go_meet
             case rel => exact ⟨_,((t1235 == (-1))),(by first|rfl|(simp;done)|(simp [*];done)),H',⟨by have := HJ2.out;have := HJ8.out;first|omega|exact Nat.le_refl _⟩,⟨by (with_reducible repeat (first|apply Kd.R_alloc|apply Kd.R_drewN|apply Kd.R_drew));exact Kd.R_mono HO_5.out (fun _ hk => ⟨hk.1.1,⟨hk.1.2,hk.2⟩⟩)⟩,⟨by (with_reducible repeat (first|apply Kd.R_alloc|apply Kd.R_drewN|apply Kd.R_drew));exact Kd.R_mono HO_7.out (fun _ hk => ⟨hk.1.1,⟨hk.1.2,hk.2⟩⟩)⟩,⟨by (with_reducible repeat (first|apply Kd.R_alloc|apply Kd.R_drewN|apply Kd.R_drew));exact Kd.R_mono HO1228.out (fun _ hk => ⟨hk.1.1.2,⟨hk.1.2,hk.2⟩⟩)⟩,⟨by (with_reducible repeat (first|apply Kd.R_alloc|apply Kd.R_drewN|apply Kd.R_drew));exact Kd.R_mono HO1232.out (fun _ hk => ⟨hk.1.1.2,⟨hk.1.2,hk.2⟩⟩)⟩,⟨bz⟩⟩
            ·rw [if_neg c38] at H
             have c38b0 : decide (t1233 < t1210) = false := decide_eq_false c38
             clear c38
             have H' := Aside0.mk H
             clear H
             go_wp2_with (first|((with_reducible refine gate_callee (f := 24) rfl ?_);refine goesL_ (some 83) rfl rfl Try.func24 (by kernel_rfl) rfl #[.slice Ao33 t1229.length co33] rfl az ?_;(with_reducible refine (spec_OrdValid.calls kj8 _ _ t1229 true _ ?side1 ?side2 A35.out).mono ?_);(case side1 => exact Kd.Cz (Kd.R_reads' HO1232.out).2.2);(case side2 => exact (Kd.R_reads' HO1232.out).2.1);rintro e w42 ⟨rfl,hb⟩;refine ⟨_,rfl,?_⟩;have n0_ := Aside0.mk (Kd.R_below (Kd.Rz HO_5.out) hb);have n1_ := Aside0.mk (Kd.R_below (Kd.Rz HO_7.out) hb);have n2_ := Aside0.mk (Kd.R_below (Kd.Rz HO1228.out) hb);have n3_ := Aside0.mk (Kd.R_below (Kd.Rz HO1232.out) hb);have n4_ := Aside0.mk (below_step bz hb);clear HO_5;clear HO_7;clear HO1228;clear HO1232;clear HB;have HO_5 := n0_;have HO_7 := n1_;have HO1228 := n2_;have HO1232 := n3_;have HB := n4_;clear n0_ n1_ n2_ n3_ n4_;(try clear hb);(try clear hb2);(try clear hk);(try clear hi)))
             go_meet
             case rel => exact ⟨_,(false),(by first|rfl|(simp;done)|(simp [*];done)),H',⟨by have := HJ2.out;have := HJ8.out;first|omega|exact Nat.le_refl _⟩,⟨by (with_reducible repeat (first|apply Kd.R_alloc|apply Kd.R_drewN|apply Kd.R_drew));exact Kd.R_mono HO_5.out (fun _ hk => ⟨hk.1.1,⟨hk.1.2,hk.2⟩⟩)⟩,⟨by (with_reducible repeat (first|apply Kd.R_alloc|apply Kd.R_drewN|apply Kd.R_drew));exact Kd.R_mono HO_7.out (fun _ hk => ⟨hk.1.1,⟨hk.1.2,hk.2⟩⟩)⟩,⟨by (with_reducible repeat (first|apply Kd.R_alloc|apply Kd.R_drewN|apply Kd.R_drew));exact Kd.R_mono HO1228.out (fun _ hk => ⟨hk.1.1.2,⟨hk.1.2,hk.2⟩⟩)⟩,⟨by (with_reducible repeat (first|apply Kd.R_alloc|apply Kd.R_drewN|apply Kd.R_drew));exact Kd.R_mono HO1232.out (fun _ hk => ⟨hk.1.1.2,⟨hk.1.2,hk.2⟩⟩)⟩,⟨bz⟩⟩
           ·rw [if_neg c37] at H
            have c37b0 : (t1224 == 2) = false := beq_eq_false_iff_ne.mpr c37
            have c37b1 : (t1224 != 2) = true := bne_iff_ne.mpr c37
            (first|rw [c37b0]|(simp only [i64_w,i32_w];rw [c37b0])|skip)
            have H' := Aside0.mk H
            clear H
            go_wp2_with (first|((with_reducible refine gate_callee (f := 24) rfl ?_);refine goesL_ (some 83) rfl rfl Try.func24 (by kernel_rfl) rfl #[.slice Ao33 t1229.length co33] rfl az ?_;(with_reducible refine (spec_OrdValid.calls kj8 _ _ t1229 true _ ?side1 ?side2 A35.out).mono ?_);(case side1 => exact Kd.Cz (Kd.R_reads' HO1232.out).2.2);(case side2 => exact (Kd.R_reads' HO1232.out).2.1);rintro e w43 ⟨rfl,hb⟩;refine ⟨_,rfl,?_⟩;have n0_ := Aside0.mk (Kd.R_below (Kd.Rz HO_5.out) hb);have n1_ := Aside0.mk (Kd.R_below (Kd.Rz HO_7.out) hb);have n2_ := Aside0.mk (Kd.R_below (Kd.Rz HO1228.out) hb);have n3_ := Aside0.mk (Kd.R_below (Kd.Rz HO1232.out) hb);have n4_ := Aside0.mk (below_step bz hb);clear HO_5;clear HO_7;clear HO1228;clear HO1232;clear HB;have HO_5 := n0_;have HO_7 := n1_;have HO1228 := n2_;have HO1232 := n3_;have HB := n4_;clear n0_ n1_ n2_ n3_ n4_;(try clear hb);(try clear hb2);(try clear hk);(try clear hi)))
            go_meet
            case rel => exact ⟨_,(false),(by first|rfl|(simp;done)|(simp [*];done)),H',⟨by have := HJ2.out;have := HJ8.out;first|omega|exact Nat.le_refl _⟩,⟨by (with_reducible repeat (first|apply Kd.R_alloc|apply Kd.R_drewN|apply Kd.R_drew));exact Kd.R_mono HO_5.out (fun _ hk => ⟨hk.1.1,⟨hk.1.2,hk.2⟩⟩)⟩,⟨by (with_reducible repeat (first|apply Kd.R_alloc|apply Kd.R_drewN|apply Kd.R_drew));exact Kd.R_mono HO_7.out (fun _ hk => ⟨hk.1.1,⟨hk.1.2,hk.2⟩⟩)⟩,⟨by (with_reducible repeat (first|apply Kd.R_alloc|apply Kd.R_drewN|apply Kd.R_drew));exact Kd.R_mono HO1228.out (fun _ hk => ⟨hk.1.1.2,⟨hk.1.2,hk.2⟩⟩)⟩,⟨by (with_reducible repeat (first|apply Kd.R_alloc|apply Kd.R_drewN|apply Kd.R_drew));exact Kd.R_mono HO1232.out (fun _ hk => ⟨hk.1.1.2,⟨hk.1.2,hk.2⟩⟩)⟩,⟨bz⟩⟩
          ·replace c36 := Bool.eq_false_iff.mpr c36
           subst c36
           have H1 : (laws_FnOrdStep.j2 kj8 t1209 t1213 t1224 t1225 t1226 t1229 false) = some r := by rw [if_neg (show ¬ (false = true) by decide)] at H;exact H
           clear H
           have H := H1
           clear H1
           have H' := Aside0.mk H
           clear H
           go_wp2_with (first|((with_reducible refine gate_callee (f := 24) rfl ?_);refine goesL_ (some 83) rfl rfl Try.func24 (by kernel_rfl) rfl #[.slice Ao33 t1229.length co33] rfl az ?_;(with_reducible refine (spec_OrdValid.calls kj8 _ _ t1229 false _ ?side1 ?side2 A35.out).mono ?_);(case side1 => exact Kd.Cz (Kd.R_reads' HO1232.out).2.2);(case side2 => exact (Kd.R_reads' HO1232.out).2.1);rintro e w44 ⟨rfl,hb⟩;refine ⟨_,rfl,?_⟩;have n0_ := Aside0.mk (Kd.R_below (Kd.Rz HO_5.out) hb);have n1_ := Aside0.mk (Kd.R_below (Kd.Rz HO_7.out) hb);have n2_ := Aside0.mk (Kd.R_below (Kd.Rz HO1228.out) hb);have n3_ := Aside0.mk (Kd.R_below (Kd.Rz HO1232.out) hb);have n4_ := Aside0.mk (below_step bz hb);clear HO_5;clear HO_7;clear HO1228;clear HO1232;clear HB;have HO_5 := n0_;have HO_7 := n1_;have HO1228 := n2_;have HO1232 := n3_;have HB := n4_;clear n0_ n1_ n2_ n3_ n4_;(try clear hb);(try clear hb2);(try clear hk);(try clear hi)))
           go_meet
           case rel => exact ⟨_,(false),(by first|rfl|(simp;done)|(simp [*];done)),H',⟨by have := HJ2.out;have := HJ8.out;first|omega|exact Nat.le_refl _⟩,⟨by (with_reducible repeat (first|apply Kd.R_alloc|apply Kd.R_drewN|apply Kd.R_drew));exact Kd.R_mono HO_5.out (fun _ hk => ⟨hk.1.1,⟨hk.1.2,hk.2⟩⟩)⟩,⟨by (with_reducible repeat (first|apply Kd.R_alloc|apply Kd.R_drewN|apply Kd.R_drew));exact Kd.R_mono HO_7.out (fun _ hk => ⟨hk.1.1,⟨hk.1.2,hk.2⟩⟩)⟩,⟨by (with_reducible repeat (first|apply Kd.R_alloc|apply Kd.R_drewN|apply Kd.R_drew));exact Kd.R_mono HO1228.out (fun _ hk => ⟨hk.1.1.2,⟨hk.1.2,hk.2⟩⟩)⟩,⟨by (with_reducible repeat (first|apply Kd.R_alloc|apply Kd.R_drewN|apply Kd.R_drew));exact Kd.R_mono HO1232.out (fun _ hk => ⟨hk.1.1.2,⟨hk.1.2,hk.2⟩⟩)⟩,⟨bz⟩⟩
         case rest =>
          clear HC29
          try clear c1
          try clear c2
          try clear p2
          try clear c3
          try clear c4
          try clear c4b0
          try clear c4b1
          try clear c5
          try clear p6
          try clear c14
          try clear c15
          try clear c17
          try clear c20
          try clear c21
          try clear c22
          try clear c22b0
          try clear c22b1
          try clear c24
          try clear c34
          try clear c36
          try clear c37
          try clear c37b0
          try clear c37b1
          try clear c38
          try clear c38b0
          try clear p2
          obtain ⟨kq,x17_28,rfl,HA,HJ28,HO_5,HO_7,HO_12,HO_14,HB⟩ := hcut
          cases kq with
          | zero => exact absurd HA.out (by simp [laws_FnOrdStep.j2])
          | succ kj28 =>
           have H := HA.out
           clear HA
           simp only [laws_FnOrdStep.j2] at H
           replace H := Option.bind_eq_some_iff.mp H
           obtain ⟨t1236,A450,H⟩ := H
           replace H : (if t1236 = true then ((impl_OrdCompare.f kj28 t1213 t1209).bind fun t1237 => (if t1237 = (-1) then (if t1224 = 2 then (if t1226 = true then ((impl_OrdCompare.f kj28 t1213 t1225).bind fun t1238 => (if t1238 = (-1) then (if x17_28 = true then ((impl_OrdCompare.f kj28 t1229 t1213).bind fun t1239 => (some (t1239 == (-1)))) else (some true)) else (some false))) else (if x17_28 = true then ((impl_OrdCompare.f kj28 t1229 t1213).bind fun t1240 => (some (t1240 == (-1)))) else (some true))) else (if x17_28 = true then ((impl_OrdCompare.f kj28 t1229 t1213).bind fun t1241 => (some (t1241 == (-1)))) else (some true))) else (some false))) else (some false)) = some r := H
           have A45 := Aside0.mk A450
           clear A450
           by_cases c46 : t1236 = true
           ·subst c46
            have H1 : ((impl_OrdCompare.f kj28 t1213 t1209).bind fun t1237 => (if t1237 = (-1) then (if t1224 = 2 then (if t1226 = true then ((impl_OrdCompare.f kj28 t1213 t1225).bind fun t1238 => (if t1238 = (-1) then (if x17_28 = true then ((impl_OrdCompare.f kj28 t1229 t1213).bind fun t1239 => (some (t1239 == (-1)))) else (some true)) else (some false))) else (if x17_28 = true then ((impl_OrdCompare.f kj28 t1229 t1213).bind fun t1240 => (some (t1240 == (-1)))) else (some true))) else (if x17_28 = true then ((impl_OrdCompare.f kj28 t1229 t1213).bind fun t1241 => (some (t1241 == (-1)))) else (some true))) else (some false))) = some r := by rw [if_pos rfl] at H;exact H
            clear H
            have H := H1
            clear H1
            replace H := Option.bind_eq_some_iff.mp H
            obtain ⟨t1237,A470,H⟩ := H
            replace H : (if t1237 = (-1) then (if t1224 = 2 then (if t1226 = true then ((impl_OrdCompare.f kj28 t1213 t1225).bind fun t1238 => (if t1238 = (-1) then (if x17_28 = true then ((impl_OrdCompare.f kj28 t1229 t1213).bind fun t1239 => (some (t1239 == (-1)))) else (some true)) else (some false))) else (if x17_28 = true then ((impl_OrdCompare.f kj28 t1229 t1213).bind fun t1240 => (some (t1240 == (-1)))) else (some true))) else (if x17_28 = true then ((impl_OrdCompare.f kj28 t1229 t1213).bind fun t1241 => (some (t1241 == (-1)))) else (some true))) else (some false)) = some r := H
            have A47 := Aside0.mk A470
            clear A470
            by_cases c48 : t1237 = (-1)
            ·rw [if_pos c48] at H
             have c48b0 : (t1237 == (-1)) = true := beq_iff_eq.mpr c48
             have c48b1 : (t1237 != (-1)) = false := bne_eq_false_iff_eq.mpr c48
             clear c48
             by_cases c49 : t1224 = 2
             ·rw [if_pos c49] at H
              have c49b0 : (t1224 == 2) = true := beq_iff_eq.mpr c49
              have c49b1 : (t1224 != 2) = false := bne_eq_false_iff_eq.mpr c49
              clear c49
              by_cases c50 : t1226 = true
              ·subst c50
               have H1 : ((impl_OrdCompare.f kj28 t1213 t1225).bind fun t1238 => (if t1238 = (-1) then (if x17_28 = true then ((impl_OrdCompare.f kj28 t1229 t1213).bind fun t1239 => (some (t1239 == (-1)))) else (some true)) else (some false))) = some r := by rw [if_pos rfl] at H;exact H
               clear H
               have H := H1
               clear H1
               replace H := Option.bind_eq_some_iff.mp H
               obtain ⟨t1238,A510,H⟩ := H
               replace H : (if t1238 = (-1) then (if x17_28 = true then ((impl_OrdCompare.f kj28 t1229 t1213).bind fun t1239 => (some (t1239 == (-1)))) else (some true)) else (some false)) = some r := H
               have A51 := Aside0.mk A510
               clear A510
               by_cases c52 : t1238 = (-1)
               ·rw [if_pos c52] at H
                have c52b0 : (t1238 == (-1)) = true := beq_iff_eq.mpr c52
                have c52b1 : (t1238 != (-1)) = false := bne_eq_false_iff_eq.mpr c52
                clear c52
                by_cases c53 : x17_28 = true
                ·subst c53
                 have H1 : ((impl_OrdCompare.f kj28 t1229 t1213).bind fun t1239 => (some (t1239 == (-1)))) = some r := by rw [if_pos rfl] at H;exact H
                 clear H
                 have H := H1
                 clear H1
                 replace H := Option.bind_eq_some_iff.mp H
                 obtain ⟨t1239,A540,H⟩ := H
                 replace H : (some (t1239 == (-1))) = some r := H
                 have A54 := Aside0.mk A540
                 clear A540
                 obtain rfl := Option.some.inj H
                 obtain ⟨Ao55,co55,eo55⟩ := Kd.R_slice HO_7.out
                 subst eo55
                 go_wp2_with (first|((with_reducible refine gate_callee (f := 21) rfl ?_);refine goesL_ (some 100) rfl rfl Try.func21 (by kernel_rfl) rfl #[.slice Ao55 t1213.length co55] rfl az ?_;(with_reducible refine (impl_OrdValid.calls kj28 _ _ t1213 true _ ?side1 ?side2 A45.out).mono ?_);(case side1 => exact Kd.Cz (Kd.R_reads' HO_7.out).2.2);(case side2 => exact (Kd.R_reads' HO_7.out).2.1);rintro e w56 ⟨rfl,hb⟩;refine ⟨_,rfl,?_⟩;have n0_ := Aside0.mk (Kd.R_below (Kd.Rz HO_5.out) hb);have n1_ := Aside0.mk (Kd.R_below (Kd.Rz HO_7.out) hb);have n2_ := Aside0.mk (Kd.R_below (Kd.Rz HO_12.out) hb);have n3_ := Aside0.mk (Kd.R_below (Kd.Rz HO_14.out) hb);have n4_ := Aside0.mk (below_step bz hb);clear HO_5;clear HO_7;clear HO_12;clear HO_14;clear HB;have HO_5 := n0_;have HO_7 := n1_;have HO_12 := n2_;have HO_14 := n3_;have HB := n4_;clear n0_ n1_ n2_ n3_ n4_;(try clear hb);(try clear hb2);(try clear hk);(try clear hi))|(go_at_call 28;(with_reducible refine (impl_OrdCompare.calls kj28 _ _ t1213 _ _ t1209 t1237 _ ?side1 ?side2 ?side3 ?side4 A47.out).mono ?_);(case side1 => exact Kd.Cz (Kd.R_reads' HO_7.out).2.2);(case side2 => exact (Kd.R_reads' HO_7.out).2.1);(case side3 => exact Kd.Cz (Kd.R_reads' HO_5.out).2.2);(case side4 => exact (Kd.R_reads' HO_5.out).2.1);rintro e w57 ⟨rfl,hb⟩;have n0_ := Aside0.mk (Kd.R_below (Kd.Rz HO_5.out) hb);have n1_ := Aside0.mk (Kd.R_below (Kd.Rz HO_7.out) hb);have n2_ := Aside0.mk (Kd.R_below (Kd.Rz HO_12.out) hb);have n3_ := Aside0.mk (Kd.R_below (Kd.Rz HO_14.out) hb);have n4_ := Aside0.mk (below_step bz hb);clear HO_5;clear HO_7;clear HO_12;clear HO_14;clear HB;have HO_5 := n0_;have HO_7 := n1_;have HO_12 := n2_;have HO_14 := n3_;have HB := n4_;clear n0_ n1_ n2_ n3_ n4_;(try clear hb);(try clear hb2);(try clear hk);(try clear hi);obtain ⟨Ao58,co58,eo58⟩ := Kd.R_slice HO_12.out;subst eo58)|(go_at_call 28;(with_reducible refine (impl_OrdCompare.calls kj28 _ _ t1213 _ _ t1225 t1238 _ ?side1 ?side2 ?side3 ?side4 A51.out).mono ?_);(case side1 => exact Kd.Cz (Kd.R_reads' HO_7.out).2.2);(case side2 => exact (Kd.R_reads' HO_7.out).2.1);(case side3 => exact Kd.Cz (Kd.R_reads' HO_12.out).2.2);(case side4 => exact (Kd.R_reads' HO_12.out).2.1);rintro e w59 ⟨rfl,hb⟩;have n0_ := Aside0.mk (Kd.R_below (Kd.Rz HO_5.out) hb);have n1_ := Aside0.mk (Kd.R_below (Kd.Rz HO_7.out) hb);have n2_ := Aside0.mk (Kd.R_below (Kd.Rz HO_12.out) hb);have n3_ := Aside0.mk (Kd.R_below (Kd.Rz HO_14.out) hb);have n4_ := Aside0.mk (below_step bz hb);clear HO_5;clear HO_7;clear HO_12;clear HO_14;clear HB;have HO_5 := n0_;have HO_7 := n1_;have HO_12 := n2_;have HO_14 := n3_;have HB := n4_;clear n0_ n1_ n2_ n3_ n4_;(try clear hb);(try clear hb2);(try clear hk);(try clear hi))|(go_at_call 28;(with_reducible refine (impl_OrdCompare.calls kj28 _ _ t1229 _ _ t1213 t1239 _ ?side1 ?side2 ?side3 ?side4 A54.out).mono ?_);(case side1 => exact Kd.Cz (Kd.R_reads' HO_14.out).2.2);(case side2 => exact (Kd.R_reads' HO_14.out).2.1);(case side3 => exact Kd.Cz (Kd.R_reads' HO_7.out).2.2);(case side4 => exact (Kd.R_reads' HO_7.out).2.1);rintro e w60 ⟨rfl,hb⟩;have n0_ := Aside0.mk (Kd.R_below (Kd.Rz HO_5.out) hb);have n1_ := Aside0.mk (Kd.R_below (Kd.Rz HO_7.out) hb);have n2_ := Aside0.mk (Kd.R_below (Kd.Rz HO_12.out) hb);have n3_ := Aside0.mk (Kd.R_below (Kd.Rz HO_14.out) hb);have n4_ := Aside0.mk (below_step bz hb);clear HO_5;clear HO_7;clear HO_12;clear HO_14;clear HB;have HO_5 := n0_;have HO_7 := n1_;have HO_12 := n2_;have HO_14 := n3_;have HB := n4_;clear n0_ n1_ n2_ n3_ n4_;(try clear hb);(try clear hb2);(try clear hk);(try clear hi)))
                 go_ret
                 exact ⟨by first|rfl|(simp [errW_none,errW_some] <;> rfl)|(simp [*,errW_none,errW_some] <;> rfl),bz⟩
                ·replace c53 := Bool.eq_false_iff.mpr c53
                 subst c53
                 have H1 : (some true) = some r := by rw [if_neg (show ¬ (false = true) by decide)] at H;exact H
                 clear H
                 have H := H1
                 clear H1
                 obtain rfl := Option.some.inj H
                 obtain ⟨Ao61,co61,eo61⟩ := Kd.R_slice HO_7.out
                 subst eo61
                 go_wp2_with (first|((with_reducible refine gate_callee (f := 21) rfl ?_);refine goesL_ (some 100) rfl rfl Try.func21 (by kernel_rfl) rfl #[.slice Ao61 t1213.length co61] rfl az ?_;(with_reducible refine (impl_OrdValid.calls kj28 _ _ t1213 true _ ?side1 ?side2 A45.out).mono ?_);(case side1 => exact Kd.Cz (Kd.R_reads' HO_7.out).2.2);(case side2 => exact (Kd.R_reads' HO_7.out).2.1);rintro e w62 ⟨rfl,hb⟩;refine ⟨_,rfl,?_⟩;have n0_ := Aside0.mk (Kd.R_below (Kd.Rz HO_5.out) hb);have n1_ := Aside0.mk (Kd.R_below (Kd.Rz HO_7.out) hb);have n2_ := Aside0.mk (Kd.R_below (Kd.Rz HO_12.out) hb);have n3_ := Aside0.mk (Kd.R_below (Kd.Rz HO_14.out) hb);have n4_ := Aside0.mk (below_step bz hb);clear HO_5;clear HO_7;clear HO_12;clear HO_14;clear HB;have HO_5 := n0_;have HO_7 := n1_;have HO_12 := n2_;have HO_14 := n3_;have HB := n4_;clear n0_ n1_ n2_ n3_ n4_;(try clear hb);(try clear hb2);(try clear hk);(try clear hi))|(go_at_call 28;(with_reducible refine (impl_OrdCompare.calls kj28 _ _ t1213 _ _ t1209 t1237 _ ?side1 ?side2 ?side3 ?side4 A47.out).mono ?_);(case side1 => exact Kd.Cz (Kd.R_reads' HO_7.out).2.2);(case side2 => exact (Kd.R_reads' HO_7.out).2.1);(case side3 => exact Kd.Cz (Kd.R_reads' HO_5.out).2.2);(case side4 => exact (Kd.R_reads' HO_5.out).2.1);rintro e w63 ⟨rfl,hb⟩;have n0_ := Aside0.mk (Kd.R_below (Kd.Rz HO_5.out) hb);have n1_ := Aside0.mk (Kd.R_below (Kd.Rz HO_7.out) hb);have n2_ := Aside0.mk (Kd.R_below (Kd.Rz HO_12.out) hb);have n3_ := Aside0.mk (Kd.R_below (Kd.Rz HO_14.out) hb);have n4_ := Aside0.mk (below_step bz hb);clear HO_5;clear HO_7;clear HO_12;clear HO_14;clear HB;have HO_5 := n0_;have HO_7 := n1_;have HO_12 := n2_;have HO_14 := n3_;have HB := n4_;clear n0_ n1_ n2_ n3_ n4_;(try clear hb);(try clear hb2);(try clear hk);(try clear hi);obtain ⟨Ao64,co64,eo64⟩ := Kd.R_slice HO_12.out;subst eo64)|(go_at_call 28;(with_reducible refine (impl_OrdCompare.calls kj28 _ _ t1213 _ _ t1225 t1238 _ ?side1 ?side2 ?side3 ?side4 A51.out).mono ?_);(case side1 => exact Kd.Cz (Kd.R_reads' HO_7.out).2.2);(case side2 => exact (Kd.R_reads' HO_7.out).2.1);(case side3 => exact Kd.Cz (Kd.R_reads' HO_12.out).2.2);(case side4 => exact (Kd.R_reads' HO_12.out).2.1);rintro e w65 ⟨rfl,hb⟩;have n0_ := Aside0.mk (Kd.R_below (Kd.Rz HO_5.out) hb);have n1_ := Aside0.mk (Kd.R_below (Kd.Rz HO_7.out) hb);have n2_ := Aside0.mk (Kd.R_below (Kd.Rz HO_12.out) hb);have n3_ := Aside0.mk (Kd.R_below (Kd.Rz HO_14.out) hb);have n4_ := Aside0.mk (below_step bz hb);clear HO_5;clear HO_7;clear HO_12;clear HO_14;clear HB;have HO_5 := n0_;have HO_7 := n1_;have HO_12 := n2_;have HO_14 := n3_;have HB := n4_;clear n0_ n1_ n2_ n3_ n4_;(try clear hb);(try clear hb2);(try clear hk);(try clear hi)))
                 go_ret
                 exact ⟨by first|rfl|(simp [errW_none,errW_some] <;> rfl)|(simp [*,errW_none,errW_some] <;> rfl),bz⟩
               ·rw [if_neg c52] at H
                have c52b0 : (t1238 == (-1)) = false := beq_eq_false_iff_ne.mpr c52
                have c52b1 : (t1238 != (-1)) = true := bne_iff_ne.mpr c52
                obtain rfl := Option.some.inj H
                obtain ⟨Ao66,co66,eo66⟩ := Kd.R_slice HO_7.out
                subst eo66
                go_wp2_with (first|((with_reducible refine gate_callee (f := 21) rfl ?_);refine goesL_ (some 100) rfl rfl Try.func21 (by kernel_rfl) rfl #[.slice Ao66 t1213.length co66] rfl az ?_;(with_reducible refine (impl_OrdValid.calls kj28 _ _ t1213 true _ ?side1 ?side2 A45.out).mono ?_);(case side1 => exact Kd.Cz (Kd.R_reads' HO_7.out).2.2);(case side2 => exact (Kd.R_reads' HO_7.out).2.1);rintro e w67 ⟨rfl,hb⟩;refine ⟨_,rfl,?_⟩;have n0_ := Aside0.mk (Kd.R_below (Kd.Rz HO_5.out) hb);have n1_ := Aside0.mk (Kd.R_below (Kd.Rz HO_7.out) hb);have n2_ := Aside0.mk (Kd.R_below (Kd.Rz HO_12.out) hb);have n3_ := Aside0.mk (Kd.R_below (Kd.Rz HO_14.out) hb);have n4_ := Aside0.mk (below_step bz hb);clear HO_5;clear HO_7;clear HO_12;clear HO_14;clear HB;have HO_5 := n0_;have HO_7 := n1_;have HO_12 := n2_;have HO_14 := n3_;have HB := n4_;clear n0_ n1_ n2_ n3_ n4_;(try clear hb);(try clear hb2);(try clear hk);(try clear hi))|(go_at_call 28;(with_reducible refine (impl_OrdCompare.calls kj28 _ _ t1213 _ _ t1209 t1237 _ ?side1 ?side2 ?side3 ?side4 A47.out).mono ?_);(case side1 => exact Kd.Cz (Kd.R_reads' HO_7.out).2.2);(case side2 => exact (Kd.R_reads' HO_7.out).2.1);(case side3 => exact Kd.Cz (Kd.R_reads' HO_5.out).2.2);(case side4 => exact (Kd.R_reads' HO_5.out).2.1);rintro e w68 ⟨rfl,hb⟩;have n0_ := Aside0.mk (Kd.R_below (Kd.Rz HO_5.out) hb);have n1_ := Aside0.mk (Kd.R_below (Kd.Rz HO_7.out) hb);have n2_ := Aside0.mk (Kd.R_below (Kd.Rz HO_12.out) hb);have n3_ := Aside0.mk (Kd.R_below (Kd.Rz HO_14.out) hb);have n4_ := Aside0.mk (below_step bz hb);clear HO_5;clear HO_7;clear HO_12;clear HO_14;clear HB;have HO_5 := n0_;have HO_7 := n1_;have HO_12 := n2_;have HO_14 := n3_;have HB := n4_;clear n0_ n1_ n2_ n3_ n4_;(try clear hb);(try clear hb2);(try clear hk);(try clear hi);obtain ⟨Ao69,co69,eo69⟩ := Kd.R_slice HO_12.out;subst eo69)|(go_at_call 28;(with_reducible refine (impl_OrdCompare.calls kj28 _ _ t1213 _ _ t1225 t1238 _ ?side1 ?side2 ?side3 ?side4 A51.out).mono ?_);(case side1 => exact Kd.Cz (Kd.R_reads' HO_7.out).2.2);(case side2 => exact (Kd.R_reads' HO_7.out).2.1);(case side3 => exact Kd.Cz (Kd.R_reads' HO_12.out).2.2);(case side4 => exact (Kd.R_reads' HO_12.out).2.1);rintro e w70 ⟨rfl,hb⟩;have n0_ := Aside0.mk (Kd.R_below (Kd.Rz HO_5.out) hb);have n1_ := Aside0.mk (Kd.R_below (Kd.Rz HO_7.out) hb);have n2_ := Aside0.mk (Kd.R_below (Kd.Rz HO_12.out) hb);have n3_ := Aside0.mk (Kd.R_below (Kd.Rz HO_14.out) hb);have n4_ := Aside0.mk (below_step bz hb);clear HO_5;clear HO_7;clear HO_12;clear HO_14;clear HB;have HO_5 := n0_;have HO_7 := n1_;have HO_12 := n2_;have HO_14 := n3_;have HB := n4_;clear n0_ n1_ n2_ n3_ n4_;(try clear hb);(try clear hb2);(try clear hk);(try clear hi)))
                go_ret
                exact ⟨by first|rfl|(simp [errW_none,errW_some] <;> rfl)|(simp [*,errW_none,errW_some] <;> rfl),bz⟩
              ·replace c50 := Bool.eq_false_iff.mpr c50
               subst c50
               have H1 : (if x17_28 = true then ((impl_OrdCompare.f kj28 t1229 t1213).bind fun t1240 => (some (t1240 == (-1)))) else (some true)) = some r := by rw [if_neg (show ¬ (false = true) by decide)] at H;exact H
               clear H
               have H := H1
               clear H1
               by_cases c71 : x17_28 = true
               ·subst c71
                have H1 : ((impl_OrdCompare.f kj28 t1229 t1213).bind fun t1240 => (some (t1240 == (-1)))) = some r := by rw [if_pos rfl] at H;exact H
                clear H
                have H := H1
                clear H1
                replace H := Option.bind_eq_some_iff.mp H
                obtain ⟨t1240,A720,H⟩ := H
                replace H : (some (t1240 == (-1))) = some r := H
                have A72 := Aside0.mk A720
                clear A720
                obtain rfl := Option.some.inj H
                obtain ⟨Ao73,co73,eo73⟩ := Kd.R_slice HO_7.out
                subst eo73
                go_wp2_with (first|((with_reducible refine gate_callee (f := 21) rfl ?_);refine goesL_ (some 100) rfl rfl Try.func21 (by kernel_rfl) rfl #[.slice Ao73 t1213.length co73] rfl az ?_;(with_reducible refine (impl_OrdValid.calls kj28 _ _ t1213 true _ ?side1 ?side2 A45.out).mono ?_);(case side1 => exact Kd.Cz (Kd.R_reads' HO_7.out).2.2);(case side2 => exact (Kd.R_reads' HO_7.out).2.1);rintro e w74 ⟨rfl,hb⟩;refine ⟨_,rfl,?_⟩;have n0_ := Aside0.mk (Kd.R_below (Kd.Rz HO_5.out) hb);have n1_ := Aside0.mk (Kd.R_below (Kd.Rz HO_7.out) hb);have n2_ := Aside0.mk (Kd.R_below (Kd.Rz HO_12.out) hb);have n3_ := Aside0.mk (Kd.R_below (Kd.Rz HO_14.out) hb);have n4_ := Aside0.mk (below_step bz hb);clear HO_5;clear HO_7;clear HO_12;clear HO_14;clear HB;have HO_5 := n0_;have HO_7 := n1_;have HO_12 := n2_;have HO_14 := n3_;have HB := n4_;clear n0_ n1_ n2_ n3_ n4_;(try clear hb);(try clear hb2);(try clear hk);(try clear hi))|(go_at_call 28;(with_reducible refine (impl_OrdCompare.calls kj28 _ _ t1213 _ _ t1209 t1237 _ ?side1 ?side2 ?side3 ?side4 A47.out).mono ?_);(case side1 => exact Kd.Cz (Kd.R_reads' HO_7.out).2.2);(case side2 => exact (Kd.R_reads' HO_7.out).2.1);(case side3 => exact Kd.Cz (Kd.R_reads' HO_5.out).2.2);(case side4 => exact (Kd.R_reads' HO_5.out).2.1);rintro e w75 ⟨rfl,hb⟩;have n0_ := Aside0.mk (Kd.R_below (Kd.Rz HO_5.out) hb);have n1_ := Aside0.mk (Kd.R_below (Kd.Rz HO_7.out) hb);have n2_ := Aside0.mk (Kd.R_below (Kd.Rz HO_12.out) hb);have n3_ := Aside0.mk (Kd.R_below (Kd.Rz HO_14.out) hb);have n4_ := Aside0.mk (below_step bz hb);clear HO_5;clear HO_7;clear HO_12;clear HO_14;clear HB;have HO_5 := n0_;have HO_7 := n1_;have HO_12 := n2_;have HO_14 := n3_;have HB := n4_;clear n0_ n1_ n2_ n3_ n4_;(try clear hb);(try clear hb2);(try clear hk);(try clear hi))|(go_at_call 28;(with_reducible refine (impl_OrdCompare.calls kj28 _ _ t1229 _ _ t1213 t1240 _ ?side1 ?side2 ?side3 ?side4 A72.out).mono ?_);(case side1 => exact Kd.Cz (Kd.R_reads' HO_14.out).2.2);(case side2 => exact (Kd.R_reads' HO_14.out).2.1);(case side3 => exact Kd.Cz (Kd.R_reads' HO_7.out).2.2);(case side4 => exact (Kd.R_reads' HO_7.out).2.1);rintro e w76 ⟨rfl,hb⟩;have n0_ := Aside0.mk (Kd.R_below (Kd.Rz HO_5.out) hb);have n1_ := Aside0.mk (Kd.R_below (Kd.Rz HO_7.out) hb);have n2_ := Aside0.mk (Kd.R_below (Kd.Rz HO_12.out) hb);have n3_ := Aside0.mk (Kd.R_below (Kd.Rz HO_14.out) hb);have n4_ := Aside0.mk (below_step bz hb);clear HO_5;clear HO_7;clear HO_12;clear HO_14;clear HB;have HO_5 := n0_;have HO_7 := n1_;have HO_12 := n2_;have HO_14 := n3_;have HB := n4_;clear n0_ n1_ n2_ n3_ n4_;(try clear hb);(try clear hb2);(try clear hk);(try clear hi)))
                go_ret
                exact ⟨by first|rfl|(simp [errW_none,errW_some] <;> rfl)|(simp [*,errW_none,errW_some] <;> rfl),bz⟩
               ·replace c71 := Bool.eq_false_iff.mpr c71
                subst c71
                have H1 : (some true) = some r := by rw [if_neg (show ¬ (false = true) by decide)] at H;exact H
                clear H
                have H := H1
                clear H1
                obtain rfl := Option.some.inj H
                obtain ⟨Ao77,co77,eo77⟩ := Kd.R_slice HO_7.out
                subst eo77
                go_wp2_with (first|((with_reducible refine gate_callee (f := 21) rfl ?_);refine goesL_ (some 100) rfl rfl Try.func21 (by kernel_rfl) rfl #[.slice Ao77 t1213.length co77] rfl az ?_;(with_reducible refine (impl_OrdValid.calls kj28 _ _ t1213 true _ ?side1 ?side2 A45.out).mono ?_);(case side1 => exact Kd.Cz (Kd.R_reads' HO_7.out).2.2);(case side2 => exact (Kd.R_reads' HO_7.out).2.1);rintro e w78 ⟨rfl,hb⟩;refine ⟨_,rfl,?_⟩;have n0_ := Aside0.mk (Kd.R_below (Kd.Rz HO_5.out) hb);have n1_ := Aside0.mk (Kd.R_below (Kd.Rz HO_7.out) hb);have n2_ := Aside0.mk (Kd.R_below (Kd.Rz HO_12.out) hb);have n3_ := Aside0.mk (Kd.R_below (Kd.Rz HO_14.out) hb);have n4_ := Aside0.mk (below_step bz hb);clear HO_5;clear HO_7;clear HO_12;clear HO_14;clear HB;have HO_5 := n0_;have HO_7 := n1_;have HO_12 := n2_;have HO_14 := n3_;have HB := n4_;clear n0_ n1_ n2_ n3_ n4_;(try clear hb);(try clear hb2);(try clear hk);(try clear hi))|(go_at_call 28;(with_reducible refine (impl_OrdCompare.calls kj28 _ _ t1213 _ _ t1209 t1237 _ ?side1 ?side2 ?side3 ?side4 A47.out).mono ?_);(case side1 => exact Kd.Cz (Kd.R_reads' HO_7.out).2.2);(case side2 => exact (Kd.R_reads' HO_7.out).2.1);(case side3 => exact Kd.Cz (Kd.R_reads' HO_5.out).2.2);(case side4 => exact (Kd.R_reads' HO_5.out).2.1);rintro e w79 ⟨rfl,hb⟩;have n0_ := Aside0.mk (Kd.R_below (Kd.Rz HO_5.out) hb);have n1_ := Aside0.mk (Kd.R_below (Kd.Rz HO_7.out) hb);have n2_ := Aside0.mk (Kd.R_below (Kd.Rz HO_12.out) hb);have n3_ := Aside0.mk (Kd.R_below (Kd.Rz HO_14.out) hb);have n4_ := Aside0.mk (below_step bz hb);clear HO_5;clear HO_7;clear HO_12;clear HO_14;clear HB;have HO_5 := n0_;have HO_7 := n1_;have HO_12 := n2_;have HO_14 := n3_;have HB := n4_;clear n0_ n1_ n2_ n3_ n4_;(try clear hb);(try clear hb2);(try clear hk);(try clear hi)))
                go_ret
                exact ⟨by first|rfl|(simp [errW_none,errW_some] <;> rfl)|(simp [*,errW_none,errW_some] <;> rfl),bz⟩
             ·rw [if_neg c49] at H
              have c49b0 : (t1224 == 2) = false := beq_eq_false_iff_ne.mpr c49
              have c49b1 : (t1224 != 2) = true := bne_iff_ne.mpr c49
              by_cases c80 : x17_28 = true
              ·subst c80
               have H1 : ((impl_OrdCompare.f kj28 t1229 t1213).bind fun t1241 => (some (t1241 == (-1)))) = some r := by rw [if_pos rfl] at H;exact H
               clear H
               have H := H1
               clear H1
               replace H := Option.bind_eq_some_iff.mp H
               obtain ⟨t1241,A810,H⟩ := H
               replace H : (some (t1241 == (-1))) = some r := H
               have A81 := Aside0.mk A810
               clear A810
               obtain rfl := Option.some.inj H
               obtain ⟨Ao82,co82,eo82⟩ := Kd.R_slice HO_7.out
               subst eo82
               go_wp2_with (first|((with_reducible refine gate_callee (f := 21) rfl ?_);refine goesL_ (some 100) rfl rfl Try.func21 (by kernel_rfl) rfl #[.slice Ao82 t1213.length co82] rfl az ?_;(with_reducible refine (impl_OrdValid.calls kj28 _ _ t1213 true _ ?side1 ?side2 A45.out).mono ?_);(case side1 => exact Kd.Cz (Kd.R_reads' HO_7.out).2.2);(case side2 => exact (Kd.R_reads' HO_7.out).2.1);rintro e w83 ⟨rfl,hb⟩;refine ⟨_,rfl,?_⟩;have n0_ := Aside0.mk (Kd.R_below (Kd.Rz HO_5.out) hb);have n1_ := Aside0.mk (Kd.R_below (Kd.Rz HO_7.out) hb);have n2_ := Aside0.mk (Kd.R_below (Kd.Rz HO_12.out) hb);have n3_ := Aside0.mk (Kd.R_below (Kd.Rz HO_14.out) hb);have n4_ := Aside0.mk (below_step bz hb);clear HO_5;clear HO_7;clear HO_12;clear HO_14;clear HB;have HO_5 := n0_;have HO_7 := n1_;have HO_12 := n2_;have HO_14 := n3_;have HB := n4_;clear n0_ n1_ n2_ n3_ n4_;(try clear hb);(try clear hb2);(try clear hk);(try clear hi))|(go_at_call 28;(with_reducible refine (impl_OrdCompare.calls kj28 _ _ t1213 _ _ t1209 t1237 _ ?side1 ?side2 ?side3 ?side4 A47.out).mono ?_);(case side1 => exact Kd.Cz (Kd.R_reads' HO_7.out).2.2);(case side2 => exact (Kd.R_reads' HO_7.out).2.1);(case side3 => exact Kd.Cz (Kd.R_reads' HO_5.out).2.2);(case side4 => exact (Kd.R_reads' HO_5.out).2.1);rintro e w84 ⟨rfl,hb⟩;have n0_ := Aside0.mk (Kd.R_below (Kd.Rz HO_5.out) hb);have n1_ := Aside0.mk (Kd.R_below (Kd.Rz HO_7.out) hb);have n2_ := Aside0.mk (Kd.R_below (Kd.Rz HO_12.out) hb);have n3_ := Aside0.mk (Kd.R_below (Kd.Rz HO_14.out) hb);have n4_ := Aside0.mk (below_step bz hb);clear HO_5;clear HO_7;clear HO_12;clear HO_14;clear HB;have HO_5 := n0_;have HO_7 := n1_;have HO_12 := n2_;have HO_14 := n3_;have HB := n4_;clear n0_ n1_ n2_ n3_ n4_;(try clear hb);(try clear hb2);(try clear hk);(try clear hi))|(go_at_call 28;(with_reducible refine (impl_OrdCompare.calls kj28 _ _ t1229 _ _ t1213 t1241 _ ?side1 ?side2 ?side3 ?side4 A81.out).mono ?_);(case side1 => exact Kd.Cz (Kd.R_reads' HO_14.out).2.2);(case side2 => exact (Kd.R_reads' HO_14.out).2.1);(case side3 => exact Kd.Cz (Kd.R_reads' HO_7.out).2.2);(case side4 => exact (Kd.R_reads' HO_7.out).2.1);rintro e w85 ⟨rfl,hb⟩;have n0_ := Aside0.mk (Kd.R_below (Kd.Rz HO_5.out) hb);have n1_ := Aside0.mk (Kd.R_below (Kd.Rz HO_7.out) hb);have n2_ := Aside0.mk (Kd.R_below (Kd.Rz HO_12.out) hb);have n3_ := Aside0.mk (Kd.R_below (Kd.Rz HO_14.out) hb);have n4_ := Aside0.mk (below_step bz hb);clear HO_5;clear HO_7;clear HO_12;clear HO_14;clear HB;have HO_5 := n0_;have HO_7 := n1_;have HO_12 := n2_;have HO_14 := n3_;have HB := n4_;clear n0_ n1_ n2_ n3_ n4_;(try clear hb);(try clear hb2);(try clear hk);(try clear hi)))
               go_ret
               exact ⟨by first|rfl|(simp [errW_none,errW_some] <;> rfl)|(simp [*,errW_none,errW_some] <;> rfl),bz⟩
              ·replace c80 := Bool.eq_false_iff.mpr c80
               subst c80
               have H1 : (some true) = some r := by rw [if_neg (show ¬ (false = true) by decide)] at H;exact H
               clear H
               have H := H1
               clear H1
               obtain rfl := Option.some.inj H
               obtain ⟨Ao86,co86,eo86⟩ := Kd.R_slice HO_7.out
               subst eo86
               go_wp2_with (first|((with_reducible refine gate_callee (f := 21) rfl ?_);refine goesL_ (some 100) rfl rfl Try.func21 (by kernel_rfl) rfl #[.slice Ao86 t1213.length co86] rfl az ?_;(with_reducible refine (impl_OrdValid.calls kj28 _ _ t1213 true _ ?side1 ?side2 A45.out).mono ?_);(case side1 => exact Kd.Cz (Kd.R_reads' HO_7.out).2.2);(case side2 => exact (Kd.R_reads' HO_7.out).2.1);rintro e w87 ⟨rfl,hb⟩;refine ⟨_,rfl,?_⟩;have n0_ := Aside0.mk (Kd.R_below (Kd.Rz HO_5.out) hb);have n1_ := Aside0.mk (Kd.R_below (Kd.Rz HO_7.out) hb);have n2_ := Aside0.mk (Kd.R_below (Kd.Rz HO_12.out) hb);have n3_ := Aside0.mk (Kd.R_below (Kd.Rz HO_14.out) hb);have n4_ := Aside0.mk (below_step bz hb);clear HO_5;clear HO_7;clear HO_12;clear HO_14;clear HB;have HO_5 := n0_;have HO_7 := n1_;have HO_12 := n2_;have HO_14 := n3_;have HB := n4_;clear n0_ n1_ n2_ n3_ n4_;(try clear hb);(try clear hb2);(try clear hk);(try clear hi))|(go_at_call 28;(with_reducible refine (impl_OrdCompare.calls kj28 _ _ t1213 _ _ t1209 t1237 _ ?side1 ?side2 ?side3 ?side4 A47.out).mono ?_);(case side1 => exact Kd.Cz (Kd.R_reads' HO_7.out).2.2);(case side2 => exact (Kd.R_reads' HO_7.out).2.1);(case side3 => exact Kd.Cz (Kd.R_reads' HO_5.out).2.2);(case side4 => exact (Kd.R_reads' HO_5.out).2.1);rintro e w88 ⟨rfl,hb⟩;have n0_ := Aside0.mk (Kd.R_below (Kd.Rz HO_5.out) hb);have n1_ := Aside0.mk (Kd.R_below (Kd.Rz HO_7.out) hb);have n2_ := Aside0.mk (Kd.R_below (Kd.Rz HO_12.out) hb);have n3_ := Aside0.mk (Kd.R_below (Kd.Rz HO_14.out) hb);have n4_ := Aside0.mk (below_step bz hb);clear HO_5;clear HO_7;clear HO_12;clear HO_14;clear HB;have HO_5 := n0_;have HO_7 := n1_;have HO_12 := n2_;have HO_14 := n3_;have HB := n4_;clear n0_ n1_ n2_ n3_ n4_;(try clear hb);(try clear hb2);(try clear hk);(try clear hi)))
               go_ret
               exact ⟨by first|rfl|(simp [errW_none,errW_some] <;> rfl)|(simp [*,errW_none,errW_some] <;> rfl),bz⟩
            ·rw [if_neg c48] at H
             have c48b0 : (t1237 == (-1)) = false := beq_eq_false_iff_ne.mpr c48
             have c48b1 : (t1237 != (-1)) = true := bne_iff_ne.mpr c48
             obtain rfl := Option.some.inj H
             obtain ⟨Ao89,co89,eo89⟩ := Kd.R_slice HO_7.out
             subst eo89
             go_wp2_with (first|((with_reducible refine gate_callee (f := 21) rfl ?_);refine goesL_ (some 100) rfl rfl Try.func21 (by kernel_rfl) rfl #[.slice Ao89 t1213.length co89] rfl az ?_;(with_reducible refine (impl_OrdValid.calls kj28 _ _ t1213 true _ ?side1 ?side2 A45.out).mono ?_);(case side1 => exact Kd.Cz (Kd.R_reads' HO_7.out).2.2);(case side2 => exact (Kd.R_reads' HO_7.out).2.1);rintro e w90 ⟨rfl,hb⟩;refine ⟨_,rfl,?_⟩;have n0_ := Aside0.mk (Kd.R_below (Kd.Rz HO_5.out) hb);have n1_ := Aside0.mk (Kd.R_below (Kd.Rz HO_7.out) hb);have n2_ := Aside0.mk (Kd.R_below (Kd.Rz HO_12.out) hb);have n3_ := Aside0.mk (Kd.R_below (Kd.Rz HO_14.out) hb);have n4_ := Aside0.mk (below_step bz hb);clear HO_5;clear HO_7;clear HO_12;clear HO_14;clear HB;have HO_5 := n0_;have HO_7 := n1_;have HO_12 := n2_;have HO_14 := n3_;have HB := n4_;clear n0_ n1_ n2_ n3_ n4_;(try clear hb);(try clear hb2);(try clear hk);(try clear hi))|(go_at_call 28;(with_reducible refine (impl_OrdCompare.calls kj28 _ _ t1213 _ _ t1209 t1237 _ ?side1 ?side2 ?side3 ?side4 A47.out).mono ?_);(case side1 => exact Kd.Cz (Kd.R_reads' HO_7.out).2.2);(case side2 => exact (Kd.R_reads' HO_7.out).2.1);(case side3 => exact Kd.Cz (Kd.R_reads' HO_5.out).2.2);(case side4 => exact (Kd.R_reads' HO_5.out).2.1);rintro e w91 ⟨rfl,hb⟩;have n0_ := Aside0.mk (Kd.R_below (Kd.Rz HO_5.out) hb);have n1_ := Aside0.mk (Kd.R_below (Kd.Rz HO_7.out) hb);have n2_ := Aside0.mk (Kd.R_below (Kd.Rz HO_12.out) hb);have n3_ := Aside0.mk (Kd.R_below (Kd.Rz HO_14.out) hb);have n4_ := Aside0.mk (below_step bz hb);clear HO_5;clear HO_7;clear HO_12;clear HO_14;clear HB;have HO_5 := n0_;have HO_7 := n1_;have HO_12 := n2_;have HO_14 := n3_;have HB := n4_;clear n0_ n1_ n2_ n3_ n4_;(try clear hb);(try clear hb2);(try clear hk);(try clear hi)))
             go_ret
             exact ⟨by first|rfl|(simp [errW_none,errW_some] <;> rfl)|(simp [*,errW_none,errW_some] <;> rfl),bz⟩
           ·replace c46 := Bool.eq_false_iff.mpr c46
            subst c46
            have H1 : (some false) = some r := by rw [if_neg (show ¬ (false = true) by decide)] at H;exact H
            clear H
            have H := H1
            clear H1
            obtain rfl := Option.some.inj H
            obtain ⟨Ao92,co92,eo92⟩ := Kd.R_slice HO_7.out
            subst eo92
            go_wp2_with (first|((with_reducible refine gate_callee (f := 21) rfl ?_);refine goesL_ (some 100) rfl rfl Try.func21 (by kernel_rfl) rfl #[.slice Ao92 t1213.length co92] rfl az ?_;(with_reducible refine (impl_OrdValid.calls kj28 _ _ t1213 false _ ?side1 ?side2 A45.out).mono ?_);(case side1 => exact Kd.Cz (Kd.R_reads' HO_7.out).2.2);(case side2 => exact (Kd.R_reads' HO_7.out).2.1);rintro e w93 ⟨rfl,hb⟩;refine ⟨_,rfl,?_⟩;have n0_ := Aside0.mk (Kd.R_below (Kd.Rz HO_5.out) hb);have n1_ := Aside0.mk (Kd.R_below (Kd.Rz HO_7.out) hb);have n2_ := Aside0.mk (Kd.R_below (Kd.Rz HO_12.out) hb);have n3_ := Aside0.mk (Kd.R_below (Kd.Rz HO_14.out) hb);have n4_ := Aside0.mk (below_step bz hb);clear HO_5;clear HO_7;clear HO_12;clear HO_14;clear HB;have HO_5 := n0_;have HO_7 := n1_;have HO_12 := n2_;have HO_14 := n3_;have HB := n4_;clear n0_ n1_ n2_ n3_ n4_;(try clear hb);(try clear hb2);(try clear hk);(try clear hi)))
            go_ret
            exact ⟨by first|rfl|(simp [errW_none,errW_some] <;> rfl)|(simp [*,errW_none,errW_some] <;> rfl),bz⟩
       ·replace c21 := Bool.eq_false_iff.mpr c21
        subst c21
        have H1 : (if (t1213.length : Int) = 0 then ((laws_alive.f kj8).bind fun t1222 => (some t1222)) else (some false)) = some r := by rw [if_neg (show ¬ (false = true) by decide)] at H;exact H
        clear H
        have H := H1
        clear H1
        by_cases c94 : (t1213.length : Int) = 0
        ·rw [if_pos c94] at H
         have c94b0 : ((t1213.length : Int) == 0) = true := beq_iff_eq.mpr c94
         have c94b1 : ((t1213.length : Int) != 0) = false := bne_eq_false_iff_eq.mpr c94
         clear c94
         replace H := Option.bind_eq_some_iff.mp H
         obtain ⟨t1222,A950,H⟩ := H
         replace H : (some t1222) = some r := H
         have A95 := Aside0.mk A950
         clear A950
         obtain rfl := Option.some.inj H
         obtain ⟨Ao96,co96,eo96⟩ := Kd.R_slice HO_7.out
         subst eo96
         go_wp2_with (first|(go_at_call 19;(with_reducible refine (laws_alive.calls kj8  t1222 _ A95.out).mono ?_);rintro e w97 ⟨rfl,hb⟩;have n0_ := Aside0.mk (Kd.R_below (Kd.Rz HO_5.out) hb);have n1_ := Aside0.mk (Kd.R_below (Kd.Rz HO_7.out) hb);have n2_ := Aside0.mk (below_step bz hb);clear HO_5;clear HO_7;clear HB;have HO_5 := n0_;have HO_7 := n1_;have HB := n2_;clear n0_ n1_ n2_;(try clear hb);(try clear hb2);(try clear hk);(try clear hi)))
         go_ret
         exact ⟨by first|rfl|(simp [errW_none,errW_some] <;> rfl)|(simp [*,errW_none,errW_some] <;> rfl),bz⟩
        ·rw [if_neg c94] at H
         have c94b0 : ((t1213.length : Int) == 0) = false := beq_eq_false_iff_ne.mpr c94
         have c94b1 : ((t1213.length : Int) != 0) = true := bne_iff_ne.mpr c94
         have c94b2 : ¬ (t1213 = []) := fun h_ => c94 (by rw [h_];rfl)
         obtain rfl := Option.some.inj H
         obtain ⟨Ao98,co98,eo98⟩ := Kd.R_slice HO_7.out
         subst eo98
         go_wp2
         go_ret
         exact ⟨by first|rfl|(simp [errW_none,errW_some] <;> rfl)|(simp [*,errW_none,errW_some] <;> rfl),bz⟩

/-- THE ONE PURE STATEMENT of laws_FnOrdStep: yours. -/
def laws_FnOrdStep.Pure : Prop := ∀ (l0 : List Int) (l1 : List Int),l0.length ≤ maxLen → l0.length * 1 ≤ 140737488351232 → (∀ x ∈ l0,(Lit.int .u8 x).wf = true) → l1.length ≤ maxLen → l1.length * 1 ≤ 140737488351232 → (∀ x ∈ l1,(Lit.int .u8 x).wf = true) → ∃ k,laws_FnOrdStep.f k l0 l1 = some true
theorem laws_FnOrdStep.walk (P : laws_FnOrdStep.Pure) (a0 : Option Addr) (len0 cap0 : Nat) (z0 : List Int) (a1 : Option Addr) (len1 cap1 : Nat) (z1 : List Int) (w : World) (w0 : (a0 = none ∧ len0 = 0 ∧ cap0 = 0 ∧ z0 = []) ∨ ∃ x,a0 = some x ∧ len0 ≤ cap0 ∧ cap0 ≤ maxLen ∧ z0.length = cap0 ∧ (∀ i,i < z0.length → w.cell? (x.add i) = some (.int .u8 (z0.getD i 0))) ∧ ∀ n ∈ z0,(Lit.int .u8 n).wf = true) (y0 : len0 * 1 ≤ 140737488351232) (w1 : (a1 = none ∧ len1 = 0 ∧ cap1 = 0 ∧ z1 = []) ∨ ∃ x,a1 = some x ∧ len1 ≤ cap1 ∧ cap1 ≤ maxLen ∧ z1.length = cap1 ∧ (∀ i,i < z1.length → w.cell? (x.add i) = some (.int .u8 (z1.getD i 0))) ∧ ∀ n ∈ z1,(Lit.int .u8 n).wf = true) (y1 : len1 * 1 ≤ 140737488351232) :
  Calls Try.prog 14 #[.slice a0 len0 cap0,.slice a1 len1 cap1] w fun e w' => e = .returned (.bool true) ∧ Below w.heap.size w w' := by
 obtain ⟨l0,rfl,hr0,hm0,hw0,hc0⟩ := ReadsInt.ofRowC w0
 obtain ⟨l1,rfl,hr1,hm1,hw1,hc1⟩ := ReadsInt.ofRowC w1
 obtain ⟨k,h⟩ := P l0 l1 hm0 y0 hw0 hm1 y1 hw1
 refine (laws_FnOrdStep.calls k _ _ l0 _ _ l1 true w (Kd.C_of_reads (d := (0 : Int)) (h1 := fun _ => rfl) hr0) hc0 (Kd.C_of_reads (d := (0 : Int)) (h1 := fun _ => rfl) hr1) hc1 h).mono ?_
 rintro e w' ⟨rfl,hd⟩
 exact ⟨rfl,hd⟩

end Go.Proofs.Ytninfokihgbgpaa.P
