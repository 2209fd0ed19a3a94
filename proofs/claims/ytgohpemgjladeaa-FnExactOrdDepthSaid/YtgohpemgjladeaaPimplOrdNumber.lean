/- The walk of one Go function that the law reaches: it comes to what the Lean function of its name tells. -/
import Derived.Test.YtgohpemgjladeaaP0
import Derived.Test.YtgohpemgjladeaaPimplordOf
namespace Go.Proofs.Ytgohpemgjladeaa.P
open Go.RowKit Go.Proofs.YtgohpemgjladeaaW.PrintWords Go.Proofs.YtgohpemgjladeaaW.PrintLast Go.Proofs.YtgohpemgjladeaaW.PrintMore
attribute [local go_sem] max2_int min2_int max_two min_two max_three min_three max_four min_four   
set_option linter.unusedVariables false
set_option linter.unusedSimpArgs false

/-! ### impl_OrdNumber: function 36 -/
def impl_OrdNumber.f (k : Nat) (l0 : List Int) : Option (Int) := (impl_ordOf.f k l0).bind fun bt574 => (if bt574.2 = true then (if (bt574.1.length : Int) = 0 then (some 0) else (if (bt574.1.length : Int) = 1 then (if 0 < (bt574.1.length : Int) then (if (((rd_T49 bt574.1 0).f1).length : Int) = 0 then (some ((rd_T49 bt574.1 0).f0)) else (some (-1))) else (none)) else (some (-1)))) else (some (-1)))
theorem impl_OrdNumber.mono : ∀ a0 k, LeO (impl_OrdNumber.f k a0) (impl_OrdNumber.f (k + 1) a0) := by
  intro a0 k
  unfold impl_OrdNumber.f
  repeat' first
      | (with_reducible exact impl_ordOf.mono _ _)
      | (with_reducible exact LeO.refl _)
      | (with_reducible exact LeO.none _)
      | (with_reducible refine LeO.ite ?_ ?_)
      | (with_reducible refine LeO.bind ?_ (fun _ => ?_))
      | exact impl_ordOf.mono _ _
      | exact LeO.none _
      | refine LeO.ite ?_ ?_
      | refine LeO.bind ?_ (fun _ => ?_)
set_option maxHeartbeats 8000000 in
set_option maxRecDepth 100000 in
theorem impl_OrdNumber.calls (k : Nat) (A0 : Option Addr) (c0 : Nat) (l0 : List Int) (r : Int) (w : World) (hr0 : Kd.C (Kd.int .i64) w A0 l0.length l0) (hc0 : l0.length ≤ c0) (h : impl_OrdNumber.f k l0 = some r) :
    Calls Try.prog 36 #[.slice A0 l0.length c0] w fun e w' => e = .returned (.int .i64 r) ∧ Below w.heap.size w w' := by
  have HR0 := Aside0.mk hr0
  have HC0 := Aside0.mk hc0
  clear hr0 hc0
  have HB := Aside0.mk (Below.refl w.heap.size w)
  have H : ((impl_ordOf.f k l0).bind fun bt574 => (if bt574.2 = true then (if (bt574.1.length : Int) = 0 then (some 0) else (if (bt574.1.length : Int) = 1 then (if 0 < (bt574.1.length : Int) then (if (((rd_T49 bt574.1 0).f1).length : Int) = 0 then (some ((rd_T49 bt574.1 0).f0)) else (some (-1))) else (none)) else (some (-1)))) else (some (-1)))) = some r := h
  clear h
  replace H := Option.bind_eq_some_iff.mp H
  obtain ⟨⟨t574, t575⟩, A20, H⟩ := H
  replace H : (if t575 = true then (if (t574.length : Int) = 0 then (some 0) else (if (t574.length : Int) = 1 then (if 0 < (t574.length : Int) then (if (((rd_T49 t574 0).f1).length : Int) = 0 then (some ((rd_T49 t574 0).f0)) else (some (-1))) else (none)) else (some (-1)))) else (some (-1))) = some r := H
  have A2 := Aside0.mk A20
  clear A20
  by_cases c3 : t575 = true
  · subst c3
    have H1 : (if (t574.length : Int) = 0 then (some 0) else (if (t574.length : Int) = 1 then (if 0 < (t574.length : Int) then (if (((rd_T49 t574 0).f1).length : Int) = 0 then (some ((rd_T49 t574 0).f0)) else (some (-1))) else (none)) else (some (-1)))) = some r := by rw [if_pos rfl] at H; exact H
    clear H
    have H := H1
    clear H1
    by_cases c4 : (t574.length : Int) = 0
    · rw [if_pos c4] at H
      have c4b0 : ((t574.length : Int) == 0) = true := beq_iff_eq.mpr c4
      have c4b1 : ((t574.length : Int) != 0) = false := bne_eq_false_iff_eq.mpr c4
      clear c4
      obtain rfl := Option.some.inj H
      go_enter Try.func36, Try.ntmps36
      go_wp2_with (first | ((with_reducible refine gate_callee (f := 51) rfl ?_); refine goesL_ (some 7) rfl rfl Try.func51 (by kernel_rfl) rfl #[.slice A0 l0.length c0] rfl (by (try simp only [List.map_toArray, List.map_cons, List.map_nil]); first | done | rfl | (simp only [List.length_drop, List.length_take]; rfl)) ?_; (with_reducible refine (impl_ordOf.calls k _ _ l0 t574 true _ ?side1 ?side2 A2.out).mono ?_); (case side1 => repeat (first | exact HR0.out | (with_reducible refine Kd.C_alloc ?_ _) | (with_reducible refine Kd.C_drewN ?_ _) | (with_reducible refine Kd.C_drew ?_))); (case side2 => exact HC0.out); rintro e w5 ⟨v576, rfl, ho0, hb⟩; refine ⟨_, rfl, ?_⟩; have n0_ := Aside0.mk (Kd.R_lower ho0 (below_size (by repeat (first | (with_reducible first | exact HB.out | apply below_alloc | apply pw_below_drewN | apply below_drew1) | exact HB.out)))); have n1_ := Aside0.mk (below_step (by repeat (first | (with_reducible first | exact HB.out | apply below_alloc | apply pw_below_drewN | apply below_drew1) | exact HB.out)) hb); clear HB; have HO577 := n0_; have HB := n1_; clear n0_ n1_; (try clear hb); (try clear hb2); (try clear hk); (try clear hi); (try clear ho0); obtain ⟨Ao6, co6, eo6⟩ := Kd.R_slice HO577.out; subst eo6))
      go_ret
      exact ⟨by first | rfl | (simp [errW_none, errW_some] <;> rfl) | (simp [*, errW_none, errW_some] <;> rfl), by repeat (first | (with_reducible first | exact HB.out | apply below_alloc | apply pw_below_drewN | apply below_drew1) | exact HB.out)⟩
    · rw [if_neg c4] at H
      have c4b0 : ((t574.length : Int) == 0) = false := beq_eq_false_iff_ne.mpr c4
      have c4b1 : ((t574.length : Int) != 0) = true := bne_iff_ne.mpr c4
      have c4b2 : ¬ (t574 = []) := fun h_ => c4 (by rw [h_]; rfl)
      by_cases c7 : (t574.length : Int) = 1
      · rw [if_pos c7] at H
        have c7b0 : ((t574.length : Int) == 1) = true := beq_iff_eq.mpr c7
        have c7b1 : ((t574.length : Int) != 1) = false := bne_eq_false_iff_eq.mpr c7
        clear c7
        by_cases c8 : 0 < (t574.length : Int)
        · rw [if_pos c8] at H
          have c8b0 : decide (0 < (t574.length : Int)) = true := decide_eq_true c8
          have c8b1 : decide (0 < t574.length) = true := decide_eq_true (by omega)
          clear c8
          by_cases c9 : (((rd_T49 t574 0).f1).length : Int) = 0
          · rw [if_pos c9] at H
            have c9b0 : ((((rd_T49 t574 0).f1).length : Int) == 0) = true := beq_iff_eq.mpr c9
            have c9b1 : ((((rd_T49 t574 0).f1).length : Int) != 0) = false := bne_eq_false_iff_eq.mpr c9
            clear c9
            obtain rfl := Option.some.inj H
            go_enter Try.func36, Try.ntmps36
            go_wp2_with (first | ((with_reducible refine gate_callee (f := 51) rfl ?_); refine goesL_ (some 7) rfl rfl Try.func51 (by kernel_rfl) rfl #[.slice A0 l0.length c0] rfl (by (try simp only [List.map_toArray, List.map_cons, List.map_nil]); first | done | rfl | (simp only [List.length_drop, List.length_take]; rfl)) ?_; (with_reducible refine (impl_ordOf.calls k _ _ l0 t574 true _ ?side1 ?side2 A2.out).mono ?_); (case side1 => repeat (first | exact HR0.out | (with_reducible refine Kd.C_alloc ?_ _) | (with_reducible refine Kd.C_drewN ?_ _) | (with_reducible refine Kd.C_drew ?_))); (case side2 => exact HC0.out); rintro e w10 ⟨v576, rfl, ho0, hb⟩; refine ⟨_, rfl, ?_⟩; have n0_ := Aside0.mk (Kd.R_lower ho0 (below_size (by repeat (first | (with_reducible first | exact HB.out | apply below_alloc | apply pw_below_drewN | apply below_drew1) | exact HB.out)))); have n1_ := Aside0.mk (below_step (by repeat (first | (with_reducible first | exact HB.out | apply below_alloc | apply pw_below_drewN | apply below_drew1) | exact HB.out)) hb); clear HB; have HO577 := n0_; have HB := n1_; clear n0_ n1_; (try clear hb); (try clear hb2); (try clear hk); (try clear hi); (try clear ho0); obtain ⟨Ao11, co11, eo11⟩ := Kd.R_slice HO577.out; subst eo11; have p578 : 0 ≤ (0 : Int) := (by omega); have q578 : 0 < (t574.length : Int) := of_decide_eq_true (by first | (with_reducible assumption) | assumption); obtain ⟨ad578, A578_1, c578_1, e578, hx578_0, hx578_1, hl578_1, hi578_1⟩ := at_T49 (Kd.R_reads' HO577.out).2.2 0 p578 q578; cases e578; obtain ⟨ce578, hce578, hMe578, hcc578⟩ := Kd.R_get HO577.out z49 0 p578 (by first | exact q578 | exact of_decide_eq_true (by first | (with_reducible assumption) | assumption) | (have e_ := (Kd.R_reads' HO577.out).1; omega)); obtain ⟨ve578_1, rfl, ge578_1⟩ := k49_openM hMe578; have hv578_1 := hcc578 1 _ rfl; rw [add_field _ _ 1 (by omega)] at hv578_1; replace hv578_1 := Option.some.inj (hv578_1.symm.trans hx578_1); rw [hv578_1] at ge578_1; have HL578_1 := Aside0.mk (show Kd.R k49 49 _ _ _ _ ((rd_T49 t574 0).f1) from ge578_1); clear hv578_1 ge578_1; clear hcc578 hce578; have qi578 : (0 < t574.length) = True := eq_true (by omega); (try rw [show ((0 : Int)).toNat = 0 from rfl] at hx578_0); (try rw [show 0 * 2 = 0 from rfl] at hx578_0); (try rw [Addr.add_zero'] at hx578_0); (try rw [show ((0 : Int)).toNat = 0 from rfl] at hx578_1); (try rw [show 0 * 2 = 0 from rfl] at hx578_1); (try rw [Addr.add_zero'] at hx578_1); have HR578_1 := Aside0.mk hi578_1; have HC578_1 := Aside0.mk hl578_1; clear hi578_1 hl578_1; replace p578 := eq_true p578; replace q578 := eq_true q578; have p579 : 0 ≤ (0 : Int) := (by omega); have q579 : 0 < (t574.length : Int) := of_decide_eq_true (by first | (with_reducible assumption) | assumption); obtain ⟨ad579, A579_1, c579_1, e579, hx579_0, hx579_1, hl579_1, hi579_1⟩ := at_T49 (Kd.R_reads' HO577.out).2.2 0 p579 q579; obtain rfl : ad578 = ad579 := (by injection e579); obtain ⟨ce579, hce579, hMe579, hcc579⟩ := Kd.R_get HO577.out z49 0 p579 (by first | exact q579 | exact of_decide_eq_true (by first | (with_reducible assumption) | assumption) | (have e_ := (Kd.R_reads' HO577.out).1; omega)); obtain ⟨ve579_1, rfl, ge579_1⟩ := k49_openM hMe579; have hv579_1 := hcc579 1 _ rfl; rw [add_field _ _ 1 (by omega)] at hv579_1; replace hv579_1 := Option.some.inj (hv579_1.symm.trans hx579_1); rw [hv579_1] at ge579_1; have HL579_1 := Aside0.mk (show Kd.R k49 49 _ _ _ _ ((rd_T49 t574 0).f1) from ge579_1); clear hv579_1 ge579_1; clear hcc579 hce579; have qi579 : (0 < t574.length) = True := eq_true (by omega); (try rw [show ((0 : Int)).toNat = 0 from rfl] at hx579_0); (try rw [show 0 * 2 = 0 from rfl] at hx579_0); (try rw [Addr.add_zero'] at hx579_0); (try rw [show ((0 : Int)).toNat = 0 from rfl] at hx579_1); (try rw [show 0 * 2 = 0 from rfl] at hx579_1); (try rw [Addr.add_zero'] at hx579_1); have HR579_1 := Aside0.mk hi579_1; have HC579_1 := Aside0.mk hl579_1; clear hi579_1 hl579_1; replace p579 := eq_true p579; replace q579 := eq_true q579; have ea_ := Option.some.inj (hx578_1.symm.trans hx579_1); injection ea_ with ea_ en_ ec_; subst ea_; subst ec_; clear en_))
            go_ret
            exact ⟨by first | rfl | (simp [errW_none, errW_some] <;> rfl) | (simp [*, errW_none, errW_some] <;> rfl), by repeat (first | (with_reducible first | exact HB.out | apply below_alloc | apply pw_below_drewN | apply below_drew1) | exact HB.out)⟩
          · rw [if_neg c9] at H
            have c9b0 : ((((rd_T49 t574 0).f1).length : Int) == 0) = false := beq_eq_false_iff_ne.mpr c9
            have c9b1 : ((((rd_T49 t574 0).f1).length : Int) != 0) = true := bne_iff_ne.mpr c9
            have c9b2 : ¬ (((rd_T49 t574 0).f1) = []) := fun h_ => c9 (by rw [h_]; rfl)
            obtain rfl := Option.some.inj H
            go_enter Try.func36, Try.ntmps36
            go_wp2_with (first | ((with_reducible refine gate_callee (f := 51) rfl ?_); refine goesL_ (some 7) rfl rfl Try.func51 (by kernel_rfl) rfl #[.slice A0 l0.length c0] rfl (by (try simp only [List.map_toArray, List.map_cons, List.map_nil]); first | done | rfl | (simp only [List.length_drop, List.length_take]; rfl)) ?_; (with_reducible refine (impl_ordOf.calls k _ _ l0 t574 true _ ?side1 ?side2 A2.out).mono ?_); (case side1 => repeat (first | exact HR0.out | (with_reducible refine Kd.C_alloc ?_ _) | (with_reducible refine Kd.C_drewN ?_ _) | (with_reducible refine Kd.C_drew ?_))); (case side2 => exact HC0.out); rintro e w12 ⟨v576, rfl, ho0, hb⟩; refine ⟨_, rfl, ?_⟩; have n0_ := Aside0.mk (Kd.R_lower ho0 (below_size (by repeat (first | (with_reducible first | exact HB.out | apply below_alloc | apply pw_below_drewN | apply below_drew1) | exact HB.out)))); have n1_ := Aside0.mk (below_step (by repeat (first | (with_reducible first | exact HB.out | apply below_alloc | apply pw_below_drewN | apply below_drew1) | exact HB.out)) hb); clear HB; have HO577 := n0_; have HB := n1_; clear n0_ n1_; (try clear hb); (try clear hb2); (try clear hk); (try clear hi); (try clear ho0); obtain ⟨Ao13, co13, eo13⟩ := Kd.R_slice HO577.out; subst eo13; have p578 : 0 ≤ (0 : Int) := (by omega); have q578 : 0 < (t574.length : Int) := of_decide_eq_true (by first | (with_reducible assumption) | assumption); obtain ⟨ad578, A578_1, c578_1, e578, hx578_0, hx578_1, hl578_1, hi578_1⟩ := at_T49 (Kd.R_reads' HO577.out).2.2 0 p578 q578; cases e578; obtain ⟨ce578, hce578, hMe578, hcc578⟩ := Kd.R_get HO577.out z49 0 p578 (by first | exact q578 | exact of_decide_eq_true (by first | (with_reducible assumption) | assumption) | (have e_ := (Kd.R_reads' HO577.out).1; omega)); obtain ⟨ve578_1, rfl, ge578_1⟩ := k49_openM hMe578; have hv578_1 := hcc578 1 _ rfl; rw [add_field _ _ 1 (by omega)] at hv578_1; replace hv578_1 := Option.some.inj (hv578_1.symm.trans hx578_1); rw [hv578_1] at ge578_1; have HL578_1 := Aside0.mk (show Kd.R k49 49 _ _ _ _ ((rd_T49 t574 0).f1) from ge578_1); clear hv578_1 ge578_1; clear hcc578 hce578; have qi578 : (0 < t574.length) = True := eq_true (by omega); (try rw [show ((0 : Int)).toNat = 0 from rfl] at hx578_0); (try rw [show 0 * 2 = 0 from rfl] at hx578_0); (try rw [Addr.add_zero'] at hx578_0); (try rw [show ((0 : Int)).toNat = 0 from rfl] at hx578_1); (try rw [show 0 * 2 = 0 from rfl] at hx578_1); (try rw [Addr.add_zero'] at hx578_1); have HR578_1 := Aside0.mk hi578_1; have HC578_1 := Aside0.mk hl578_1; clear hi578_1 hl578_1; replace p578 := eq_true p578; replace q578 := eq_true q578))
            go_ret
            exact ⟨by first | rfl | (simp [errW_none, errW_some] <;> rfl) | (simp [*, errW_none, errW_some] <;> rfl), by repeat (first | (with_reducible first | exact HB.out | apply below_alloc | apply pw_below_drewN | apply below_drew1) | exact HB.out)⟩
        · rw [if_neg c8] at H
          exact absurd H (by simp)
      · rw [if_neg c7] at H
        have c7b0 : ((t574.length : Int) == 1) = false := beq_eq_false_iff_ne.mpr c7
        have c7b1 : ((t574.length : Int) != 1) = true := bne_iff_ne.mpr c7
        obtain rfl := Option.some.inj H
        go_enter Try.func36, Try.ntmps36
        go_wp2_with (first | ((with_reducible refine gate_callee (f := 51) rfl ?_); refine goesL_ (some 7) rfl rfl Try.func51 (by kernel_rfl) rfl #[.slice A0 l0.length c0] rfl (by (try simp only [List.map_toArray, List.map_cons, List.map_nil]); first | done | rfl | (simp only [List.length_drop, List.length_take]; rfl)) ?_; (with_reducible refine (impl_ordOf.calls k _ _ l0 t574 true _ ?side1 ?side2 A2.out).mono ?_); (case side1 => repeat (first | exact HR0.out | (with_reducible refine Kd.C_alloc ?_ _) | (with_reducible refine Kd.C_drewN ?_ _) | (with_reducible refine Kd.C_drew ?_))); (case side2 => exact HC0.out); rintro e w14 ⟨v576, rfl, ho0, hb⟩; refine ⟨_, rfl, ?_⟩; have n0_ := Aside0.mk (Kd.R_lower ho0 (below_size (by repeat (first | (with_reducible first | exact HB.out | apply below_alloc | apply pw_below_drewN | apply below_drew1) | exact HB.out)))); have n1_ := Aside0.mk (below_step (by repeat (first | (with_reducible first | exact HB.out | apply below_alloc | apply pw_below_drewN | apply below_drew1) | exact HB.out)) hb); clear HB; have HO577 := n0_; have HB := n1_; clear n0_ n1_; (try clear hb); (try clear hb2); (try clear hk); (try clear hi); (try clear ho0); obtain ⟨Ao15, co15, eo15⟩ := Kd.R_slice HO577.out; subst eo15))
        go_ret
        exact ⟨by first | rfl | (simp [errW_none, errW_some] <;> rfl) | (simp [*, errW_none, errW_some] <;> rfl), by repeat (first | (with_reducible first | exact HB.out | apply below_alloc | apply pw_below_drewN | apply below_drew1) | exact HB.out)⟩
  · replace c3 := Bool.eq_false_iff.mpr c3
    subst c3
    have H1 : (some (-1)) = some r := by rw [if_neg (show ¬ (false = true) by decide)] at H; exact H
    clear H
    have H := H1
    clear H1
    obtain rfl := Option.some.inj H
    go_enter Try.func36, Try.ntmps36
    go_wp2_with (first | ((with_reducible refine gate_callee (f := 51) rfl ?_); refine goesL_ (some 7) rfl rfl Try.func51 (by kernel_rfl) rfl #[.slice A0 l0.length c0] rfl (by (try simp only [List.map_toArray, List.map_cons, List.map_nil]); first | done | rfl | (simp only [List.length_drop, List.length_take]; rfl)) ?_; (with_reducible refine (impl_ordOf.calls k _ _ l0 t574 false _ ?side1 ?side2 A2.out).mono ?_); (case side1 => repeat (first | exact HR0.out | (with_reducible refine Kd.C_alloc ?_ _) | (with_reducible refine Kd.C_drewN ?_ _) | (with_reducible refine Kd.C_drew ?_))); (case side2 => exact HC0.out); rintro e w16 ⟨v576, rfl, ho0, hb⟩; refine ⟨_, rfl, ?_⟩; have n0_ := Aside0.mk (Kd.R_lower ho0 (below_size (by repeat (first | (with_reducible first | exact HB.out | apply below_alloc | apply pw_below_drewN | apply below_drew1) | exact HB.out)))); have n1_ := Aside0.mk (below_step (by repeat (first | (with_reducible first | exact HB.out | apply below_alloc | apply pw_below_drewN | apply below_drew1) | exact HB.out)) hb); clear HB; have HO577 := n0_; have HB := n1_; clear n0_ n1_; (try clear hb); (try clear hb2); (try clear hk); (try clear hi); (try clear ho0)))
    go_ret
    exact ⟨by first | rfl | (simp [errW_none, errW_some] <;> rfl) | (simp [*, errW_none, errW_some] <;> rfl), by repeat (first | (with_reducible first | exact HB.out | apply below_alloc | apply pw_below_drewN | apply below_drew1) | exact HB.out)⟩

end Go.Proofs.Ytgohpemgjladeaa.P
