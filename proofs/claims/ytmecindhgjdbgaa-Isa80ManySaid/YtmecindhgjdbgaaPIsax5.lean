-- Printed by a program of this claim's own, out of the translation. Not trusted: Lean checks it.
import Derived.Test.YtmecindhgjdbgaaPIsax0
import Derived.Test.YtmecindhgjdbgaaPIsax4
namespace Go.Proofs.Ytmecindhgjdbgaa.PIsa
open Go.RowKit Go.Proofs.YtmecindhgjdbgaaW.PrintWords Go.Proofs.YtmecindhgjdbgaaW.PrintLast Go.Proofs.YtmecindhgjdbgaaW.PrintMore
attribute [local go_sem] max2_int min2_int max_two min_two max_three min_three max_four min_four   -- for this text's walks alone
set_option linter.unusedVariables false
set_option linter.unusedSimpArgs false

/-! ### pidginref06_Size: function 23 -/
def pidginref06_Size.f (k : Nat) (a0 : Int) : Option (Int) := (pidginref06_Forms.f).bind fun t375 => (if 0 ≤ a0 then (if a0 < (t375.length : Int) then ((pidginref06_Words.f k (rdOf ByteArray.empty t375 a0)).bind fun t379 => (if (t379.length : Int) = 0 then (some 0) else (if 0 ≤ (wrap64 ((t379.length : Int) - 1)) then (if (wrap64 ((t379.length : Int) - 1)) < (t379.length : Int) then (if (rdOf ByteArray.empty t379 (wrap64 ((t379.length : Int) - 1))).toList = ([100, 56] : List UInt8) then (some 2) else (if (rdOf ByteArray.empty t379 (wrap64 ((t379.length : Int) - 1))).toList = ([100, 49, 54] : List UInt8) then (some 3) else (some 1))) else (none)) else (none)))) else (none)) else (none))
theorem pidginref06_Size.mono : ∀ a0 k, LeO (pidginref06_Size.f k a0) (pidginref06_Size.f (k + 1) a0) := by
  intro a0 k
  unfold pidginref06_Size.f
  repeat' first
      | (with_reducible exact pidginref06_Words.mono _ _)
      | (with_reducible exact LeO.refl _)
      | (with_reducible exact LeO.none _)
      | (with_reducible refine LeO.ite ?_ ?_)
      | (with_reducible refine LeO.bind ?_ (fun _ => ?_))
      | exact pidginref06_Words.mono _ _
      | exact LeO.none _
      | refine LeO.ite ?_ ?_
      | refine LeO.bind ?_ (fun _ => ?_)
set_option maxHeartbeats 8000000 in
set_option maxRecDepth 100000 in
theorem pidginref06_Size.calls (k : Nat) (a0 : Int) (r : Int) (w : World) (h : pidginref06_Size.f k a0 = some r) :
    Calls Try.prog 23 #[.int .u8 a0] w fun e w' => e = .returned (.int .i64 r) ∧ Below w.heap.size w w' := by
  have HB := Aside0.mk (Below.refl w.heap.size w)
  have H : ((pidginref06_Forms.f).bind fun t375 => (if 0 ≤ a0 then (if a0 < (t375.length : Int) then ((pidginref06_Words.f k (rdOf ByteArray.empty t375 a0)).bind fun t379 => (if (t379.length : Int) = 0 then (some 0) else (if 0 ≤ (wrap64 ((t379.length : Int) - 1)) then (if (wrap64 ((t379.length : Int) - 1)) < (t379.length : Int) then (if (rdOf ByteArray.empty t379 (wrap64 ((t379.length : Int) - 1))).toList = ([100, 56] : List UInt8) then (some 2) else (if (rdOf ByteArray.empty t379 (wrap64 ((t379.length : Int) - 1))).toList = ([100, 49, 54] : List UInt8) then (some 3) else (some 1))) else (none)) else (none)))) else (none)) else (none))) = some r := h
  clear h
  replace H := Option.bind_eq_some_iff.mp H
  obtain ⟨t375, A20, H⟩ := H
  replace H : (if 0 ≤ a0 then (if a0 < (t375.length : Int) then ((pidginref06_Words.f k (rdOf ByteArray.empty t375 a0)).bind fun t379 => (if (t379.length : Int) = 0 then (some 0) else (if 0 ≤ (wrap64 ((t379.length : Int) - 1)) then (if (wrap64 ((t379.length : Int) - 1)) < (t379.length : Int) then (if (rdOf ByteArray.empty t379 (wrap64 ((t379.length : Int) - 1))).toList = ([100, 56] : List UInt8) then (some 2) else (if (rdOf ByteArray.empty t379 (wrap64 ((t379.length : Int) - 1))).toList = ([100, 49, 54] : List UInt8) then (some 3) else (some 1))) else (none)) else (none)))) else (none)) else (none)) = some r := H
  have A2 := Aside0.mk A20
  clear A20
  by_cases c3 : 0 ≤ a0
  · rw [if_pos c3] at H
    have c3b0 : decide (0 ≤ a0) = true := decide_eq_true c3
    clear c3
    by_cases c4 : a0 < (t375.length : Int)
    · rw [if_pos c4] at H
      have c4b0 : decide (a0 < (t375.length : Int)) = true := decide_eq_true c4
      clear c4
      replace H := Option.bind_eq_some_iff.mp H
      obtain ⟨t379, A50, H⟩ := H
      replace H : (if (t379.length : Int) = 0 then (some 0) else (if 0 ≤ (wrap64 ((t379.length : Int) - 1)) then (if (wrap64 ((t379.length : Int) - 1)) < (t379.length : Int) then (if (rdOf ByteArray.empty t379 (wrap64 ((t379.length : Int) - 1))).toList = ([100, 56] : List UInt8) then (some 2) else (if (rdOf ByteArray.empty t379 (wrap64 ((t379.length : Int) - 1))).toList = ([100, 49, 54] : List UInt8) then (some 3) else (some 1))) else (none)) else (none))) = some r := H
      have A5 := Aside0.mk A50
      clear A50
      by_cases c6 : (t379.length : Int) = 0
      · rw [if_pos c6] at H
        have c6b0 : ((t379.length : Int) == 0) = true := beq_iff_eq.mpr c6
        have c6b1 : ((t379.length : Int) != 0) = false := bne_eq_false_iff_eq.mpr c6
        clear c6
        obtain rfl := Option.some.inj H
        go_enter Try.func23, Try.ntmps23
        go_wp2_with (first | ((with_reducible refine gate_callee (f := 55) rfl ?_); refine goesL_ (some 4) rfl rfl Try.func55 (by kernel_rfl) rfl #[] rfl (by (try simp only [List.map_toArray, List.map_cons, List.map_nil]); first | done | rfl | (simp only [List.length_drop, List.length_take]; rfl) | (simp only [IntKind.wrap_u8, IntKind.wrap_u32, Int.emod_add_emod, Int.add_emod_emod] <;> rfl)) ?_; (with_reducible refine (pidginref06_Forms.calls  t375 _ A2.out).mono ?_); rintro e w7 ⟨v376, rfl, ho0, hb⟩; refine ⟨_, rfl, ?_⟩; have n0_ := Aside0.mk (Kd.R_lower ho0 (below_size (by repeat (first | (with_reducible first | exact HB.out | apply below_alloc | apply pw_below_drewN | apply below_drew1) | exact HB.out)))); have n1_ := Aside0.mk (below_step (by repeat (first | (with_reducible first | exact HB.out | apply below_alloc | apply pw_below_drewN | apply below_drew1) | exact HB.out)) hb); clear HB; have HO377 := n0_; have HB := n1_; clear n0_ n1_; (try clear hb); (try clear hb2); (try clear hk); (try clear hi); (try clear ho0); obtain ⟨Ao8, co8, eo8⟩ := Kd.R_slice HO377.out; subst eo8; have p378 : 0 ≤ (a0 : Int) := of_decide_eq_true (by first | (with_reducible assumption) | assumption); have q378 : a0 < (t375.length : Int) := of_decide_eq_true (by first | (with_reducible assumption) | assumption); obtain ⟨ad378, e378, hx378_0⟩ := Kd.at_string (Kd.R_reads' HO377.out).2.2 a0 p378 q378; cases e378; replace p378 := eq_true p378; replace q378 := eq_true q378) | ((with_reducible refine gate_callee (f := 54) rfl ?_); refine goesL_ (some 8) rfl rfl Try.func54 (by kernel_rfl) rfl #[.string (rdOf ByteArray.empty t375 a0)] rfl (by (try simp only [List.map_toArray, List.map_cons, List.map_nil]); first | done | rfl | (simp only [List.length_drop, List.length_take]; rfl) | (simp only [IntKind.wrap_u8, IntKind.wrap_u32, Int.emod_add_emod, Int.add_emod_emod] <;> rfl)) ?_; (with_reducible refine (pidginref06_Words.calls k (rdOf ByteArray.empty t375 a0) t379 _ A5.out).mono ?_); rintro e w9 ⟨v380, rfl, ho0, hb⟩; refine ⟨_, rfl, ?_⟩; have n0_ := Aside0.mk (Kd.R_elder' (by (with_reducible repeat (first | apply Kd.R_alloc | apply Kd.R_drewN | apply Kd.R_drew)); exact HO377.out) (Kd.R_base ho0) hb); have n1_ := Aside0.mk (Kd.R_lower (Kd.R_new' ho0 (Kd.R_lt (by (with_reducible repeat (first | apply Kd.R_alloc | apply Kd.R_drewN | apply Kd.R_drew)); exact HO377.out))) (below_size (by repeat (first | (with_reducible first | exact HB.out | apply below_alloc | apply pw_below_drewN | apply below_drew1) | exact HB.out)))); have n2_ := Aside0.mk (below_step (by repeat (first | (with_reducible first | exact HB.out | apply below_alloc | apply pw_below_drewN | apply below_drew1) | exact HB.out)) hb); clear HO377; clear HB; have HO377 := n0_; have HO381 := n1_; have HB := n2_; clear n0_ n1_ n2_; (try clear hb); (try clear hb2); (try clear hk); (try clear hi); (try clear ho0); obtain ⟨Ao10, co10, eo10⟩ := Kd.R_slice HO381.out; subst eo10))
        go_ret
        exact ⟨by first | rfl | (simp [errW_none, errW_some] <;> rfl) | (simp [*, errW_none, errW_some] <;> rfl), by repeat (first | (with_reducible first | exact HB.out | apply below_alloc | apply pw_below_drewN | apply below_drew1) | exact HB.out)⟩
      · rw [if_neg c6] at H
        have c6b0 : ((t379.length : Int) == 0) = false := beq_eq_false_iff_ne.mpr c6
        have c6b1 : ((t379.length : Int) != 0) = true := bne_iff_ne.mpr c6
        have c6b2 : ¬ (t379 = []) := fun h_ => c6 (by rw [h_]; rfl)
        obtain ⟨ji11, hji11⟩ : ∃ j_ : Int, (wrap64 ((t379.length : Int) - 1)) = j_ := ⟨_, rfl⟩
        replace H : (if 0 ≤ (ji11) then (if (ji11) < (t379.length : Int) then (if (rdOf ByteArray.empty t379 (ji11)).toList = ([100, 56] : List UInt8) then (some 2) else (if (rdOf ByteArray.empty t379 (ji11)).toList = ([100, 49, 54] : List UInt8) then (some 3) else (some 1))) else (none)) else (none)) = some r := by first | (rw [hji11] at H; exact H) | (simp only [hji11] at H ⊢; exact H)
        (try rw [hji11] at A2)
        (try rw [hji11] at A5)
        have hji11w : (IntKind.i64.wrap ((t379.length : Int) - 1)) = ji11 := (i64_w _).trans hji11
        by_cases c12 : 0 ≤ (ji11)
        · rw [if_pos c12] at H
          have c12b0 : decide (0 ≤ (ji11)) = true := decide_eq_true c12
          clear c12
          by_cases c13 : (ji11) < (t379.length : Int)
          · rw [if_pos c13] at H
            have c13b0 : decide ((ji11) < (t379.length : Int)) = true := decide_eq_true c13
            clear c13
            by_cases c14 : (rdOf ByteArray.empty t379 (ji11)).toList = ([100, 56] : List UInt8)
            · rw [if_pos c14] at H
              have c14b0 : ((rdOf ByteArray.empty t379 (ji11)).toList == ([100, 56] : List UInt8)) = true := beq_iff_eq.mpr c14
              have c14b1 : ((rdOf ByteArray.empty t379 (ji11)).toList != ([100, 56] : List UInt8)) = false := bne_eq_false_iff_eq.mpr c14
              clear c14
              obtain rfl := Option.some.inj H
              go_enter Try.func23, Try.ntmps23
              go_wp2_with (first | ((with_reducible refine gate_callee (f := 55) rfl ?_); refine goesL_ (some 4) rfl rfl Try.func55 (by kernel_rfl) rfl #[] rfl (by (try simp only [List.map_toArray, List.map_cons, List.map_nil]); first | done | rfl | (simp only [List.length_drop, List.length_take]; rfl) | (simp only [IntKind.wrap_u8, IntKind.wrap_u32, Int.emod_add_emod, Int.add_emod_emod] <;> rfl)) ?_; (with_reducible refine (pidginref06_Forms.calls  t375 _ A2.out).mono ?_); rintro e w15 ⟨v376, rfl, ho0, hb⟩; refine ⟨_, rfl, ?_⟩; have n0_ := Aside0.mk (Kd.R_lower ho0 (below_size (by repeat (first | (with_reducible first | exact HB.out | apply below_alloc | apply pw_below_drewN | apply below_drew1) | exact HB.out)))); have n1_ := Aside0.mk (below_step (by repeat (first | (with_reducible first | exact HB.out | apply below_alloc | apply pw_below_drewN | apply below_drew1) | exact HB.out)) hb); clear HB; have HO377 := n0_; have HB := n1_; clear n0_ n1_; (try clear hb); (try clear hb2); (try clear hk); (try clear hi); (try clear ho0); obtain ⟨Ao16, co16, eo16⟩ := Kd.R_slice HO377.out; subst eo16; have p378 : 0 ≤ (a0 : Int) := of_decide_eq_true (by first | (with_reducible assumption) | assumption); have q378 : a0 < (t375.length : Int) := of_decide_eq_true (by first | (with_reducible assumption) | assumption); obtain ⟨ad378, e378, hx378_0⟩ := Kd.at_string (Kd.R_reads' HO377.out).2.2 a0 p378 q378; cases e378; replace p378 := eq_true p378; replace q378 := eq_true q378) | ((with_reducible refine gate_callee (f := 54) rfl ?_); refine goesL_ (some 8) rfl rfl Try.func54 (by kernel_rfl) rfl #[.string (rdOf ByteArray.empty t375 a0)] rfl (by (try simp only [List.map_toArray, List.map_cons, List.map_nil]); first | done | rfl | (simp only [List.length_drop, List.length_take]; rfl) | (simp only [IntKind.wrap_u8, IntKind.wrap_u32, Int.emod_add_emod, Int.add_emod_emod] <;> rfl)) ?_; (with_reducible refine (pidginref06_Words.calls k (rdOf ByteArray.empty t375 a0) t379 _ A5.out).mono ?_); rintro e w17 ⟨v380, rfl, ho0, hb⟩; refine ⟨_, rfl, ?_⟩; have n0_ := Aside0.mk (Kd.R_elder' (by (with_reducible repeat (first | apply Kd.R_alloc | apply Kd.R_drewN | apply Kd.R_drew)); exact HO377.out) (Kd.R_base ho0) hb); have n1_ := Aside0.mk (Kd.R_lower (Kd.R_new' ho0 (Kd.R_lt (by (with_reducible repeat (first | apply Kd.R_alloc | apply Kd.R_drewN | apply Kd.R_drew)); exact HO377.out))) (below_size (by repeat (first | (with_reducible first | exact HB.out | apply below_alloc | apply pw_below_drewN | apply below_drew1) | exact HB.out)))); have n2_ := Aside0.mk (below_step (by repeat (first | (with_reducible first | exact HB.out | apply below_alloc | apply pw_below_drewN | apply below_drew1) | exact HB.out)) hb); clear HO377; clear HB; have HO377 := n0_; have HO381 := n1_; have HB := n2_; clear n0_ n1_ n2_; (try clear hb); (try clear hb2); (try clear hk); (try clear hi); (try clear ho0); obtain ⟨Ao18, co18, eo18⟩ := Kd.R_slice HO381.out; subst eo18; have p382 : 0 ≤ ((ji11) : Int) := of_decide_eq_true (by first | (with_reducible assumption) | assumption); have q382 : (ji11) < (t379.length : Int) := of_decide_eq_true (by first | (with_reducible assumption) | assumption); obtain ⟨ad382, e382, hx382_0⟩ := Kd.at_string (Kd.R_reads' HO381.out).2.2 (ji11) p382 q382; cases e382; replace p382 := eq_true p382; replace q382 := eq_true q382))
              go_ret
              exact ⟨by first | rfl | (simp [errW_none, errW_some] <;> rfl) | (simp only [← hji11]; first | rfl | (simp [errW_none, errW_some] <;> rfl)) | (simp [*, errW_none, errW_some] <;> rfl), by repeat (first | (with_reducible first | exact HB.out | apply below_alloc | apply pw_below_drewN | apply below_drew1) | exact HB.out)⟩
            · rw [if_neg c14] at H
              have c14b0 : ((rdOf ByteArray.empty t379 (ji11)).toList == ([100, 56] : List UInt8)) = false := beq_eq_false_iff_ne.mpr c14
              have c14b1 : ((rdOf ByteArray.empty t379 (ji11)).toList != ([100, 56] : List UInt8)) = true := bne_iff_ne.mpr c14
              by_cases c19 : (rdOf ByteArray.empty t379 (ji11)).toList = ([100, 49, 54] : List UInt8)
              · rw [if_pos c19] at H
                have c19b0 : ((rdOf ByteArray.empty t379 (ji11)).toList == ([100, 49, 54] : List UInt8)) = true := beq_iff_eq.mpr c19
                have c19b1 : ((rdOf ByteArray.empty t379 (ji11)).toList != ([100, 49, 54] : List UInt8)) = false := bne_eq_false_iff_eq.mpr c19
                clear c19
                obtain rfl := Option.some.inj H
                go_enter Try.func23, Try.ntmps23
                go_wp2_with (first | ((with_reducible refine gate_callee (f := 55) rfl ?_); refine goesL_ (some 4) rfl rfl Try.func55 (by kernel_rfl) rfl #[] rfl (by (try simp only [List.map_toArray, List.map_cons, List.map_nil]); first | done | rfl | (simp only [List.length_drop, List.length_take]; rfl) | (simp only [IntKind.wrap_u8, IntKind.wrap_u32, Int.emod_add_emod, Int.add_emod_emod] <;> rfl)) ?_; (with_reducible refine (pidginref06_Forms.calls  t375 _ A2.out).mono ?_); rintro e w20 ⟨v376, rfl, ho0, hb⟩; refine ⟨_, rfl, ?_⟩; have n0_ := Aside0.mk (Kd.R_lower ho0 (below_size (by repeat (first | (with_reducible first | exact HB.out | apply below_alloc | apply pw_below_drewN | apply below_drew1) | exact HB.out)))); have n1_ := Aside0.mk (below_step (by repeat (first | (with_reducible first | exact HB.out | apply below_alloc | apply pw_below_drewN | apply below_drew1) | exact HB.out)) hb); clear HB; have HO377 := n0_; have HB := n1_; clear n0_ n1_; (try clear hb); (try clear hb2); (try clear hk); (try clear hi); (try clear ho0); obtain ⟨Ao21, co21, eo21⟩ := Kd.R_slice HO377.out; subst eo21; have p378 : 0 ≤ (a0 : Int) := of_decide_eq_true (by first | (with_reducible assumption) | assumption); have q378 : a0 < (t375.length : Int) := of_decide_eq_true (by first | (with_reducible assumption) | assumption); obtain ⟨ad378, e378, hx378_0⟩ := Kd.at_string (Kd.R_reads' HO377.out).2.2 a0 p378 q378; cases e378; replace p378 := eq_true p378; replace q378 := eq_true q378) | ((with_reducible refine gate_callee (f := 54) rfl ?_); refine goesL_ (some 8) rfl rfl Try.func54 (by kernel_rfl) rfl #[.string (rdOf ByteArray.empty t375 a0)] rfl (by (try simp only [List.map_toArray, List.map_cons, List.map_nil]); first | done | rfl | (simp only [List.length_drop, List.length_take]; rfl) | (simp only [IntKind.wrap_u8, IntKind.wrap_u32, Int.emod_add_emod, Int.add_emod_emod] <;> rfl)) ?_; (with_reducible refine (pidginref06_Words.calls k (rdOf ByteArray.empty t375 a0) t379 _ A5.out).mono ?_); rintro e w22 ⟨v380, rfl, ho0, hb⟩; refine ⟨_, rfl, ?_⟩; have n0_ := Aside0.mk (Kd.R_elder' (by (with_reducible repeat (first | apply Kd.R_alloc | apply Kd.R_drewN | apply Kd.R_drew)); exact HO377.out) (Kd.R_base ho0) hb); have n1_ := Aside0.mk (Kd.R_lower (Kd.R_new' ho0 (Kd.R_lt (by (with_reducible repeat (first | apply Kd.R_alloc | apply Kd.R_drewN | apply Kd.R_drew)); exact HO377.out))) (below_size (by repeat (first | (with_reducible first | exact HB.out | apply below_alloc | apply pw_below_drewN | apply below_drew1) | exact HB.out)))); have n2_ := Aside0.mk (below_step (by repeat (first | (with_reducible first | exact HB.out | apply below_alloc | apply pw_below_drewN | apply below_drew1) | exact HB.out)) hb); clear HO377; clear HB; have HO377 := n0_; have HO381 := n1_; have HB := n2_; clear n0_ n1_ n2_; (try clear hb); (try clear hb2); (try clear hk); (try clear hi); (try clear ho0); obtain ⟨Ao23, co23, eo23⟩ := Kd.R_slice HO381.out; subst eo23; have p382 : 0 ≤ ((ji11) : Int) := of_decide_eq_true (by first | (with_reducible assumption) | assumption); have q382 : (ji11) < (t379.length : Int) := of_decide_eq_true (by first | (with_reducible assumption) | assumption); obtain ⟨ad382, e382, hx382_0⟩ := Kd.at_string (Kd.R_reads' HO381.out).2.2 (ji11) p382 q382; cases e382; replace p382 := eq_true p382; replace q382 := eq_true q382; have p383 : 0 ≤ ((ji11) : Int) := of_decide_eq_true (by first | (with_reducible assumption) | assumption); have q383 : (ji11) < (t379.length : Int) := of_decide_eq_true (by first | (with_reducible assumption) | assumption); obtain ⟨ad383, e383, hx383_0⟩ := Kd.at_string (Kd.R_reads' HO381.out).2.2 (ji11) p383 q383; obtain rfl : ad382 = ad383 := (by injection e383); replace p383 := eq_true p383; replace q383 := eq_true q383))
                go_ret
                exact ⟨by first | rfl | (simp [errW_none, errW_some] <;> rfl) | (simp only [← hji11]; first | rfl | (simp [errW_none, errW_some] <;> rfl)) | (simp [*, errW_none, errW_some] <;> rfl), by repeat (first | (with_reducible first | exact HB.out | apply below_alloc | apply pw_below_drewN | apply below_drew1) | exact HB.out)⟩
              · rw [if_neg c19] at H
                have c19b0 : ((rdOf ByteArray.empty t379 (ji11)).toList == ([100, 49, 54] : List UInt8)) = false := beq_eq_false_iff_ne.mpr c19
                have c19b1 : ((rdOf ByteArray.empty t379 (ji11)).toList != ([100, 49, 54] : List UInt8)) = true := bne_iff_ne.mpr c19
                obtain rfl := Option.some.inj H
                go_enter Try.func23, Try.ntmps23
                go_wp2_with (first | ((with_reducible refine gate_callee (f := 55) rfl ?_); refine goesL_ (some 4) rfl rfl Try.func55 (by kernel_rfl) rfl #[] rfl (by (try simp only [List.map_toArray, List.map_cons, List.map_nil]); first | done | rfl | (simp only [List.length_drop, List.length_take]; rfl) | (simp only [IntKind.wrap_u8, IntKind.wrap_u32, Int.emod_add_emod, Int.add_emod_emod] <;> rfl)) ?_; (with_reducible refine (pidginref06_Forms.calls  t375 _ A2.out).mono ?_); rintro e w24 ⟨v376, rfl, ho0, hb⟩; refine ⟨_, rfl, ?_⟩; have n0_ := Aside0.mk (Kd.R_lower ho0 (below_size (by repeat (first | (with_reducible first | exact HB.out | apply below_alloc | apply pw_below_drewN | apply below_drew1) | exact HB.out)))); have n1_ := Aside0.mk (below_step (by repeat (first | (with_reducible first | exact HB.out | apply below_alloc | apply pw_below_drewN | apply below_drew1) | exact HB.out)) hb); clear HB; have HO377 := n0_; have HB := n1_; clear n0_ n1_; (try clear hb); (try clear hb2); (try clear hk); (try clear hi); (try clear ho0); obtain ⟨Ao25, co25, eo25⟩ := Kd.R_slice HO377.out; subst eo25; have p378 : 0 ≤ (a0 : Int) := of_decide_eq_true (by first | (with_reducible assumption) | assumption); have q378 : a0 < (t375.length : Int) := of_decide_eq_true (by first | (with_reducible assumption) | assumption); obtain ⟨ad378, e378, hx378_0⟩ := Kd.at_string (Kd.R_reads' HO377.out).2.2 a0 p378 q378; cases e378; replace p378 := eq_true p378; replace q378 := eq_true q378) | ((with_reducible refine gate_callee (f := 54) rfl ?_); refine goesL_ (some 8) rfl rfl Try.func54 (by kernel_rfl) rfl #[.string (rdOf ByteArray.empty t375 a0)] rfl (by (try simp only [List.map_toArray, List.map_cons, List.map_nil]); first | done | rfl | (simp only [List.length_drop, List.length_take]; rfl) | (simp only [IntKind.wrap_u8, IntKind.wrap_u32, Int.emod_add_emod, Int.add_emod_emod] <;> rfl)) ?_; (with_reducible refine (pidginref06_Words.calls k (rdOf ByteArray.empty t375 a0) t379 _ A5.out).mono ?_); rintro e w26 ⟨v380, rfl, ho0, hb⟩; refine ⟨_, rfl, ?_⟩; have n0_ := Aside0.mk (Kd.R_elder' (by (with_reducible repeat (first | apply Kd.R_alloc | apply Kd.R_drewN | apply Kd.R_drew)); exact HO377.out) (Kd.R_base ho0) hb); have n1_ := Aside0.mk (Kd.R_lower (Kd.R_new' ho0 (Kd.R_lt (by (with_reducible repeat (first | apply Kd.R_alloc | apply Kd.R_drewN | apply Kd.R_drew)); exact HO377.out))) (below_size (by repeat (first | (with_reducible first | exact HB.out | apply below_alloc | apply pw_below_drewN | apply below_drew1) | exact HB.out)))); have n2_ := Aside0.mk (below_step (by repeat (first | (with_reducible first | exact HB.out | apply below_alloc | apply pw_below_drewN | apply below_drew1) | exact HB.out)) hb); clear HO377; clear HB; have HO377 := n0_; have HO381 := n1_; have HB := n2_; clear n0_ n1_ n2_; (try clear hb); (try clear hb2); (try clear hk); (try clear hi); (try clear ho0); obtain ⟨Ao27, co27, eo27⟩ := Kd.R_slice HO381.out; subst eo27; have p382 : 0 ≤ ((ji11) : Int) := of_decide_eq_true (by first | (with_reducible assumption) | assumption); have q382 : (ji11) < (t379.length : Int) := of_decide_eq_true (by first | (with_reducible assumption) | assumption); obtain ⟨ad382, e382, hx382_0⟩ := Kd.at_string (Kd.R_reads' HO381.out).2.2 (ji11) p382 q382; cases e382; replace p382 := eq_true p382; replace q382 := eq_true q382; have p383 : 0 ≤ ((ji11) : Int) := of_decide_eq_true (by first | (with_reducible assumption) | assumption); have q383 : (ji11) < (t379.length : Int) := of_decide_eq_true (by first | (with_reducible assumption) | assumption); obtain ⟨ad383, e383, hx383_0⟩ := Kd.at_string (Kd.R_reads' HO381.out).2.2 (ji11) p383 q383; obtain rfl : ad382 = ad383 := (by injection e383); replace p383 := eq_true p383; replace q383 := eq_true q383))
                go_ret
                exact ⟨by first | rfl | (simp [errW_none, errW_some] <;> rfl) | (simp only [← hji11]; first | rfl | (simp [errW_none, errW_some] <;> rfl)) | (simp [*, errW_none, errW_some] <;> rfl), by repeat (first | (with_reducible first | exact HB.out | apply below_alloc | apply pw_below_drewN | apply below_drew1) | exact HB.out)⟩
          · rw [if_neg c13] at H
            exact absurd H (by simp)
        · rw [if_neg c12] at H
          exact absurd H (by simp)
    · rw [if_neg c4] at H
      exact absurd H (by simp)
  · rw [if_neg c3] at H
    exact absurd H (by simp)

/-! ### isa80_Bytes: function 25 -/
def isa80_Bytes.j0 : Nat → List Int → Int → Bool → Int → Int → Option (List Int × Int)
  | 0, _, _, _, _, _ => none
  | k + 1, x4, x5, x22, x385000, x385001 => if x22 = true then (some (([] : List Int), 5)) else (if x5 < 2 then (if x385001 = 0 then (if 0 ≤ x5 then (if x5 ≤ (x4.length : Int) then (some ((x4.take (x5 : Int).toNat), 0)) else (none)) else (none)) else (some (([] : List Int), 5))) else (if 0 ≤ x5 then (if x5 ≤ (x4.length : Int) then (some ((x4.take (x5 : Int).toNat), 0)) else (none)) else (none)))
def isa80_Bytes.f (k : Nat) (a0_0 : Int) (a0_1 : Int) : Option (List Int × Int) := (some (([a0_0, (a0_1) % 256, (a0_1 / 256) % 256] : List Int) : List Int)).bind fun y385 => ((isa80_Size.f k a0_0).bind fun t388 => (if t388 = 0 then (some (([] : List Int), 8)) else (if t388 < 3 then (isa80_Bytes.j0 k y385 t388 ((a0_1 / 256) != 0) a0_0 a0_1) else (isa80_Bytes.j0 k y385 t388 false a0_0 a0_1))))
theorem isa80_Bytes.mono_l : ∀ k, (∀ y0 y1 y2 y3 y4, LeO (isa80_Bytes.j0 k y0 y1 y2 y3 y4) (isa80_Bytes.j0 (k + 1) y0 y1 y2 y3 y4))
  | 0 => fun _ _ _ _ _ r h => by simp [isa80_Bytes.j0] at h
  | k + 1 => by
    have ih0 := isa80_Bytes.mono_l k
    · intro y0 y1 y2 y3 y4
      unfold isa80_Bytes.j0
      repeat' first
      | (with_reducible exact ih0 _ _ _ _ _)
      | (with_reducible exact isa80_Size.mono _ _)
      | (with_reducible exact LeO.refl _)
      | (with_reducible exact LeO.none _)
      | (with_reducible refine LeO.ite ?_ ?_)
      | (with_reducible refine LeO.bind ?_ (fun _ => ?_))
      | exact ih0 _ _ _ _ _
      | exact isa80_Size.mono _ _
      | exact LeO.none _
      | refine LeO.ite ?_ ?_
      | refine LeO.bind ?_ (fun _ => ?_)
theorem isa80_Bytes.mono : ∀ a0 a1 k, LeO (isa80_Bytes.f k a0 a1) (isa80_Bytes.f (k + 1) a0 a1) := by
  intro a0 a1 k
  have ih0 := isa80_Bytes.mono_l k
  unfold isa80_Bytes.f
  repeat' first
      | (with_reducible exact ih0 _ _ _ _ _)
      | (with_reducible exact isa80_Size.mono _ _)
      | (with_reducible exact LeO.refl _)
      | (with_reducible exact LeO.none _)
      | (with_reducible refine LeO.ite ?_ ?_)
      | (with_reducible refine LeO.bind ?_ (fun _ => ?_))
      | exact ih0 _ _ _ _ _
      | exact isa80_Size.mono _ _
      | exact LeO.none _
      | refine LeO.ite ?_ ?_
      | refine LeO.bind ?_ (fun _ => ?_)
set_option maxHeartbeats 8000000 in
set_option maxRecDepth 100000 in
theorem isa80_Bytes.calls (k : Nat) (a0_0 : Int) (a0_1 : Int) (r1 : List Int) (r2 : Int) (w : World) (h : isa80_Bytes.f k a0_0 a0_1 = some (r1, r2)) :
    Calls Try.prog 25 #[.agg #[.int .u8 a0_0, .int .u16 a0_1]] w fun e w' => ∃ v0_ : Value, e = .returned (.tuple #[v0_, .int .i64 r2]) ∧ Kd.V (Kd.int .u8) 5 w' w.heap.size (fun k_ => (w.heap.size ≤ k_)) v0_ r1 ∧ Below w.heap.size w w' := by
  have hu45 := Try.underlying45
  have HB := Aside0.mk (Below.refl w.heap.size w)
  have H : ((some (([a0_0, (a0_1) % 256, (a0_1 / 256) % 256] : List Int) : List Int)).bind fun y385 => ((isa80_Size.f k a0_0).bind fun t388 => (if t388 = 0 then (some (([] : List Int), 8)) else (if t388 < 3 then (isa80_Bytes.j0 k y385 t388 ((a0_1 / 256) != 0) a0_0 a0_1) else (isa80_Bytes.j0 k y385 t388 false a0_0 a0_1))))) = some (r1, r2) := h
  clear h
  obtain ⟨y385, hy385⟩ : ∃ y_ : List Int, y_ = (([a0_0, (a0_1) % 256, (a0_1 / 256) % 256] : List Int)) := ⟨_, rfl⟩
  replace H : ((isa80_Size.f k a0_0).bind fun t388 => (if t388 = 0 then (some (([] : List Int), 8)) else (if t388 < 3 then (isa80_Bytes.j0 k y385 t388 ((a0_1 / 256) != 0) a0_0 a0_1) else (isa80_Bytes.j0 k y385 t388 false a0_0 a0_1)))) = some (r1, r2) := by first | (rw [hy385]; with_reducible exact H) | (have H2_ := (Option.bind_some _ _).symm.trans H; rw [hy385]; with_reducible exact H2_) | (have H2_ := (Option.bind_some _ _).symm.trans H; with_reducible exact H2_) | with_reducible exact H | (rw [hy385]; exact H) | exact H
  have Ny385 := Aside0.mk hy385
  clear hy385
  replace H := Option.bind_eq_some_iff.mp H
  obtain ⟨t388, A20, H⟩ := H
  replace H : (if t388 = 0 then (some (([] : List Int), 8)) else (if t388 < 3 then (isa80_Bytes.j0 k y385 t388 ((a0_1 / 256) != 0) a0_0 a0_1) else (isa80_Bytes.j0 k y385 t388 false a0_0 a0_1))) = some (r1, r2) := H
  have A2 := Aside0.mk A20
  clear A20
  by_cases c3 : t388 = 0
  · rw [if_pos c3] at H
    have c3b0 : (t388 == 0) = true := beq_iff_eq.mpr c3
    have c3b1 : (t388 != 0) = false := bne_eq_false_iff_eq.mpr c3
    clear c3
    simp only [Option.some.injEq, Prod.mk.injEq] at H
    obtain ⟨rfl, rfl⟩ := H
    go_enter Try.func25, Try.ntmps25
    go_wp2_with (first | ((with_reducible refine gate_dst (N := 1) rfl ?_); refine box_event ?hg (N := 1) ?hd (cs := #[.int .u8 a0_0, .int .u16 a0_1]) (t := 45) ?hr ?_; (case hd => rfl); (case hg => rfl); (case hr => first | (go_simp; done) | (go_simp; rfl)); intro gb384 hg w4 hbox hb; have n0_ := Aside0.mk (below_step (by repeat (first | (with_reducible first | exact HB.out | apply below_alloc | apply pw_below_drewN | apply below_drew1) | exact HB.out)) hb); have n1_ := Aside0.mk (hbox); have n2_ := Aside0.mk ((by rw [hg]; exact (below_size (by repeat (first | (with_reducible first | exact HB.out | apply below_alloc | apply pw_below_drewN | apply below_drew1) | exact HB.out))) : w.heap.size ≤ gb384)); have n3_ := Aside0.mk ((by rw [hg]; exact (below_size (by repeat (first | (with_reducible first | exact HB.out | apply below_alloc | apply pw_below_drewN | apply below_drew1) | exact HB.out))) : w.heap.size ≤ gb384)); clear HB; have HB := n0_; have BK384 := n1_; have GW384 := n2_; have GE384 := n3_; clear n0_ n1_ n2_ n3_; clear hb hbox hg; have hcz5_0 : w4.cell? ⟨gb384, 0, none⟩ = some (.int .u8 a0_0) := (blk_cell BK384.out 0).trans rfl; have hcz5_1 : w4.cell? ⟨gb384, 1, none⟩ = some (.int .u16 a0_1) := (blk_cell BK384.out 1).trans rfl; have hfz5_0 := blk_frozen BK384.out 0; have hfz5_1 := blk_frozen BK384.out 1) | ((with_reducible refine gate_dst (N := 15) rfl ?_); refine Kd.R_lit (Kd.int .u8) _ 5 ?hg (N := 15) ?hd (xs := ([a0_0, (a0_1) % 256, (a0_1 / 256) % 256] : List Int)) (inner := [.int .u8 a0_0, .int .u8 ((a0_1) % 256), .int .u8 ((a0_1 / 256) % 256)]) (ok := fun _ => True) (okp := fun _ => True) ?hr ?hp (fun _ hk => hk) trivial (Below.refl _ _) (Nat.le_refl _) (by simp) ?_; (case hd => rfl); (case hg => rfl); (case hr => first | (go_simp; done) | (go_simp; rfl)); (case hp => exact (Reps.one (show Kd.M (Kd.int .u8) _ _ _ a0_0 [.int .u8 a0_0] from rfl) (Reps.one (show Kd.M (Kd.int .u8) _ _ _ ((a0_1) % 256) [.int .u8 ((a0_1) % 256)] from rfl) (Reps.one (show Kd.M (Kd.int .u8) _ _ _ ((a0_1 / 256) % 256) [.int .u8 ((a0_1 / 256) % 256)] from rfl) (Reps.none _ _))))); intro v386 w6 ho7 hb hg_ hnew_; clear hg_ hnew_; (first | rw [← Ny385.out] at ho7 | (simp only [Int.reduceToNat] at ho7; rw [← Ny385.out] at ho7)); have n0_ := Aside0.mk (Kd.R_lower (Kd.R_newM (M := fun k_ => (w.heap.size ≤ k_)) ho7 (below_size (by repeat (first | (with_reducible first | exact HB.out | apply below_alloc | apply pw_below_drewN | apply below_drew1 | refine below_set ?_ GE384.out) | exact HB.out))) (fun k_ h_ => h_)) (below_size (by repeat (first | (with_reducible first | exact HB.out | apply below_alloc | apply pw_below_drewN | apply below_drew1 | refine below_set ?_ GE384.out) | exact HB.out)))); have n1_ := Aside0.mk (blk_below (g := gb384) (o := .cells #[.int .u8 a0_0, .int .u16 a0_1] 45 (0, 0)) (by (with_reducible repeat (first | refine blk_drewN ?_ _ | refine blk_drew ?_ | refine blk_alloc ?_ _)); exact BK384.out) hb); have n2_ := Aside0.mk (below_step (by repeat (first | (with_reducible first | exact HB.out | apply below_alloc | apply pw_below_drewN | apply below_drew1 | refine below_set ?_ GE384.out) | exact HB.out)) hb); clear BK384; clear HB; have HO387 := n0_; have BK384 := n1_; have HB := n2_; clear n0_ n1_ n2_; clear hb ho7; have hcz8_0 : w6.cell? ⟨gb384, 0, none⟩ = some (.int .u8 a0_0) := (blk_cell BK384.out 0).trans rfl; have hcz8_1 : w6.cell? ⟨gb384, 1, none⟩ = some (.int .u16 a0_1) := (blk_cell BK384.out 1).trans rfl; have hfz8_0 := blk_frozen BK384.out 0; have hfz8_1 := blk_frozen BK384.out 1) | ((with_reducible refine gate_callee (f := 22) rfl ?_); refine goesL_ (some 18) rfl rfl Try.func22 (by kernel_rfl) rfl #[.int .u8 a0_0] rfl (by (try simp only [List.map_toArray, List.map_cons, List.map_nil]); first | done | rfl | (simp only [List.length_drop, List.length_take]; rfl) | (simp only [IntKind.wrap_u8, IntKind.wrap_u32, Int.emod_add_emod, Int.add_emod_emod] <;> rfl)) ?_; (with_reducible refine (isa80_Size.calls k a0_0 t388 _ A2.out).mono ?_); rintro e w9 ⟨rfl, hb⟩; refine ⟨_, rfl, ?_⟩; have n0_ := Aside0.mk (Kd.R_below (by (with_reducible repeat (first | apply Kd.R_alloc | apply Kd.R_drewN | apply Kd.R_drew)); exact HO387.out) hb); have n1_ := Aside0.mk (blk_below (g := gb384) (o := .cells #[.int .u8 a0_0, .int .u16 a0_1] 45 (0, 0)) (by (with_reducible repeat (first | refine blk_drewN ?_ _ | refine blk_drew ?_ | refine blk_alloc ?_ _)); exact BK384.out) hb); have n2_ := Aside0.mk (below_step (by repeat (first | (with_reducible first | exact HB.out | apply below_alloc | apply pw_below_drewN | apply below_drew1 | refine below_set ?_ GE384.out) | exact HB.out)) hb); clear HO387; clear BK384; clear HB; have HO387 := n0_; have BK384 := n1_; have HB := n2_; clear n0_ n1_ n2_; (try clear hb); (try clear hb2); (try clear hk); (try clear hi)))
    go_ret2
    exact ⟨_, by first | rfl | (simp [errW_none, errW_some] <;> rfl) | (simp [*, errW_none, errW_some] <;> rfl), (Kd.V_nil _ _ _ _ _), by repeat (first | (with_reducible first | exact HB.out | apply below_alloc | apply pw_below_drewN | apply below_drew1 | refine below_set ?_ GE384.out) | exact HB.out)⟩
  · rw [if_neg c3] at H
    have c3b0 : (t388 == 0) = false := beq_eq_false_iff_ne.mpr c3
    have c3b1 : (t388 != 0) = true := bne_iff_ne.mpr c3
    have HC10 := Aside0.mk H
    clear H
    go_enter Try.func25, Try.ntmps25
    go_upto_region 5 with (first | ((with_reducible refine gate_dst (N := 1) rfl ?_); refine box_event ?hg (N := 1) ?hd (cs := #[.int .u8 a0_0, .int .u16 a0_1]) (t := 45) ?hr ?_; (case hd => rfl); (case hg => rfl); (case hr => first | (go_simp; done) | (go_simp; rfl)); intro gb384 hg w11 hbox hb; have n0_ := Aside0.mk (below_step (by repeat (first | (with_reducible first | exact HB.out | apply below_alloc | apply pw_below_drewN | apply below_drew1) | exact HB.out)) hb); have n1_ := Aside0.mk (hbox); have n2_ := Aside0.mk ((by rw [hg]; exact (below_size (by repeat (first | (with_reducible first | exact HB.out | apply below_alloc | apply pw_below_drewN | apply below_drew1) | exact HB.out))) : w.heap.size ≤ gb384)); have n3_ := Aside0.mk ((by rw [hg]; exact (below_size (by repeat (first | (with_reducible first | exact HB.out | apply below_alloc | apply pw_below_drewN | apply below_drew1) | exact HB.out))) : w.heap.size ≤ gb384)); clear HB; have HB := n0_; have BK384 := n1_; have GW384 := n2_; have GE384 := n3_; clear n0_ n1_ n2_ n3_; clear hb hbox hg; have hcz12_0 : w11.cell? ⟨gb384, 0, none⟩ = some (.int .u8 a0_0) := (blk_cell BK384.out 0).trans rfl; have hcz12_1 : w11.cell? ⟨gb384, 1, none⟩ = some (.int .u16 a0_1) := (blk_cell BK384.out 1).trans rfl; have hfz12_0 := blk_frozen BK384.out 0; have hfz12_1 := blk_frozen BK384.out 1) | ((with_reducible refine gate_dst (N := 15) rfl ?_); refine Kd.R_lit (Kd.int .u8) _ 5 ?hg (N := 15) ?hd (xs := ([a0_0, (a0_1) % 256, (a0_1 / 256) % 256] : List Int)) (inner := [.int .u8 a0_0, .int .u8 ((a0_1) % 256), .int .u8 ((a0_1 / 256) % 256)]) (ok := fun _ => True) (okp := fun _ => True) ?hr ?hp (fun _ hk => hk) trivial (Below.refl _ _) (Nat.le_refl _) (by simp) ?_; (case hd => rfl); (case hg => rfl); (case hr => first | (go_simp; done) | (go_simp; rfl)); (case hp => exact (Reps.one (show Kd.M (Kd.int .u8) _ _ _ a0_0 [.int .u8 a0_0] from rfl) (Reps.one (show Kd.M (Kd.int .u8) _ _ _ ((a0_1) % 256) [.int .u8 ((a0_1) % 256)] from rfl) (Reps.one (show Kd.M (Kd.int .u8) _ _ _ ((a0_1 / 256) % 256) [.int .u8 ((a0_1 / 256) % 256)] from rfl) (Reps.none _ _))))); intro v386 w13 ho14 hb hg_ hnew_; clear hg_ hnew_; (first | rw [← Ny385.out] at ho14 | (simp only [Int.reduceToNat] at ho14; rw [← Ny385.out] at ho14)); have n0_ := Aside0.mk (Kd.R_lower (Kd.R_newM (M := fun k_ => (w.heap.size ≤ k_)) ho14 (below_size (by repeat (first | (with_reducible first | exact HB.out | apply below_alloc | apply pw_below_drewN | apply below_drew1 | refine below_set ?_ GE384.out) | exact HB.out))) (fun k_ h_ => h_)) (below_size (by repeat (first | (with_reducible first | exact HB.out | apply below_alloc | apply pw_below_drewN | apply below_drew1 | refine below_set ?_ GE384.out) | exact HB.out)))); have n1_ := Aside0.mk (blk_below (g := gb384) (o := .cells #[.int .u8 a0_0, .int .u16 a0_1] 45 (0, 0)) (by (with_reducible repeat (first | refine blk_drewN ?_ _ | refine blk_drew ?_ | refine blk_alloc ?_ _)); exact BK384.out) hb); have n2_ := Aside0.mk (below_step (by repeat (first | (with_reducible first | exact HB.out | apply below_alloc | apply pw_below_drewN | apply below_drew1 | refine below_set ?_ GE384.out) | exact HB.out)) hb); clear BK384; clear HB; have HO387 := n0_; have BK384 := n1_; have HB := n2_; clear n0_ n1_ n2_; clear hb ho14; have hcz15_0 : w13.cell? ⟨gb384, 0, none⟩ = some (.int .u8 a0_0) := (blk_cell BK384.out 0).trans rfl; have hcz15_1 : w13.cell? ⟨gb384, 1, none⟩ = some (.int .u16 a0_1) := (blk_cell BK384.out 1).trans rfl; have hfz15_0 := blk_frozen BK384.out 0; have hfz15_1 := blk_frozen BK384.out 1) | ((with_reducible refine gate_callee (f := 22) rfl ?_); refine goesL_ (some 18) rfl rfl Try.func22 (by kernel_rfl) rfl #[.int .u8 a0_0] rfl (by (try simp only [List.map_toArray, List.map_cons, List.map_nil]); first | done | rfl | (simp only [List.length_drop, List.length_take]; rfl) | (simp only [IntKind.wrap_u8, IntKind.wrap_u32, Int.emod_add_emod, Int.add_emod_emod] <;> rfl)) ?_; (with_reducible refine (isa80_Size.calls k a0_0 t388 _ A2.out).mono ?_); rintro e w16 ⟨rfl, hb⟩; refine ⟨_, rfl, ?_⟩; have n0_ := Aside0.mk (Kd.R_below (by (with_reducible repeat (first | apply Kd.R_alloc | apply Kd.R_drewN | apply Kd.R_drew)); exact HO387.out) hb); have n1_ := Aside0.mk (blk_below (g := gb384) (o := .cells #[.int .u8 a0_0, .int .u16 a0_1] 45 (0, 0)) (by (with_reducible repeat (first | refine blk_drewN ?_ _ | refine blk_drew ?_ | refine blk_alloc ?_ _)); exact BK384.out) hb); have n2_ := Aside0.mk (below_step (by repeat (first | (with_reducible first | exact HB.out | apply below_alloc | apply pw_below_drewN | apply below_drew1 | refine below_set ?_ GE384.out) | exact HB.out)) hb); clear HO387; clear BK384; clear HB; have HO387 := n0_; have BK384 := n1_; have HB := n2_; clear n0_ n1_ n2_; (try clear hb); (try clear hb2); (try clear hk); (try clear hi)))
    (try simp only [Act.put, List.setIfInBounds_toArray, List.set_cons_zero, List.set_cons_succ])
    go_cut [22] (fun v22 wc => ∃ (kq : Nat) (x22_9 : Bool), v22 = .bool x22_9 ∧ Aside0 (isa80_Bytes.j0 kq y385 t388 x22_9 a0_0 a0_1 = some (r1, r2)) ∧ Aside0 (kq ≤ k) ∧ Aside0 (Kd.R (Kd.int .u8) 5 wc w.heap.size (fun k_ => (w.heap.size ≤ k_)) v386 y385) ∧ Aside0 (wc.heap[gb384]? = some (.cells #[.int .u8 a0_0, .int .u16 a0_1] 45 (0, 0))) ∧ Aside0 (Below w.heap.size w wc))
    case first =>
      have H := HC10.out
      clear HC10
      by_cases c17 : t388 < 3
      · rw [if_pos c17] at H
        have c17b0 : decide (t388 < 3) = true := decide_eq_true c17
        clear c17
        (first | rw [c17b0] | (simp only [i64_w, i32_w]; rw [c17b0]) | skip)
        have H' := Aside0.mk H
        clear H
        have hcz18_0 : w16.cell? ⟨gb384, 0, none⟩ = some (.int .u8 a0_0) := (blk_cell BK384.out 0).trans rfl
        have hcz18_1 : w16.cell? ⟨gb384, 1, none⟩ = some (.int .u16 a0_1) := (blk_cell BK384.out 1).trans rfl
        have hfz18_0 := blk_frozen BK384.out 0
        have hfz18_1 := blk_frozen BK384.out 1
        go_wp2
        go_meet
        case rel => exact ⟨_, (((a0_1 / 256) != 0)), (by first | rfl | (simp; done) | (simp [*]; done)), H', ⟨by first | omega | exact Nat.le_refl _⟩, ⟨by (with_reducible repeat (first | apply Kd.R_alloc | apply Kd.R_drewN | apply Kd.R_drew)); exact Kd.R_mono HO387.out (fun _ hk => hk.1)⟩, ⟨by (with_reducible repeat (first | refine blk_drewN ?_ _ | refine blk_drew ?_ | refine blk_alloc ?_ _)); exact BK384.out⟩, ⟨by repeat (first | (with_reducible first | exact HB.out | apply below_alloc | apply pw_below_drewN | apply below_drew1 | refine below_set ?_ GE384.out) | exact HB.out)⟩⟩
      · rw [if_neg c17] at H
        have c17b0 : decide (t388 < 3) = false := decide_eq_false c17
        clear c17
        (first | rw [c17b0] | (simp only [i64_w, i32_w]; rw [c17b0]) | skip)
        have H' := Aside0.mk H
        clear H
        go_wp2
        go_meet
        case rel => exact ⟨_, (false), (by first | rfl | (simp; done) | (simp [*]; done)), H', ⟨by first | omega | exact Nat.le_refl _⟩, ⟨by (with_reducible repeat (first | apply Kd.R_alloc | apply Kd.R_drewN | apply Kd.R_drew)); exact Kd.R_mono HO387.out (fun _ hk => hk.1)⟩, ⟨by (with_reducible repeat (first | refine blk_drewN ?_ _ | refine blk_drew ?_ | refine blk_alloc ?_ _)); exact BK384.out⟩, ⟨by repeat (first | (with_reducible first | exact HB.out | apply below_alloc | apply pw_below_drewN | apply below_drew1 | refine below_set ?_ GE384.out) | exact HB.out)⟩⟩
    case rest =>
      clear HC10
      try clear c1
      try clear c2
      try clear p2
      try clear c3
      try clear c3b0
      try clear c3b1
      try clear c17
      try clear c17b0
      try clear hcz12_0
      try clear hcz12_1
      try clear hcz15_0
      try clear hcz15_1
      try clear hcz18_0
      try clear hcz18_1
      try clear hcz5_0
      try clear hcz5_1
      try clear hcz8_0
      try clear hcz8_1
      try clear hfz12_0
      try clear hfz12_1
      try clear hfz15_0
      try clear hfz15_1
      try clear hfz18_0
      try clear hfz18_1
      try clear hfz5_0
      try clear hfz5_1
      try clear hfz8_0
      try clear hfz8_1
      obtain ⟨kq, x22_9, rfl, HA, HJ9, HO_4, BK384, HB⟩ := hcut
      cases kq with
      | zero => exact absurd HA.out (by simp [isa80_Bytes.j0])
      | succ kj9 =>
        have H := HA.out
        clear HA
        simp only [isa80_Bytes.j0] at H
        by_cases c19 : x22_9 = true
        · subst c19
          have H1 : (some (([] : List Int), 5)) = some (r1, r2) := by rw [if_pos rfl] at H; exact H
          clear H
          have H := H1
          clear H1
          simp only [Option.some.injEq, Prod.mk.injEq] at H
          obtain ⟨rfl, rfl⟩ := H
          go_wp2
          go_ret2
          exact ⟨_, by first | rfl | (simp [errW_none, errW_some] <;> rfl) | (simp [*, errW_none, errW_some] <;> rfl), (Kd.V_nil _ _ _ _ _), by repeat (first | (with_reducible first | exact HB.out | apply below_alloc | apply pw_below_drewN | apply below_drew1 | refine below_set ?_ GE384.out) | exact HB.out)⟩
        · replace c19 := Bool.eq_false_iff.mpr c19
          subst c19
          have H1 : (if t388 < 2 then (if a0_1 = 0 then (if 0 ≤ t388 then (if t388 ≤ (y385.length : Int) then (some ((y385.take (t388 : Int).toNat), 0)) else (none)) else (none)) else (some (([] : List Int), 5))) else (if 0 ≤ t388 then (if t388 ≤ (y385.length : Int) then (some ((y385.take (t388 : Int).toNat), 0)) else (none)) else (none))) = some (r1, r2) := by rw [if_neg (show ¬ (false = true) by decide)] at H; exact H
          clear H
          have H := H1
          clear H1
          by_cases c20 : t388 < 2
          · rw [if_pos c20] at H
            have c20b0 : decide (t388 < 2) = true := decide_eq_true c20
            clear c20
            by_cases c21 : a0_1 = 0
            · rw [if_pos c21] at H
              have c21b0 : (a0_1 == 0) = true := beq_iff_eq.mpr c21
              have c21b1 : (a0_1 != 0) = false := bne_eq_false_iff_eq.mpr c21
              clear c21
              by_cases c22 : 0 ≤ t388
              · rw [if_pos c22] at H
                have c22b0 := eq_true c22
                have c22b1 : decide (0 ≤ t388) = true := decide_eq_true c22
                clear c22
                by_cases c23 : t388 ≤ (y385.length : Int)
                · rw [if_pos c23] at H
                  have c23b0 := eq_true c23
                  have c23b1 : decide (t388 ≤ (y385.length : Int)) = true := decide_eq_true c23
                  clear c23
                  obtain ⟨y389, hy389⟩ : ∃ y_ : List Int, y_ = (y385.take (t388 : Int).toNat) := ⟨_, rfl⟩
                  replace H : (some (y389, 0)) = some (r1, r2) := by first | (rw [hy389]; with_reducible exact H) | (have H2_ := (Option.bind_some _ _).symm.trans H; rw [hy389]; with_reducible exact H2_) | (have H2_ := (Option.bind_some _ _).symm.trans H; with_reducible exact H2_) | with_reducible exact H | (rw [hy389]; exact H) | exact H
                  have Ny389 := Aside0.mk hy389
                  clear hy389
                  simp only [Option.some.injEq, Prod.mk.injEq] at H
                  obtain ⟨rfl, rfl⟩ := H
                  have hcz24_0 : wc.cell? ⟨gb384, 0, none⟩ = some (.int .u8 a0_0) := (blk_cell BK384.out 0).trans rfl
                  have hcz24_1 : wc.cell? ⟨gb384, 1, none⟩ = some (.int .u16 a0_1) := (blk_cell BK384.out 1).trans rfl
                  have hfz24_0 := blk_frozen BK384.out 0
                  have hfz24_1 := blk_frozen BK384.out 1
                  obtain ⟨Ao26, co26, eo26⟩ := Kd.R_slice HO_4.out
                  subst eo26
                  have q25 : (t388 : Int) ≤ ((y385.length : Int) : Int) := of_decide_eq_true (by first | (with_reducible assumption) | assumption)
                  obtain ⟨i025, hi025, _, hsz25, _⟩ := info_parts info5
                  have hroom25 : y385.length ≤ co26 := (Kd.R_reads' HO_4.out).2.1
                  have hC25 : Kd.F (Kd.int .u8) _ _ Ao26 y385.length y385 := (Kd.V_at (base := w.heap.size) (Kd.R_V (Kd.R_types (HO_4.out) BK384.out (by decide)))).2.2
                  have hcut25 := cut_to3 (P := Try.prog) 29 5 .i64 Try.underlying29 hi025 Ao26 y385.length co26 t388 (of_decide_eq_true (by first | (with_reducible assumption) | assumption)) q25 hroom25
                  have hr25 := Kd.F_take (m := (t388 : Int).toNat) hC25 (by omega)
                  have hy25 : y389.length = (t388 : Int).toNat := (by rw [Ny389.out, List.length_take]; omega)
                  rw [← Ny389.out] at hr25
                  rw [← hy25] at hcut25
                  have HO393 := Aside0.mk (show Kd.V (Kd.int .u8) 5 _ w.heap.size _ (.slice Ao26 y389.length y389.length) y389 from Kd.V_mk (by omega) hr25)
                  have HC393 := Aside0.mk (show y389.length ≤ y389.length from by omega)
                  clear hr25 hC25 hroom25 hi025 hsz25
                  have KY25 := Aside0.mk hy25
                  clear hy25
                  replace q25 := eq_true q25
                  go_wp2
                  go_ret2
                  exact ⟨_, by first | rfl | (simp [errW_none, errW_some] <;> rfl) | (simp [*, errW_none, errW_some] <;> rfl), by (with_reducible repeat (first | apply Kd.V_alloc | apply Kd.V_drewN | apply Kd.V_drew)); exact Kd.V_mono HO393.out (fun _ hk => hk.1), by repeat (first | (with_reducible first | exact HB.out | apply below_alloc | apply pw_below_drewN | apply below_drew1 | refine below_set ?_ GE384.out) | exact HB.out)⟩
                · rw [if_neg c23] at H
                  exact absurd H (by simp)
              · rw [if_neg c22] at H
                exact absurd H (by simp)
            · rw [if_neg c21] at H
              have c21b0 : (a0_1 == 0) = false := beq_eq_false_iff_ne.mpr c21
              have c21b1 : (a0_1 != 0) = true := bne_iff_ne.mpr c21
              simp only [Option.some.injEq, Prod.mk.injEq] at H
              obtain ⟨rfl, rfl⟩ := H
              have hcz27_0 : wc.cell? ⟨gb384, 0, none⟩ = some (.int .u8 a0_0) := (blk_cell BK384.out 0).trans rfl
              have hcz27_1 : wc.cell? ⟨gb384, 1, none⟩ = some (.int .u16 a0_1) := (blk_cell BK384.out 1).trans rfl
              have hfz27_0 := blk_frozen BK384.out 0
              have hfz27_1 := blk_frozen BK384.out 1
              go_wp2
              go_ret2
              exact ⟨_, by first | rfl | (simp [errW_none, errW_some] <;> rfl) | (simp [*, errW_none, errW_some] <;> rfl), (Kd.V_nil _ _ _ _ _), by repeat (first | (with_reducible first | exact HB.out | apply below_alloc | apply pw_below_drewN | apply below_drew1 | refine below_set ?_ GE384.out) | exact HB.out)⟩
          · rw [if_neg c20] at H
            have c20b0 : decide (t388 < 2) = false := decide_eq_false c20
            clear c20
            by_cases c28 : 0 ≤ t388
            · rw [if_pos c28] at H
              have c28b0 := eq_true c28
              have c28b1 : decide (0 ≤ t388) = true := decide_eq_true c28
              clear c28
              by_cases c29 : t388 ≤ (y385.length : Int)
              · rw [if_pos c29] at H
                have c29b0 := eq_true c29
                have c29b1 : decide (t388 ≤ (y385.length : Int)) = true := decide_eq_true c29
                clear c29
                obtain ⟨y394, hy394⟩ : ∃ y_ : List Int, y_ = (y385.take (t388 : Int).toNat) := ⟨_, rfl⟩
                replace H : (some (y394, 0)) = some (r1, r2) := by first | (rw [hy394]; with_reducible exact H) | (have H2_ := (Option.bind_some _ _).symm.trans H; rw [hy394]; with_reducible exact H2_) | (have H2_ := (Option.bind_some _ _).symm.trans H; with_reducible exact H2_) | with_reducible exact H | (rw [hy394]; exact H) | exact H
                have Ny394 := Aside0.mk hy394
                clear hy394
                simp only [Option.some.injEq, Prod.mk.injEq] at H
                obtain ⟨rfl, rfl⟩ := H
                obtain ⟨Ao31, co31, eo31⟩ := Kd.R_slice HO_4.out
                subst eo31
                have q30 : (t388 : Int) ≤ ((y385.length : Int) : Int) := of_decide_eq_true (by first | (with_reducible assumption) | assumption)
                obtain ⟨i030, hi030, _, hsz30, _⟩ := info_parts info5
                have hroom30 : y385.length ≤ co31 := (Kd.R_reads' HO_4.out).2.1
                have hC30 : Kd.F (Kd.int .u8) _ _ Ao31 y385.length y385 := (Kd.V_at (base := w.heap.size) (Kd.R_V (Kd.R_types (HO_4.out) BK384.out (by decide)))).2.2
                have hcut30 := cut_to3 (P := Try.prog) 29 5 .i64 Try.underlying29 hi030 Ao31 y385.length co31 t388 (of_decide_eq_true (by first | (with_reducible assumption) | assumption)) q30 hroom30
                have hr30 := Kd.F_take (m := (t388 : Int).toNat) hC30 (by omega)
                have hy30 : y394.length = (t388 : Int).toNat := (by rw [Ny394.out, List.length_take]; omega)
                rw [← Ny394.out] at hr30
                rw [← hy30] at hcut30
                have HO398 := Aside0.mk (show Kd.V (Kd.int .u8) 5 _ w.heap.size _ (.slice Ao31 y394.length y394.length) y394 from Kd.V_mk (by omega) hr30)
                have HC398 := Aside0.mk (show y394.length ≤ y394.length from by omega)
                clear hr30 hC30 hroom30 hi030 hsz30
                have KY30 := Aside0.mk hy30
                clear hy30
                replace q30 := eq_true q30
                go_wp2
                go_ret2
                exact ⟨_, by first | rfl | (simp [errW_none, errW_some] <;> rfl) | (simp [*, errW_none, errW_some] <;> rfl), by (with_reducible repeat (first | apply Kd.V_alloc | apply Kd.V_drewN | apply Kd.V_drew)); exact Kd.V_mono HO398.out (fun _ hk => hk.1), by repeat (first | (with_reducible first | exact HB.out | apply below_alloc | apply pw_below_drewN | apply below_drew1 | refine below_set ?_ GE384.out) | exact HB.out)⟩
              · rw [if_neg c29] at H
                exact absurd H (by simp)
            · rw [if_neg c28] at H
              exact absurd H (by simp)

/-! ### pidginref02_Bytes: function 29 -/
def pidginref02_Bytes.l0 : Nat → List Int → List Int → Int → Option (Bool)
  | 0, _, _, _ => none
  | k + 1, x0, x1, x5 => if x5 < (x0.length : Int) then (if 0 ≤ x5 then (if x5 < (x1.length : Int) then (if (rd x0 x5) = (rd x1 x5) then (pidginref02_Bytes.l0 k x0 x1 (wrap64 (x5 + 1))) else (some false)) else (none)) else (none)) else (some true)
def pidginref02_Bytes.f (k : Nat) (l0 : List Int) (l1 : List Int) : Option (Bool) := if (l0.length : Int) = (l1.length : Int) then (pidginref02_Bytes.l0 k l0 l1 0) else (some false)
theorem pidginref02_Bytes.mono_l : ∀ k, (∀ y0 y1 y2, LeO (pidginref02_Bytes.l0 k y0 y1 y2) (pidginref02_Bytes.l0 (k + 1) y0 y1 y2))
  | 0 => fun _ _ _ r h => by simp [pidginref02_Bytes.l0] at h
  | k + 1 => by
    have ih0 := pidginref02_Bytes.mono_l k
    · intro y0 y1 y2
      unfold pidginref02_Bytes.l0
      repeat' first
      | (with_reducible exact ih0 _ _ _)
      | (with_reducible exact LeO.refl _)
      | (with_reducible exact LeO.none _)
      | (with_reducible refine LeO.ite ?_ ?_)
      | (with_reducible refine LeO.bind ?_ (fun _ => ?_))
      | exact ih0 _ _ _
      | exact LeO.none _
      | refine LeO.ite ?_ ?_
      | refine LeO.bind ?_ (fun _ => ?_)
theorem pidginref02_Bytes.mono : ∀ a0 a1 k, LeO (pidginref02_Bytes.f k a0 a1) (pidginref02_Bytes.f (k + 1) a0 a1) := by
  intro a0 a1 k
  have ih0 := pidginref02_Bytes.mono_l k
  unfold pidginref02_Bytes.f
  repeat' first
      | (with_reducible exact ih0 _ _ _)
      | (with_reducible exact LeO.refl _)
      | (with_reducible exact LeO.none _)
      | (with_reducible refine LeO.ite ?_ ?_)
      | (with_reducible refine LeO.bind ?_ (fun _ => ?_))
      | exact ih0 _ _ _
      | exact LeO.none _
      | refine LeO.ite ?_ ?_
      | refine LeO.bind ?_ (fun _ => ?_)
set_option maxHeartbeats 8000000 in
set_option maxRecDepth 100000 in
theorem pidginref02_Bytes.calls (k : Nat) (A0 : Option Addr) (c0 : Nat) (l0 : List Int) (A1 : Option Addr) (c1 : Nat) (l1 : List Int) (r : Bool) (w : World) (hr0 : Kd.C (Kd.int .u8) w A0 l0.length l0) (hc0 : l0.length ≤ c0) (hr1 : Kd.C (Kd.int .u8) w A1 l1.length l1) (hc1 : l1.length ≤ c1) (h : pidginref02_Bytes.f k l0 l1 = some r) :
    Calls Try.prog 29 #[.slice A0 l0.length c0, .slice A1 l1.length c1] w fun e w' => e = .returned (.bool r) ∧ Drawn0 w w' := by
  have HR0 := Aside0.mk hr0
  have HC0 := Aside0.mk hc0
  clear hr0 hc0
  have HR1 := Aside0.mk hr1
  have HC1 := Aside0.mk hc1
  clear hr1 hc1
  have H : (if (l0.length : Int) = (l1.length : Int) then (pidginref02_Bytes.l0 k l0 l1 0) else (some false)) = some r := h
  clear h
  by_cases c3 : (l0.length : Int) = (l1.length : Int)
  · rw [if_pos c3] at H
    have c3b0 : ((l0.length : Int) == (l1.length : Int)) = true := beq_iff_eq.mpr c3
    have c3b1 : ((l0.length : Int) != (l1.length : Int)) = false := bne_eq_false_iff_eq.mpr c3
    have c3b2 : (l0.length == l1.length) = true := by first | simpa using c3 | (simp at c3 ⊢; omega)
    clear c3
    have H' := Aside0.mk H
    clear H
    go_enter Try.func29, Try.ntmps29
    go_wp2
    repeat (go_quiet (fail); try go_wp2)
    go_loopg [5] k (fun kq v5 w' => ∃ (x5_1 : Int), v5 = .int .i64 x5_1 ∧ Aside0 (pidginref02_Bytes.l0 kq l0 l1 x5_1 = some r) ∧ Aside0 (kq ≤ k) ∧ Drawn0 w w')
    case atStart => exact ⟨(0), (by first | rfl | (simp; done) | (simp [*]; done)), H', ⟨Nat.le_refl _⟩, by repeat (first | exact Drawn0.refl _ | apply Drawn0.step)⟩
    case round =>
      clear H'
      try clear c1
      try clear c2
      try clear p2
      try clear c3
      try clear c3b0
      try clear c3b1
      try clear c3b2
      obtain ⟨x5_1, rfl, HA, HK1, ⟨m1, rfl⟩⟩ := hrel
      cases gk with
      | zero => exact absurd HA.out (by simp [pidginref02_Bytes.l0])
      | succ k1 =>
        have H := HA.out
        clear HA
        simp only [pidginref02_Bytes.l0] at H
        by_cases c4 : x5_1 < (l0.length : Int)
        · rw [if_pos c4] at H
          have c4b0 : decide (x5_1 < (l0.length : Int)) = true := decide_eq_true c4
          clear c4
          by_cases c5 : 0 ≤ x5_1
          · rw [if_pos c5] at H
            have c5b0 : decide (0 ≤ x5_1) = true := decide_eq_true c5
            clear c5
            by_cases c6 : x5_1 < (l1.length : Int)
            · rw [if_pos c6] at H
              have c6b0 : decide (x5_1 < (l1.length : Int)) = true := decide_eq_true c6
              clear c6
              by_cases c7 : (rd l0 x5_1) = (rd l1 x5_1)
              · rw [if_pos c7] at H
                have c7b0 : ((rd l0 x5_1) == (rd l1 x5_1)) = true := beq_iff_eq.mpr c7
                have c7b1 : ((rd l0 x5_1) != (rd l1 x5_1)) = false := bne_eq_false_iff_eq.mpr c7
                clear c7
                have H' := Aside0.mk H
                clear H
                have p399 : 0 ≤ (x5_1 : Int) := of_decide_eq_true (by first | (with_reducible assumption) | assumption)
                have q399 : x5_1 < (l0.length : Int) := of_decide_eq_true (by first | (with_reducible assumption) | assumption)
                obtain ⟨ad399, e399, hx399_0⟩ := Kd.at_int HR0.out x5_1 p399 q399
                cases e399
                replace p399 := eq_true p399
                replace q399 := eq_true q399
                have p400 : 0 ≤ (x5_1 : Int) := of_decide_eq_true (by first | (with_reducible assumption) | assumption)
                have q400 : x5_1 < (l1.length : Int) := of_decide_eq_true (by first | (with_reducible assumption) | assumption)
                obtain ⟨ad400, e400, hx400_0⟩ := Kd.at_int HR1.out x5_1 p400 q400
                cases e400
                replace p400 := eq_true p400
                replace q400 := eq_true q400
                go_wp2
                repeat (go_quiet (fail); try go_wp2)
                go_roundg k1
                case measure => have := HK1.out; omega
                case rel => exact ⟨(wrap64 (x5_1 + 1)), (by first | rfl | (simp; done) | (simp [*]; done)), H', ⟨by have := HK1.out; omega⟩, by repeat (first | exact Drawn0.refl _ | apply Drawn0.step)⟩
              · rw [if_neg c7] at H
                have c7b0 : ((rd l0 x5_1) == (rd l1 x5_1)) = false := beq_eq_false_iff_ne.mpr c7
                have c7b1 : ((rd l0 x5_1) != (rd l1 x5_1)) = true := bne_iff_ne.mpr c7
                obtain rfl := Option.some.inj H
                have p399 : 0 ≤ (x5_1 : Int) := of_decide_eq_true (by first | (with_reducible assumption) | assumption)
                have q399 : x5_1 < (l0.length : Int) := of_decide_eq_true (by first | (with_reducible assumption) | assumption)
                obtain ⟨ad399, e399, hx399_0⟩ := Kd.at_int HR0.out x5_1 p399 q399
                cases e399
                replace p399 := eq_true p399
                replace q399 := eq_true q399
                have p400 : 0 ≤ (x5_1 : Int) := of_decide_eq_true (by first | (with_reducible assumption) | assumption)
                have q400 : x5_1 < (l1.length : Int) := of_decide_eq_true (by first | (with_reducible assumption) | assumption)
                obtain ⟨ad400, e400, hx400_0⟩ := Kd.at_int HR1.out x5_1 p400 q400
                cases e400
                replace p400 := eq_true p400
                replace q400 := eq_true q400
                go_wp2
                repeat (go_quiet (fail); try go_wp2)
                go_ret
                exact ⟨by first | rfl | (simp; done) | (simp [*]; done), by repeat (first | exact Drawn0.refl _ | apply Drawn0.step)⟩
            · rw [if_neg c6] at H
              exact absurd H (by simp)
          · rw [if_neg c5] at H
            exact absurd H (by simp)
        · rw [if_neg c4] at H
          have c4b0 : decide (x5_1 < (l0.length : Int)) = false := decide_eq_false c4
          clear c4
          obtain rfl := Option.some.inj H
          go_wp2
          repeat (go_quiet (fail); try go_wp2)
          go_ret
          exact ⟨by first | rfl | (simp; done) | (simp [*]; done), by repeat (first | exact Drawn0.refl _ | apply Drawn0.step)⟩
  · rw [if_neg c3] at H
    have c3b0 : ((l0.length : Int) == (l1.length : Int)) = false := beq_eq_false_iff_ne.mpr c3
    have c3b1 : ((l0.length : Int) != (l1.length : Int)) = true := bne_iff_ne.mpr c3
    have c3b2 : (l0.length == l1.length) = false := by first | simpa using c3 | (simp at c3 ⊢; omega)
    obtain rfl := Option.some.inj H
    go_enter Try.func29, Try.ntmps29
    go_wp2
    repeat (go_quiet (fail); try go_wp2)
    go_ret
    exact ⟨by first | rfl | (simp; done) | (simp [*]; done), by repeat (first | exact Drawn0.refl _ | apply Drawn0.step)⟩

/-! ### pidginlaw06_alive: function 24 -/
def pidginlaw06_alive.f (k : Nat)  : Option (Bool) := (isa80_Bytes.f k 195 4660).bind fun bt401 => ((isa80_Args.f k 120).bind fun t405 => ((isa80_Name.f k 120).bind fun t408 => (if t408.toList = ([77, 79, 86] : List UInt8) then (if (t405.length : Int) = 2 then (if 0 < (t405.length : Int) then (if (rdOf ByteArray.empty t405 0).toList = ([65] : List UInt8) then (if 1 < (t405.length : Int) then (if (rdOf ByteArray.empty t405 1).toList = ([66] : List UInt8) then (if bt401.2 = 0 then ((pidginref02_Bytes.f k bt401.1 (([195, 52, 18] : List Int))).bind fun t414 => (some t414)) else (some false)) else (some false)) else (none)) else (some false)) else (none)) else (some false)) else (some false))))
theorem pidginlaw06_alive.mono : ∀ k, LeO (pidginlaw06_alive.f k ) (pidginlaw06_alive.f (k + 1) ) := by
  intro  k
  unfold pidginlaw06_alive.f
  repeat' first
      | (with_reducible exact isa80_Args.mono _ _)
      | (with_reducible exact isa80_Bytes.mono _ _ _)
      | (with_reducible exact isa80_Name.mono _ _)
      | (with_reducible exact pidginref02_Bytes.mono _ _ _)
      | (with_reducible exact LeO.refl _)
      | (with_reducible exact LeO.none _)
      | (with_reducible refine LeO.ite ?_ ?_)
      | (with_reducible refine LeO.bind ?_ (fun _ => ?_))
      | exact isa80_Args.mono _ _
      | exact isa80_Bytes.mono _ _ _
      | exact isa80_Name.mono _ _
      | exact pidginref02_Bytes.mono _ _ _
      | exact LeO.none _
      | refine LeO.ite ?_ ?_
      | refine LeO.bind ?_ (fun _ => ?_)
set_option maxHeartbeats 8000000 in
set_option maxRecDepth 100000 in
theorem pidginlaw06_alive.calls (k : Nat)  (r : Bool) (w : World) (h : pidginlaw06_alive.f k  = some r) :
    Calls Try.prog 24 #[] w fun e w' => e = .returned (.bool r) ∧ Below w.heap.size w w' := by
  have hu45 := Try.underlying45
  have HB := Aside0.mk (Below.refl w.heap.size w)
  have H : ((isa80_Bytes.f k 195 4660).bind fun bt401 => ((isa80_Args.f k 120).bind fun t405 => ((isa80_Name.f k 120).bind fun t408 => (if t408.toList = ([77, 79, 86] : List UInt8) then (if (t405.length : Int) = 2 then (if 0 < (t405.length : Int) then (if (rdOf ByteArray.empty t405 0).toList = ([65] : List UInt8) then (if 1 < (t405.length : Int) then (if (rdOf ByteArray.empty t405 1).toList = ([66] : List UInt8) then (if bt401.2 = 0 then ((pidginref02_Bytes.f k bt401.1 (([195, 52, 18] : List Int))).bind fun t414 => (some t414)) else (some false)) else (some false)) else (none)) else (some false)) else (none)) else (some false)) else (some false))))) = some r := h
  clear h
  replace H := Option.bind_eq_some_iff.mp H
  obtain ⟨⟨t401, t404⟩, A10, H⟩ := H
  replace H : ((isa80_Args.f k 120).bind fun t405 => ((isa80_Name.f k 120).bind fun t408 => (if t408.toList = ([77, 79, 86] : List UInt8) then (if (t405.length : Int) = 2 then (if 0 < (t405.length : Int) then (if (rdOf ByteArray.empty t405 0).toList = ([65] : List UInt8) then (if 1 < (t405.length : Int) then (if (rdOf ByteArray.empty t405 1).toList = ([66] : List UInt8) then (if t404 = 0 then ((pidginref02_Bytes.f k t401 (([195, 52, 18] : List Int))).bind fun t414 => (some t414)) else (some false)) else (some false)) else (none)) else (some false)) else (none)) else (some false)) else (some false)))) = some r := H
  have A1 := Aside0.mk A10
  clear A10
  replace H := Option.bind_eq_some_iff.mp H
  obtain ⟨t405, A20, H⟩ := H
  replace H : ((isa80_Name.f k 120).bind fun t408 => (if t408.toList = ([77, 79, 86] : List UInt8) then (if (t405.length : Int) = 2 then (if 0 < (t405.length : Int) then (if (rdOf ByteArray.empty t405 0).toList = ([65] : List UInt8) then (if 1 < (t405.length : Int) then (if (rdOf ByteArray.empty t405 1).toList = ([66] : List UInt8) then (if t404 = 0 then ((pidginref02_Bytes.f k t401 (([195, 52, 18] : List Int))).bind fun t414 => (some t414)) else (some false)) else (some false)) else (none)) else (some false)) else (none)) else (some false)) else (some false))) = some r := H
  have A2 := Aside0.mk A20
  clear A20
  replace H := Option.bind_eq_some_iff.mp H
  obtain ⟨t408, A30, H⟩ := H
  replace H : (if t408.toList = ([77, 79, 86] : List UInt8) then (if (t405.length : Int) = 2 then (if 0 < (t405.length : Int) then (if (rdOf ByteArray.empty t405 0).toList = ([65] : List UInt8) then (if 1 < (t405.length : Int) then (if (rdOf ByteArray.empty t405 1).toList = ([66] : List UInt8) then (if t404 = 0 then ((pidginref02_Bytes.f k t401 (([195, 52, 18] : List Int))).bind fun t414 => (some t414)) else (some false)) else (some false)) else (none)) else (some false)) else (none)) else (some false)) else (some false)) = some r := H
  have A3 := Aside0.mk A30
  clear A30
  by_cases c4 : t408.toList = ([77, 79, 86] : List UInt8)
  · rw [if_pos c4] at H
    have c4b0 : (t408.toList == ([77, 79, 86] : List UInt8)) = true := beq_iff_eq.mpr c4
    have c4b1 : (t408.toList != ([77, 79, 86] : List UInt8)) = false := bne_eq_false_iff_eq.mpr c4
    clear c4
    by_cases c5 : (t405.length : Int) = 2
    · rw [if_pos c5] at H
      have c5b0 : ((t405.length : Int) == 2) = true := beq_iff_eq.mpr c5
      have c5b1 : ((t405.length : Int) != 2) = false := bne_eq_false_iff_eq.mpr c5
      clear c5
      by_cases c6 : 0 < (t405.length : Int)
      · rw [if_pos c6] at H
        have c6b0 : decide (0 < (t405.length : Int)) = true := decide_eq_true c6
        have c6b1 : decide (0 < t405.length) = true := decide_eq_true (by omega)
        clear c6
        by_cases c7 : (rdOf ByteArray.empty t405 0).toList = ([65] : List UInt8)
        · rw [if_pos c7] at H
          have c7b0 : ((rdOf ByteArray.empty t405 0).toList == ([65] : List UInt8)) = true := beq_iff_eq.mpr c7
          have c7b1 : ((rdOf ByteArray.empty t405 0).toList != ([65] : List UInt8)) = false := bne_eq_false_iff_eq.mpr c7
          clear c7
          by_cases c8 : 1 < (t405.length : Int)
          · rw [if_pos c8] at H
            have c8b0 : decide (1 < (t405.length : Int)) = true := decide_eq_true c8
            have c8b1 : decide (1 < t405.length) = true := decide_eq_true (by omega)
            clear c8
            by_cases c9 : (rdOf ByteArray.empty t405 1).toList = ([66] : List UInt8)
            · rw [if_pos c9] at H
              have c9b0 : ((rdOf ByteArray.empty t405 1).toList == ([66] : List UInt8)) = true := beq_iff_eq.mpr c9
              have c9b1 : ((rdOf ByteArray.empty t405 1).toList != ([66] : List UInt8)) = false := bne_eq_false_iff_eq.mpr c9
              clear c9
              by_cases c10 : t404 = 0
              · rw [if_pos c10] at H
                have c10b0 : (t404 == 0) = true := beq_iff_eq.mpr c10
                have c10b1 : (t404 != 0) = false := bne_eq_false_iff_eq.mpr c10
                clear c10
                obtain ⟨y411, hy411⟩ : ∃ y_ : List Int, y_ = (([195, 52, 18] : List Int)) := ⟨_, rfl⟩
                replace H : ((pidginref02_Bytes.f k t401 y411).bind fun t414 => (some t414)) = some r := by first | (rw [hy411]; with_reducible exact H) | (have H2_ := (Option.bind_some _ _).symm.trans H; rw [hy411]; with_reducible exact H2_) | (have H2_ := (Option.bind_some _ _).symm.trans H; with_reducible exact H2_) | with_reducible exact H | (rw [hy411]; exact H) | exact H
                have Ny411 := Aside0.mk hy411
                clear hy411
                replace H := Option.bind_eq_some_iff.mp H
                obtain ⟨t414, A110, H⟩ := H
                replace H : (some t414) = some r := H
                have A11 := Aside0.mk A110
                clear A110
                obtain rfl := Option.some.inj H
                go_enter Try.func24, Try.ntmps24
                go_wp2_with (first | ((with_reducible refine gate_callee (f := 25) rfl ?_); refine goesL_ (some 6) rfl rfl Try.func25 (by kernel_rfl) rfl #[.agg #[.int .u8 195, .int .u16 4660]] rfl (by (try simp only [List.map_toArray, List.map_cons, List.map_nil]); first | done | rfl | (simp only [List.length_drop, List.length_take]; rfl) | (simp only [IntKind.wrap_u8, IntKind.wrap_u32, Int.emod_add_emod, Int.add_emod_emod] <;> rfl)) ?_; (with_reducible refine (isa80_Bytes.calls k 195 4660 t401 t404 _ A1.out).mono ?_); rintro e w12 ⟨v402, rfl, ho0, hb⟩; refine ⟨_, rfl, ?_⟩; have n0_ := Aside0.mk (Kd.V_lower (Kd.V_mono (ok' := fun k_ => True) ho0 (fun k_ hk_ => trivial)) (below_size (by repeat (first | (with_reducible first | exact HB.out | apply below_alloc | apply pw_below_drewN | apply below_drew1) | exact HB.out)))); have n1_ := Aside0.mk (below_step (by repeat (first | (with_reducible first | exact HB.out | apply below_alloc | apply pw_below_drewN | apply below_drew1) | exact HB.out)) hb); clear HB; have HO403 := n0_; have HB := n1_; clear n0_ n1_; (try clear hb); (try clear hb2); (try clear hk); (try clear hi); (try clear ho0)) | ((with_reducible refine gate_callee (f := 20) rfl ?_); refine goesL_ (some 9) rfl rfl Try.func20 (by kernel_rfl) rfl #[.int .u8 120] rfl (by (try simp only [List.map_toArray, List.map_cons, List.map_nil]); first | done | rfl | (simp only [List.length_drop, List.length_take]; rfl) | (simp only [IntKind.wrap_u8, IntKind.wrap_u32, Int.emod_add_emod, Int.add_emod_emod] <;> rfl)) ?_; (with_reducible refine (isa80_Args.calls k 120 t405 _ A2.out).mono ?_); rintro e w13 ⟨v406, rfl, ho0, hb⟩; refine ⟨_, rfl, ?_⟩; have n0_ := Aside0.mk (Kd.V_elder' (by (with_reducible repeat (first | apply Kd.V_alloc | apply Kd.V_drewN | apply Kd.V_drew)); exact HO403.out) (Kd.Q_base ho0) hb); have n1_ := Aside0.mk (Kd.Q_lower ho0 (below_size (by repeat (first | (with_reducible first | exact HB.out | apply below_alloc | apply pw_below_drewN | apply below_drew1) | exact HB.out)))); have n2_ := Aside0.mk (below_step (by repeat (first | (with_reducible first | exact HB.out | apply below_alloc | apply pw_below_drewN | apply below_drew1) | exact HB.out)) hb); clear HO403; clear HB; have HO403 := n0_; have HO407 := n1_; have HB := n2_; clear n0_ n1_ n2_; (try clear hb); (try clear hb2); (try clear hk); (try clear hi); (try clear ho0)) | ((with_reducible refine gate_callee (f := 17) rfl ?_); refine goesL_ (some 10) rfl rfl Try.func17 (by kernel_rfl) rfl #[.int .u8 120] rfl (by (try simp only [List.map_toArray, List.map_cons, List.map_nil]); first | done | rfl | (simp only [List.length_drop, List.length_take]; rfl) | (simp only [IntKind.wrap_u8, IntKind.wrap_u32, Int.emod_add_emod, Int.add_emod_emod] <;> rfl)) ?_; (with_reducible refine (isa80_Name.calls k 120 t408 _ A3.out).mono ?_); rintro e w14 ⟨rfl, hb⟩; refine ⟨_, rfl, ?_⟩; have n0_ := Aside0.mk (Kd.V_below (by (with_reducible repeat (first | apply Kd.V_alloc | apply Kd.V_drewN | apply Kd.V_drew)); exact HO403.out) hb); have n1_ := Aside0.mk (Kd.Q_below (by (with_reducible repeat (first | apply Kd.Q_alloc | apply Kd.Q_drewN | apply Kd.Q_drew)); exact HO407.out) hb); have n2_ := Aside0.mk (below_step (by repeat (first | (with_reducible first | exact HB.out | apply below_alloc | apply pw_below_drewN | apply below_drew1) | exact HB.out)) hb); clear HO403; clear HO407; clear HB; have HO403 := n0_; have HO407 := n1_; have HB := n2_; clear n0_ n1_ n2_; (try clear hb); (try clear hb2); (try clear hk); (try clear hi); obtain ⟨Ao15, co15, eo15, _⟩ := Kd.Q_slice HO407.out; subst eo15; have p409 : 0 ≤ (0 : Int) := (by omega); have q409 : 0 < (t405.length : Int) := of_decide_eq_true (by first | (with_reducible assumption) | assumption); obtain ⟨ad409, e409, hx409_0⟩ := Kd.at_string (Kd.Q_reads' HO407.out).2.2 0 p409 q409; cases e409; have qi409 : (0 < t405.length) = True := eq_true (by omega); (try rw [show ((0 : Int)).toNat = 0 from rfl] at hx409_0); (try rw [Addr.add_zero'] at hx409_0); replace p409 := eq_true p409; replace q409 := eq_true q409; have p410 : 0 ≤ (1 : Int) := (by omega); have q410 : 1 < (t405.length : Int) := of_decide_eq_true (by first | (with_reducible assumption) | assumption); obtain ⟨ad410, e410, hx410_0⟩ := Kd.at_string (Kd.Q_reads' HO407.out).2.2 1 p410 q410; obtain rfl : ad409 = ad410 := (by injection e410); (try simp only [show (1 : Int).toNat = 1 from rfl, Nat.reduceMul, Nat.reduceEqDiff, Go.Addr.add, ↓reduceIte] at hx410_0); have qi410 : (1 < t405.length) = True := eq_true (by omega); (try rw [show ((1 : Int)).toNat = 1 from rfl] at hx410_0); replace p410 := eq_true p410; replace q410 := eq_true q410) | ((with_reducible refine gate_dst (N := 35) rfl ?_); (try (refine gate_guard (by rfl) ?_; dsimp only)); refine Kd.R_lit (Kd.int .u8) _ 5 ?hg (N := 35) ?hd (xs := ([195, 52, 18] : List Int)) (inner := [.int .u8 195, .int .u8 52, .int .u8 18]) (ok := fun _ => True) (okp := fun _ => True) ?hr ?hp (fun _ hk => hk) trivial (Below.refl _ _) (Nat.le_refl _) (by simp) ?_; (case hd => rfl); (case hg => rfl); (case hr => first | (go_simp; done) | (go_simp; rfl)); (case hp => exact (Reps.one (show Kd.M (Kd.int .u8) _ _ _ 195 [.int .u8 195] from rfl) (Reps.one (show Kd.M (Kd.int .u8) _ _ _ 52 [.int .u8 52] from rfl) (Reps.one (show Kd.M (Kd.int .u8) _ _ _ 18 [.int .u8 18] from rfl) (Reps.none _ _))))); intro v412 w16 ho17 hb hg_ hnew_; clear hg_ hnew_; (first | rw [← Ny411.out] at ho17 | (simp only [Int.reduceToNat] at ho17; rw [← Ny411.out] at ho17)); have n0_ := Aside0.mk (Kd.V_elder' (by (with_reducible repeat (first | apply Kd.V_alloc | apply Kd.V_drewN | apply Kd.V_drew)); exact HO403.out) (Kd.R_base ho17) hb); have n1_ := Aside0.mk (Kd.Q_below (by (with_reducible repeat (first | apply Kd.Q_alloc | apply Kd.Q_drewN | apply Kd.Q_drew)); exact HO407.out) hb); have n2_ := Aside0.mk (Kd.R_lower ho17 (below_size (by repeat (first | (with_reducible first | exact HB.out | apply below_alloc | apply pw_below_drewN | apply below_drew1) | exact HB.out)))); have n3_ := Aside0.mk (below_step (by repeat (first | (with_reducible first | exact HB.out | apply below_alloc | apply pw_below_drewN | apply below_drew1) | exact HB.out)) hb); clear HO403; clear HO407; clear HB; have HO403 := n0_; have HO407 := n1_; have HO413 := n2_; have HB := n3_; clear n0_ n1_ n2_ n3_; clear hb ho17; obtain ⟨Ao18, co18, eo18⟩ := Kd.V_slice HO403.out; subst eo18; obtain ⟨Ao19, co19, eo19⟩ := Kd.R_slice HO413.out; subst eo19) | (go_at_call 29; (with_reducible refine (pidginref02_Bytes.calls k _ _ t401 _ _ y411 t414 _ ?side1 ?side2 ?side3 ?side4 A11.out).mono ?_); (case side1 => repeat (first | exact (Kd.V_reads' HO403.out).2.2 | (with_reducible refine Kd.C_alloc ?_ _) | (with_reducible refine Kd.C_drewN ?_ _) | (with_reducible refine Kd.C_drew ?_))); (case side2 => exact (Kd.V_reads' HO403.out).2.1); (case side3 => repeat (first | exact (Kd.R_reads' HO413.out).2.2 | (with_reducible refine Kd.C_alloc ?_ _) | (with_reducible refine Kd.C_drewN ?_ _) | (with_reducible refine Kd.C_drew ?_))); (case side4 => exact (Kd.R_reads' HO413.out).2.1); rintro e w' ⟨rfl, ⟨nd, rfl⟩⟩))
                go_ret
                exact ⟨by first | rfl | (simp [errW_none, errW_some] <;> rfl) | (simp [*, errW_none, errW_some] <;> rfl), by repeat (first | (with_reducible first | exact HB.out | apply below_alloc | apply pw_below_drewN | apply below_drew1) | exact HB.out)⟩
              · rw [if_neg c10] at H
                have c10b0 : (t404 == 0) = false := beq_eq_false_iff_ne.mpr c10
                have c10b1 : (t404 != 0) = true := bne_iff_ne.mpr c10
                obtain rfl := Option.some.inj H
                go_enter Try.func24, Try.ntmps24
                go_wp2_with (first | ((with_reducible refine gate_callee (f := 25) rfl ?_); refine goesL_ (some 6) rfl rfl Try.func25 (by kernel_rfl) rfl #[.agg #[.int .u8 195, .int .u16 4660]] rfl (by (try simp only [List.map_toArray, List.map_cons, List.map_nil]); first | done | rfl | (simp only [List.length_drop, List.length_take]; rfl) | (simp only [IntKind.wrap_u8, IntKind.wrap_u32, Int.emod_add_emod, Int.add_emod_emod] <;> rfl)) ?_; (with_reducible refine (isa80_Bytes.calls k 195 4660 t401 t404 _ A1.out).mono ?_); rintro e w20 ⟨v402, rfl, ho0, hb⟩; refine ⟨_, rfl, ?_⟩; have n0_ := Aside0.mk (Kd.V_lower (Kd.V_mono (ok' := fun k_ => True) ho0 (fun k_ hk_ => trivial)) (below_size (by repeat (first | (with_reducible first | exact HB.out | apply below_alloc | apply pw_below_drewN | apply below_drew1) | exact HB.out)))); have n1_ := Aside0.mk (below_step (by repeat (first | (with_reducible first | exact HB.out | apply below_alloc | apply pw_below_drewN | apply below_drew1) | exact HB.out)) hb); clear HB; have HO403 := n0_; have HB := n1_; clear n0_ n1_; (try clear hb); (try clear hb2); (try clear hk); (try clear hi); (try clear ho0)) | ((with_reducible refine gate_callee (f := 20) rfl ?_); refine goesL_ (some 9) rfl rfl Try.func20 (by kernel_rfl) rfl #[.int .u8 120] rfl (by (try simp only [List.map_toArray, List.map_cons, List.map_nil]); first | done | rfl | (simp only [List.length_drop, List.length_take]; rfl) | (simp only [IntKind.wrap_u8, IntKind.wrap_u32, Int.emod_add_emod, Int.add_emod_emod] <;> rfl)) ?_; (with_reducible refine (isa80_Args.calls k 120 t405 _ A2.out).mono ?_); rintro e w21 ⟨v406, rfl, ho0, hb⟩; refine ⟨_, rfl, ?_⟩; have n0_ := Aside0.mk (Kd.V_elder' (by (with_reducible repeat (first | apply Kd.V_alloc | apply Kd.V_drewN | apply Kd.V_drew)); exact HO403.out) (Kd.Q_base ho0) hb); have n1_ := Aside0.mk (Kd.Q_lower ho0 (below_size (by repeat (first | (with_reducible first | exact HB.out | apply below_alloc | apply pw_below_drewN | apply below_drew1) | exact HB.out)))); have n2_ := Aside0.mk (below_step (by repeat (first | (with_reducible first | exact HB.out | apply below_alloc | apply pw_below_drewN | apply below_drew1) | exact HB.out)) hb); clear HO403; clear HB; have HO403 := n0_; have HO407 := n1_; have HB := n2_; clear n0_ n1_ n2_; (try clear hb); (try clear hb2); (try clear hk); (try clear hi); (try clear ho0)) | ((with_reducible refine gate_callee (f := 17) rfl ?_); refine goesL_ (some 10) rfl rfl Try.func17 (by kernel_rfl) rfl #[.int .u8 120] rfl (by (try simp only [List.map_toArray, List.map_cons, List.map_nil]); first | done | rfl | (simp only [List.length_drop, List.length_take]; rfl) | (simp only [IntKind.wrap_u8, IntKind.wrap_u32, Int.emod_add_emod, Int.add_emod_emod] <;> rfl)) ?_; (with_reducible refine (isa80_Name.calls k 120 t408 _ A3.out).mono ?_); rintro e w22 ⟨rfl, hb⟩; refine ⟨_, rfl, ?_⟩; have n0_ := Aside0.mk (Kd.V_below (by (with_reducible repeat (first | apply Kd.V_alloc | apply Kd.V_drewN | apply Kd.V_drew)); exact HO403.out) hb); have n1_ := Aside0.mk (Kd.Q_below (by (with_reducible repeat (first | apply Kd.Q_alloc | apply Kd.Q_drewN | apply Kd.Q_drew)); exact HO407.out) hb); have n2_ := Aside0.mk (below_step (by repeat (first | (with_reducible first | exact HB.out | apply below_alloc | apply pw_below_drewN | apply below_drew1) | exact HB.out)) hb); clear HO403; clear HO407; clear HB; have HO403 := n0_; have HO407 := n1_; have HB := n2_; clear n0_ n1_ n2_; (try clear hb); (try clear hb2); (try clear hk); (try clear hi); obtain ⟨Ao23, co23, eo23, _⟩ := Kd.Q_slice HO407.out; subst eo23; have p409 : 0 ≤ (0 : Int) := (by omega); have q409 : 0 < (t405.length : Int) := of_decide_eq_true (by first | (with_reducible assumption) | assumption); obtain ⟨ad409, e409, hx409_0⟩ := Kd.at_string (Kd.Q_reads' HO407.out).2.2 0 p409 q409; cases e409; have qi409 : (0 < t405.length) = True := eq_true (by omega); (try rw [show ((0 : Int)).toNat = 0 from rfl] at hx409_0); (try rw [Addr.add_zero'] at hx409_0); replace p409 := eq_true p409; replace q409 := eq_true q409; have p410 : 0 ≤ (1 : Int) := (by omega); have q410 : 1 < (t405.length : Int) := of_decide_eq_true (by first | (with_reducible assumption) | assumption); obtain ⟨ad410, e410, hx410_0⟩ := Kd.at_string (Kd.Q_reads' HO407.out).2.2 1 p410 q410; obtain rfl : ad409 = ad410 := (by injection e410); (try simp only [show (1 : Int).toNat = 1 from rfl, Nat.reduceMul, Nat.reduceEqDiff, Go.Addr.add, ↓reduceIte] at hx410_0); have qi410 : (1 < t405.length) = True := eq_true (by omega); (try rw [show ((1 : Int)).toNat = 1 from rfl] at hx410_0); replace p410 := eq_true p410; replace q410 := eq_true q410))
                go_ret
                exact ⟨by first | rfl | (simp [errW_none, errW_some] <;> rfl) | (simp [*, errW_none, errW_some] <;> rfl), by repeat (first | (with_reducible first | exact HB.out | apply below_alloc | apply pw_below_drewN | apply below_drew1) | exact HB.out)⟩
            · rw [if_neg c9] at H
              have c9b0 : ((rdOf ByteArray.empty t405 1).toList == ([66] : List UInt8)) = false := beq_eq_false_iff_ne.mpr c9
              have c9b1 : ((rdOf ByteArray.empty t405 1).toList != ([66] : List UInt8)) = true := bne_iff_ne.mpr c9
              obtain rfl := Option.some.inj H
              go_enter Try.func24, Try.ntmps24
              go_wp2_with (first | ((with_reducible refine gate_callee (f := 25) rfl ?_); refine goesL_ (some 6) rfl rfl Try.func25 (by kernel_rfl) rfl #[.agg #[.int .u8 195, .int .u16 4660]] rfl (by (try simp only [List.map_toArray, List.map_cons, List.map_nil]); first | done | rfl | (simp only [List.length_drop, List.length_take]; rfl) | (simp only [IntKind.wrap_u8, IntKind.wrap_u32, Int.emod_add_emod, Int.add_emod_emod] <;> rfl)) ?_; (with_reducible refine (isa80_Bytes.calls k 195 4660 t401 t404 _ A1.out).mono ?_); rintro e w24 ⟨v402, rfl, ho0, hb⟩; refine ⟨_, rfl, ?_⟩; have n0_ := Aside0.mk (Kd.V_lower (Kd.V_mono (ok' := fun k_ => True) ho0 (fun k_ hk_ => trivial)) (below_size (by repeat (first | (with_reducible first | exact HB.out | apply below_alloc | apply pw_below_drewN | apply below_drew1) | exact HB.out)))); have n1_ := Aside0.mk (below_step (by repeat (first | (with_reducible first | exact HB.out | apply below_alloc | apply pw_below_drewN | apply below_drew1) | exact HB.out)) hb); clear HB; have HO403 := n0_; have HB := n1_; clear n0_ n1_; (try clear hb); (try clear hb2); (try clear hk); (try clear hi); (try clear ho0)) | ((with_reducible refine gate_callee (f := 20) rfl ?_); refine goesL_ (some 9) rfl rfl Try.func20 (by kernel_rfl) rfl #[.int .u8 120] rfl (by (try simp only [List.map_toArray, List.map_cons, List.map_nil]); first | done | rfl | (simp only [List.length_drop, List.length_take]; rfl) | (simp only [IntKind.wrap_u8, IntKind.wrap_u32, Int.emod_add_emod, Int.add_emod_emod] <;> rfl)) ?_; (with_reducible refine (isa80_Args.calls k 120 t405 _ A2.out).mono ?_); rintro e w25 ⟨v406, rfl, ho0, hb⟩; refine ⟨_, rfl, ?_⟩; have n0_ := Aside0.mk (Kd.V_elder' (by (with_reducible repeat (first | apply Kd.V_alloc | apply Kd.V_drewN | apply Kd.V_drew)); exact HO403.out) (Kd.Q_base ho0) hb); have n1_ := Aside0.mk (Kd.Q_lower ho0 (below_size (by repeat (first | (with_reducible first | exact HB.out | apply below_alloc | apply pw_below_drewN | apply below_drew1) | exact HB.out)))); have n2_ := Aside0.mk (below_step (by repeat (first | (with_reducible first | exact HB.out | apply below_alloc | apply pw_below_drewN | apply below_drew1) | exact HB.out)) hb); clear HO403; clear HB; have HO403 := n0_; have HO407 := n1_; have HB := n2_; clear n0_ n1_ n2_; (try clear hb); (try clear hb2); (try clear hk); (try clear hi); (try clear ho0)) | ((with_reducible refine gate_callee (f := 17) rfl ?_); refine goesL_ (some 10) rfl rfl Try.func17 (by kernel_rfl) rfl #[.int .u8 120] rfl (by (try simp only [List.map_toArray, List.map_cons, List.map_nil]); first | done | rfl | (simp only [List.length_drop, List.length_take]; rfl) | (simp only [IntKind.wrap_u8, IntKind.wrap_u32, Int.emod_add_emod, Int.add_emod_emod] <;> rfl)) ?_; (with_reducible refine (isa80_Name.calls k 120 t408 _ A3.out).mono ?_); rintro e w26 ⟨rfl, hb⟩; refine ⟨_, rfl, ?_⟩; have n0_ := Aside0.mk (Kd.V_below (by (with_reducible repeat (first | apply Kd.V_alloc | apply Kd.V_drewN | apply Kd.V_drew)); exact HO403.out) hb); have n1_ := Aside0.mk (Kd.Q_below (by (with_reducible repeat (first | apply Kd.Q_alloc | apply Kd.Q_drewN | apply Kd.Q_drew)); exact HO407.out) hb); have n2_ := Aside0.mk (below_step (by repeat (first | (with_reducible first | exact HB.out | apply below_alloc | apply pw_below_drewN | apply below_drew1) | exact HB.out)) hb); clear HO403; clear HO407; clear HB; have HO403 := n0_; have HO407 := n1_; have HB := n2_; clear n0_ n1_ n2_; (try clear hb); (try clear hb2); (try clear hk); (try clear hi); obtain ⟨Ao27, co27, eo27, _⟩ := Kd.Q_slice HO407.out; subst eo27; have p409 : 0 ≤ (0 : Int) := (by omega); have q409 : 0 < (t405.length : Int) := of_decide_eq_true (by first | (with_reducible assumption) | assumption); obtain ⟨ad409, e409, hx409_0⟩ := Kd.at_string (Kd.Q_reads' HO407.out).2.2 0 p409 q409; cases e409; have qi409 : (0 < t405.length) = True := eq_true (by omega); (try rw [show ((0 : Int)).toNat = 0 from rfl] at hx409_0); (try rw [Addr.add_zero'] at hx409_0); replace p409 := eq_true p409; replace q409 := eq_true q409; have p410 : 0 ≤ (1 : Int) := (by omega); have q410 : 1 < (t405.length : Int) := of_decide_eq_true (by first | (with_reducible assumption) | assumption); obtain ⟨ad410, e410, hx410_0⟩ := Kd.at_string (Kd.Q_reads' HO407.out).2.2 1 p410 q410; obtain rfl : ad409 = ad410 := (by injection e410); (try simp only [show (1 : Int).toNat = 1 from rfl, Nat.reduceMul, Nat.reduceEqDiff, Go.Addr.add, ↓reduceIte] at hx410_0); have qi410 : (1 < t405.length) = True := eq_true (by omega); (try rw [show ((1 : Int)).toNat = 1 from rfl] at hx410_0); replace p410 := eq_true p410; replace q410 := eq_true q410))
              go_ret
              exact ⟨by first | rfl | (simp [errW_none, errW_some] <;> rfl) | (simp [*, errW_none, errW_some] <;> rfl), by repeat (first | (with_reducible first | exact HB.out | apply below_alloc | apply pw_below_drewN | apply below_drew1) | exact HB.out)⟩
          · rw [if_neg c8] at H
            exact absurd H (by simp)
        · rw [if_neg c7] at H
          have c7b0 : ((rdOf ByteArray.empty t405 0).toList == ([65] : List UInt8)) = false := beq_eq_false_iff_ne.mpr c7
          have c7b1 : ((rdOf ByteArray.empty t405 0).toList != ([65] : List UInt8)) = true := bne_iff_ne.mpr c7
          obtain rfl := Option.some.inj H
          go_enter Try.func24, Try.ntmps24
          go_wp2_with (first | ((with_reducible refine gate_callee (f := 25) rfl ?_); refine goesL_ (some 6) rfl rfl Try.func25 (by kernel_rfl) rfl #[.agg #[.int .u8 195, .int .u16 4660]] rfl (by (try simp only [List.map_toArray, List.map_cons, List.map_nil]); first | done | rfl | (simp only [List.length_drop, List.length_take]; rfl) | (simp only [IntKind.wrap_u8, IntKind.wrap_u32, Int.emod_add_emod, Int.add_emod_emod] <;> rfl)) ?_; (with_reducible refine (isa80_Bytes.calls k 195 4660 t401 t404 _ A1.out).mono ?_); rintro e w28 ⟨v402, rfl, ho0, hb⟩; refine ⟨_, rfl, ?_⟩; have n0_ := Aside0.mk (Kd.V_lower (Kd.V_mono (ok' := fun k_ => True) ho0 (fun k_ hk_ => trivial)) (below_size (by repeat (first | (with_reducible first | exact HB.out | apply below_alloc | apply pw_below_drewN | apply below_drew1) | exact HB.out)))); have n1_ := Aside0.mk (below_step (by repeat (first | (with_reducible first | exact HB.out | apply below_alloc | apply pw_below_drewN | apply below_drew1) | exact HB.out)) hb); clear HB; have HO403 := n0_; have HB := n1_; clear n0_ n1_; (try clear hb); (try clear hb2); (try clear hk); (try clear hi); (try clear ho0)) | ((with_reducible refine gate_callee (f := 20) rfl ?_); refine goesL_ (some 9) rfl rfl Try.func20 (by kernel_rfl) rfl #[.int .u8 120] rfl (by (try simp only [List.map_toArray, List.map_cons, List.map_nil]); first | done | rfl | (simp only [List.length_drop, List.length_take]; rfl) | (simp only [IntKind.wrap_u8, IntKind.wrap_u32, Int.emod_add_emod, Int.add_emod_emod] <;> rfl)) ?_; (with_reducible refine (isa80_Args.calls k 120 t405 _ A2.out).mono ?_); rintro e w29 ⟨v406, rfl, ho0, hb⟩; refine ⟨_, rfl, ?_⟩; have n0_ := Aside0.mk (Kd.V_elder' (by (with_reducible repeat (first | apply Kd.V_alloc | apply Kd.V_drewN | apply Kd.V_drew)); exact HO403.out) (Kd.Q_base ho0) hb); have n1_ := Aside0.mk (Kd.Q_lower ho0 (below_size (by repeat (first | (with_reducible first | exact HB.out | apply below_alloc | apply pw_below_drewN | apply below_drew1) | exact HB.out)))); have n2_ := Aside0.mk (below_step (by repeat (first | (with_reducible first | exact HB.out | apply below_alloc | apply pw_below_drewN | apply below_drew1) | exact HB.out)) hb); clear HO403; clear HB; have HO403 := n0_; have HO407 := n1_; have HB := n2_; clear n0_ n1_ n2_; (try clear hb); (try clear hb2); (try clear hk); (try clear hi); (try clear ho0)) | ((with_reducible refine gate_callee (f := 17) rfl ?_); refine goesL_ (some 10) rfl rfl Try.func17 (by kernel_rfl) rfl #[.int .u8 120] rfl (by (try simp only [List.map_toArray, List.map_cons, List.map_nil]); first | done | rfl | (simp only [List.length_drop, List.length_take]; rfl) | (simp only [IntKind.wrap_u8, IntKind.wrap_u32, Int.emod_add_emod, Int.add_emod_emod] <;> rfl)) ?_; (with_reducible refine (isa80_Name.calls k 120 t408 _ A3.out).mono ?_); rintro e w30 ⟨rfl, hb⟩; refine ⟨_, rfl, ?_⟩; have n0_ := Aside0.mk (Kd.V_below (by (with_reducible repeat (first | apply Kd.V_alloc | apply Kd.V_drewN | apply Kd.V_drew)); exact HO403.out) hb); have n1_ := Aside0.mk (Kd.Q_below (by (with_reducible repeat (first | apply Kd.Q_alloc | apply Kd.Q_drewN | apply Kd.Q_drew)); exact HO407.out) hb); have n2_ := Aside0.mk (below_step (by repeat (first | (with_reducible first | exact HB.out | apply below_alloc | apply pw_below_drewN | apply below_drew1) | exact HB.out)) hb); clear HO403; clear HO407; clear HB; have HO403 := n0_; have HO407 := n1_; have HB := n2_; clear n0_ n1_ n2_; (try clear hb); (try clear hb2); (try clear hk); (try clear hi); obtain ⟨Ao31, co31, eo31, _⟩ := Kd.Q_slice HO407.out; subst eo31; have p409 : 0 ≤ (0 : Int) := (by omega); have q409 : 0 < (t405.length : Int) := of_decide_eq_true (by first | (with_reducible assumption) | assumption); obtain ⟨ad409, e409, hx409_0⟩ := Kd.at_string (Kd.Q_reads' HO407.out).2.2 0 p409 q409; cases e409; have qi409 : (0 < t405.length) = True := eq_true (by omega); (try rw [show ((0 : Int)).toNat = 0 from rfl] at hx409_0); (try rw [Addr.add_zero'] at hx409_0); replace p409 := eq_true p409; replace q409 := eq_true q409))
          go_ret
          exact ⟨by first | rfl | (simp [errW_none, errW_some] <;> rfl) | (simp [*, errW_none, errW_some] <;> rfl), by repeat (first | (with_reducible first | exact HB.out | apply below_alloc | apply pw_below_drewN | apply below_drew1) | exact HB.out)⟩
      · rw [if_neg c6] at H
        exact absurd H (by simp)
    · rw [if_neg c5] at H
      have c5b0 : ((t405.length : Int) == 2) = false := beq_eq_false_iff_ne.mpr c5
      have c5b1 : ((t405.length : Int) != 2) = true := bne_iff_ne.mpr c5
      obtain rfl := Option.some.inj H
      go_enter Try.func24, Try.ntmps24
      go_wp2_with (first | ((with_reducible refine gate_callee (f := 25) rfl ?_); refine goesL_ (some 6) rfl rfl Try.func25 (by kernel_rfl) rfl #[.agg #[.int .u8 195, .int .u16 4660]] rfl (by (try simp only [List.map_toArray, List.map_cons, List.map_nil]); first | done | rfl | (simp only [List.length_drop, List.length_take]; rfl) | (simp only [IntKind.wrap_u8, IntKind.wrap_u32, Int.emod_add_emod, Int.add_emod_emod] <;> rfl)) ?_; (with_reducible refine (isa80_Bytes.calls k 195 4660 t401 t404 _ A1.out).mono ?_); rintro e w32 ⟨v402, rfl, ho0, hb⟩; refine ⟨_, rfl, ?_⟩; have n0_ := Aside0.mk (Kd.V_lower (Kd.V_mono (ok' := fun k_ => True) ho0 (fun k_ hk_ => trivial)) (below_size (by repeat (first | (with_reducible first | exact HB.out | apply below_alloc | apply pw_below_drewN | apply below_drew1) | exact HB.out)))); have n1_ := Aside0.mk (below_step (by repeat (first | (with_reducible first | exact HB.out | apply below_alloc | apply pw_below_drewN | apply below_drew1) | exact HB.out)) hb); clear HB; have HO403 := n0_; have HB := n1_; clear n0_ n1_; (try clear hb); (try clear hb2); (try clear hk); (try clear hi); (try clear ho0)) | ((with_reducible refine gate_callee (f := 20) rfl ?_); refine goesL_ (some 9) rfl rfl Try.func20 (by kernel_rfl) rfl #[.int .u8 120] rfl (by (try simp only [List.map_toArray, List.map_cons, List.map_nil]); first | done | rfl | (simp only [List.length_drop, List.length_take]; rfl) | (simp only [IntKind.wrap_u8, IntKind.wrap_u32, Int.emod_add_emod, Int.add_emod_emod] <;> rfl)) ?_; (with_reducible refine (isa80_Args.calls k 120 t405 _ A2.out).mono ?_); rintro e w33 ⟨v406, rfl, ho0, hb⟩; refine ⟨_, rfl, ?_⟩; have n0_ := Aside0.mk (Kd.V_elder' (by (with_reducible repeat (first | apply Kd.V_alloc | apply Kd.V_drewN | apply Kd.V_drew)); exact HO403.out) (Kd.Q_base ho0) hb); have n1_ := Aside0.mk (Kd.Q_lower ho0 (below_size (by repeat (first | (with_reducible first | exact HB.out | apply below_alloc | apply pw_below_drewN | apply below_drew1) | exact HB.out)))); have n2_ := Aside0.mk (below_step (by repeat (first | (with_reducible first | exact HB.out | apply below_alloc | apply pw_below_drewN | apply below_drew1) | exact HB.out)) hb); clear HO403; clear HB; have HO403 := n0_; have HO407 := n1_; have HB := n2_; clear n0_ n1_ n2_; (try clear hb); (try clear hb2); (try clear hk); (try clear hi); (try clear ho0)) | ((with_reducible refine gate_callee (f := 17) rfl ?_); refine goesL_ (some 10) rfl rfl Try.func17 (by kernel_rfl) rfl #[.int .u8 120] rfl (by (try simp only [List.map_toArray, List.map_cons, List.map_nil]); first | done | rfl | (simp only [List.length_drop, List.length_take]; rfl) | (simp only [IntKind.wrap_u8, IntKind.wrap_u32, Int.emod_add_emod, Int.add_emod_emod] <;> rfl)) ?_; (with_reducible refine (isa80_Name.calls k 120 t408 _ A3.out).mono ?_); rintro e w34 ⟨rfl, hb⟩; refine ⟨_, rfl, ?_⟩; have n0_ := Aside0.mk (Kd.V_below (by (with_reducible repeat (first | apply Kd.V_alloc | apply Kd.V_drewN | apply Kd.V_drew)); exact HO403.out) hb); have n1_ := Aside0.mk (Kd.Q_below (by (with_reducible repeat (first | apply Kd.Q_alloc | apply Kd.Q_drewN | apply Kd.Q_drew)); exact HO407.out) hb); have n2_ := Aside0.mk (below_step (by repeat (first | (with_reducible first | exact HB.out | apply below_alloc | apply pw_below_drewN | apply below_drew1) | exact HB.out)) hb); clear HO403; clear HO407; clear HB; have HO403 := n0_; have HO407 := n1_; have HB := n2_; clear n0_ n1_ n2_; (try clear hb); (try clear hb2); (try clear hk); (try clear hi); obtain ⟨Ao35, co35, eo35, _⟩ := Kd.Q_slice HO407.out; subst eo35))
      go_ret
      exact ⟨by first | rfl | (simp [errW_none, errW_some] <;> rfl) | (simp [*, errW_none, errW_some] <;> rfl), by repeat (first | (with_reducible first | exact HB.out | apply below_alloc | apply pw_below_drewN | apply below_drew1) | exact HB.out)⟩
  · rw [if_neg c4] at H
    have c4b0 : (t408.toList == ([77, 79, 86] : List UInt8)) = false := beq_eq_false_iff_ne.mpr c4
    have c4b1 : (t408.toList != ([77, 79, 86] : List UInt8)) = true := bne_iff_ne.mpr c4
    obtain rfl := Option.some.inj H
    go_enter Try.func24, Try.ntmps24
    go_wp2_with (first | ((with_reducible refine gate_callee (f := 25) rfl ?_); refine goesL_ (some 6) rfl rfl Try.func25 (by kernel_rfl) rfl #[.agg #[.int .u8 195, .int .u16 4660]] rfl (by (try simp only [List.map_toArray, List.map_cons, List.map_nil]); first | done | rfl | (simp only [List.length_drop, List.length_take]; rfl) | (simp only [IntKind.wrap_u8, IntKind.wrap_u32, Int.emod_add_emod, Int.add_emod_emod] <;> rfl)) ?_; (with_reducible refine (isa80_Bytes.calls k 195 4660 t401 t404 _ A1.out).mono ?_); rintro e w36 ⟨v402, rfl, ho0, hb⟩; refine ⟨_, rfl, ?_⟩; have n0_ := Aside0.mk (Kd.V_lower (Kd.V_mono (ok' := fun k_ => True) ho0 (fun k_ hk_ => trivial)) (below_size (by repeat (first | (with_reducible first | exact HB.out | apply below_alloc | apply pw_below_drewN | apply below_drew1) | exact HB.out)))); have n1_ := Aside0.mk (below_step (by repeat (first | (with_reducible first | exact HB.out | apply below_alloc | apply pw_below_drewN | apply below_drew1) | exact HB.out)) hb); clear HB; have HO403 := n0_; have HB := n1_; clear n0_ n1_; (try clear hb); (try clear hb2); (try clear hk); (try clear hi); (try clear ho0)) | ((with_reducible refine gate_callee (f := 20) rfl ?_); refine goesL_ (some 9) rfl rfl Try.func20 (by kernel_rfl) rfl #[.int .u8 120] rfl (by (try simp only [List.map_toArray, List.map_cons, List.map_nil]); first | done | rfl | (simp only [List.length_drop, List.length_take]; rfl) | (simp only [IntKind.wrap_u8, IntKind.wrap_u32, Int.emod_add_emod, Int.add_emod_emod] <;> rfl)) ?_; (with_reducible refine (isa80_Args.calls k 120 t405 _ A2.out).mono ?_); rintro e w37 ⟨v406, rfl, ho0, hb⟩; refine ⟨_, rfl, ?_⟩; have n0_ := Aside0.mk (Kd.V_elder' (by (with_reducible repeat (first | apply Kd.V_alloc | apply Kd.V_drewN | apply Kd.V_drew)); exact HO403.out) (Kd.Q_base ho0) hb); have n1_ := Aside0.mk (Kd.Q_lower ho0 (below_size (by repeat (first | (with_reducible first | exact HB.out | apply below_alloc | apply pw_below_drewN | apply below_drew1) | exact HB.out)))); have n2_ := Aside0.mk (below_step (by repeat (first | (with_reducible first | exact HB.out | apply below_alloc | apply pw_below_drewN | apply below_drew1) | exact HB.out)) hb); clear HO403; clear HB; have HO403 := n0_; have HO407 := n1_; have HB := n2_; clear n0_ n1_ n2_; (try clear hb); (try clear hb2); (try clear hk); (try clear hi); (try clear ho0)) | ((with_reducible refine gate_callee (f := 17) rfl ?_); refine goesL_ (some 10) rfl rfl Try.func17 (by kernel_rfl) rfl #[.int .u8 120] rfl (by (try simp only [List.map_toArray, List.map_cons, List.map_nil]); first | done | rfl | (simp only [List.length_drop, List.length_take]; rfl) | (simp only [IntKind.wrap_u8, IntKind.wrap_u32, Int.emod_add_emod, Int.add_emod_emod] <;> rfl)) ?_; (with_reducible refine (isa80_Name.calls k 120 t408 _ A3.out).mono ?_); rintro e w38 ⟨rfl, hb⟩; refine ⟨_, rfl, ?_⟩; have n0_ := Aside0.mk (Kd.V_below (by (with_reducible repeat (first | apply Kd.V_alloc | apply Kd.V_drewN | apply Kd.V_drew)); exact HO403.out) hb); have n1_ := Aside0.mk (Kd.Q_below (by (with_reducible repeat (first | apply Kd.Q_alloc | apply Kd.Q_drewN | apply Kd.Q_drew)); exact HO407.out) hb); have n2_ := Aside0.mk (below_step (by repeat (first | (with_reducible first | exact HB.out | apply below_alloc | apply pw_below_drewN | apply below_drew1) | exact HB.out)) hb); clear HO403; clear HO407; clear HB; have HO403 := n0_; have HO407 := n1_; have HB := n2_; clear n0_ n1_ n2_; (try clear hb); (try clear hb2); (try clear hk); (try clear hi)))
    go_ret
    exact ⟨by first | rfl | (simp [errW_none, errW_some] <;> rfl) | (simp [*, errW_none, errW_some] <;> rfl), by repeat (first | (with_reducible first | exact HB.out | apply below_alloc | apply pw_below_drewN | apply below_drew1) | exact HB.out)⟩

/-! ### pidginlaw06_Isa80Forms: function 4 -/
def pidginlaw06_Isa80Forms.f (k : Nat) (a0 : Int) : Option (Bool) := (isa80_Name.f k a0).bind fun t415 => ((pidginref06_Name.f k a0).bind fun t416 => (if t415.toList = t416.toList then ((isa80_Args.f k a0).bind fun t417 => ((pidginref06_Args.f k a0).bind fun t420 => ((pidginref06_Texts.f k t417 t420).bind fun t423 => (if t423 = true then ((isa80_Size.f k a0).bind fun t424 => ((pidginref06_Size.f k a0).bind fun t425 => (if t424 = t425 then ((pidginlaw06_alive.f k).bind fun t426 => (some t426)) else (some false)))) else (some false))))) else (some false)))
theorem pidginlaw06_Isa80Forms.mono : ∀ a0 k, LeO (pidginlaw06_Isa80Forms.f k a0) (pidginlaw06_Isa80Forms.f (k + 1) a0) := by
  intro a0 k
  unfold pidginlaw06_Isa80Forms.f
  repeat' first
      | (with_reducible exact isa80_Args.mono _ _)
      | (with_reducible exact isa80_Name.mono _ _)
      | (with_reducible exact isa80_Size.mono _ _)
      | (with_reducible exact pidginlaw06_alive.mono _)
      | (with_reducible exact pidginref06_Args.mono _ _)
      | (with_reducible exact pidginref06_Name.mono _ _)
      | (with_reducible exact pidginref06_Size.mono _ _)
      | (with_reducible exact pidginref06_Texts.mono _ _ _)
      | (with_reducible exact LeO.refl _)
      | (with_reducible exact LeO.none _)
      | (with_reducible refine LeO.ite ?_ ?_)
      | (with_reducible refine LeO.bind ?_ (fun _ => ?_))
      | exact isa80_Args.mono _ _
      | exact isa80_Name.mono _ _
      | exact isa80_Size.mono _ _
      | exact pidginlaw06_alive.mono _
      | exact pidginref06_Args.mono _ _
      | exact pidginref06_Name.mono _ _
      | exact pidginref06_Size.mono _ _
      | exact pidginref06_Texts.mono _ _ _
      | exact LeO.none _
      | refine LeO.ite ?_ ?_
      | refine LeO.bind ?_ (fun _ => ?_)
set_option maxHeartbeats 8000000 in
set_option maxRecDepth 100000 in
theorem pidginlaw06_Isa80Forms.calls (k : Nat) (a0 : Int) (r : Bool) (w : World) (h : pidginlaw06_Isa80Forms.f k a0 = some r) (hT_ : r = true) :
    Calls Try.prog 4 #[.int .u8 a0] w fun e w' => e = .returned (.bool r) ∧ Below w.heap.size w w' := by
  have HB := Aside0.mk (Below.refl w.heap.size w)
  have H : ((isa80_Name.f k a0).bind fun t415 => ((pidginref06_Name.f k a0).bind fun t416 => (if t415.toList = t416.toList then ((isa80_Args.f k a0).bind fun t417 => ((pidginref06_Args.f k a0).bind fun t420 => ((pidginref06_Texts.f k t417 t420).bind fun t423 => (if t423 = true then ((isa80_Size.f k a0).bind fun t424 => ((pidginref06_Size.f k a0).bind fun t425 => (if t424 = t425 then ((pidginlaw06_alive.f k).bind fun t426 => (some t426)) else (some false)))) else (some false))))) else (some false)))) = some r := h
  clear h
  have HT := Aside0.mk hT_
  clear hT_
  replace H := Option.bind_eq_some_iff.mp H
  obtain ⟨t415, A20, H⟩ := H
  replace H : ((pidginref06_Name.f k a0).bind fun t416 => (if t415.toList = t416.toList then ((isa80_Args.f k a0).bind fun t417 => ((pidginref06_Args.f k a0).bind fun t420 => ((pidginref06_Texts.f k t417 t420).bind fun t423 => (if t423 = true then ((isa80_Size.f k a0).bind fun t424 => ((pidginref06_Size.f k a0).bind fun t425 => (if t424 = t425 then ((pidginlaw06_alive.f k).bind fun t426 => (some t426)) else (some false)))) else (some false))))) else (some false))) = some r := H
  have A2 := Aside0.mk A20
  clear A20
  replace H := Option.bind_eq_some_iff.mp H
  obtain ⟨t416, A30, H⟩ := H
  replace H : (if t415.toList = t416.toList then ((isa80_Args.f k a0).bind fun t417 => ((pidginref06_Args.f k a0).bind fun t420 => ((pidginref06_Texts.f k t417 t420).bind fun t423 => (if t423 = true then ((isa80_Size.f k a0).bind fun t424 => ((pidginref06_Size.f k a0).bind fun t425 => (if t424 = t425 then ((pidginlaw06_alive.f k).bind fun t426 => (some t426)) else (some false)))) else (some false))))) else (some false)) = some r := H
  have A3 := Aside0.mk A30
  clear A30
  by_cases c4 : t415.toList = t416.toList
  · rw [if_pos c4] at H
    have c4b0 : (t415.toList == t416.toList) = true := beq_iff_eq.mpr c4
    have c4b1 : (t415.toList != t416.toList) = false := bne_eq_false_iff_eq.mpr c4
    clear c4
    replace H := Option.bind_eq_some_iff.mp H
    obtain ⟨t417, A50, H⟩ := H
    replace H : ((pidginref06_Args.f k a0).bind fun t420 => ((pidginref06_Texts.f k t417 t420).bind fun t423 => (if t423 = true then ((isa80_Size.f k a0).bind fun t424 => ((pidginref06_Size.f k a0).bind fun t425 => (if t424 = t425 then ((pidginlaw06_alive.f k).bind fun t426 => (some t426)) else (some false)))) else (some false)))) = some r := H
    have A5 := Aside0.mk A50
    clear A50
    replace H := Option.bind_eq_some_iff.mp H
    obtain ⟨t420, A60, H⟩ := H
    replace H : ((pidginref06_Texts.f k t417 t420).bind fun t423 => (if t423 = true then ((isa80_Size.f k a0).bind fun t424 => ((pidginref06_Size.f k a0).bind fun t425 => (if t424 = t425 then ((pidginlaw06_alive.f k).bind fun t426 => (some t426)) else (some false)))) else (some false))) = some r := H
    have A6 := Aside0.mk A60
    clear A60
    replace H := Option.bind_eq_some_iff.mp H
    obtain ⟨t423, A70, H⟩ := H
    replace H : (if t423 = true then ((isa80_Size.f k a0).bind fun t424 => ((pidginref06_Size.f k a0).bind fun t425 => (if t424 = t425 then ((pidginlaw06_alive.f k).bind fun t426 => (some t426)) else (some false)))) else (some false)) = some r := H
    have A7 := Aside0.mk A70
    clear A70
    by_cases c8 : t423 = true
    · subst c8
      have H1 : ((isa80_Size.f k a0).bind fun t424 => ((pidginref06_Size.f k a0).bind fun t425 => (if t424 = t425 then ((pidginlaw06_alive.f k).bind fun t426 => (some t426)) else (some false)))) = some r := by rw [if_pos rfl] at H; exact H
      clear H
      have H := H1
      clear H1
      replace H := Option.bind_eq_some_iff.mp H
      obtain ⟨t424, A90, H⟩ := H
      replace H : ((pidginref06_Size.f k a0).bind fun t425 => (if t424 = t425 then ((pidginlaw06_alive.f k).bind fun t426 => (some t426)) else (some false))) = some r := H
      have A9 := Aside0.mk A90
      clear A90
      replace H := Option.bind_eq_some_iff.mp H
      obtain ⟨t425, A100, H⟩ := H
      replace H : (if t424 = t425 then ((pidginlaw06_alive.f k).bind fun t426 => (some t426)) else (some false)) = some r := H
      have A10 := Aside0.mk A100
      clear A100
      by_cases c11 : t424 = t425
      · rw [if_pos c11] at H
        have c11b0 : (t424 == t425) = true := beq_iff_eq.mpr c11
        have c11b1 : (t424 != t425) = false := bne_eq_false_iff_eq.mpr c11
        clear c11
        replace H := Option.bind_eq_some_iff.mp H
        obtain ⟨t426, A120, H⟩ := H
        replace H : (some t426) = some r := H
        have A12 := Aside0.mk A120
        clear A120
        obtain rfl := Option.some.inj H
        go_enter Try.func4, Try.ntmps4
        go_wp2_with (first | ((with_reducible refine gate_callee (f := 17) rfl ?_); refine goesL_ (some 4) rfl rfl Try.func17 (by kernel_rfl) rfl #[.int .u8 a0] rfl (by (try simp only [List.map_toArray, List.map_cons, List.map_nil]); first | done | rfl | (simp only [List.length_drop, List.length_take]; rfl) | (simp only [IntKind.wrap_u8, IntKind.wrap_u32, Int.emod_add_emod, Int.add_emod_emod] <;> rfl)) ?_; (with_reducible refine (isa80_Name.calls k a0 t415 _ A2.out).mono ?_); rintro e w13 ⟨rfl, hb⟩; refine ⟨_, rfl, ?_⟩; have n0_ := Aside0.mk (below_step (by repeat (first | (with_reducible first | exact HB.out | apply below_alloc | apply pw_below_drewN | apply below_drew1) | exact HB.out)) hb); clear HB; have HB := n0_; clear n0_; (try clear hb); (try clear hb2); (try clear hk); (try clear hi)) | ((with_reducible refine gate_callee (f := 18) rfl ?_); refine goesL_ (some 6) rfl rfl Try.func18 (by kernel_rfl) rfl #[.int .u8 a0] rfl (by (try simp only [List.map_toArray, List.map_cons, List.map_nil]); first | done | rfl | (simp only [List.length_drop, List.length_take]; rfl) | (simp only [IntKind.wrap_u8, IntKind.wrap_u32, Int.emod_add_emod, Int.add_emod_emod] <;> rfl)) ?_; (with_reducible refine (pidginref06_Name.calls k a0 t416 _ A3.out).mono ?_); rintro e w14 ⟨rfl, hb⟩; refine ⟨_, rfl, ?_⟩; have n0_ := Aside0.mk (below_step (by repeat (first | (with_reducible first | exact HB.out | apply below_alloc | apply pw_below_drewN | apply below_drew1) | exact HB.out)) hb); clear HB; have HB := n0_; clear n0_; (try clear hb); (try clear hb2); (try clear hk); (try clear hi)) | (go_at_call 20; (with_reducible refine (isa80_Args.calls k a0 t417 _ A5.out).mono ?_); rintro e w15 ⟨v418, rfl, ho0, hb⟩; have n0_ := Aside0.mk (Kd.Q_lower ho0 (below_size (by repeat (first | (with_reducible first | exact HB.out | apply below_alloc | apply pw_below_drewN | apply below_drew1) | exact HB.out)))); have n1_ := Aside0.mk (below_step (by repeat (first | (with_reducible first | exact HB.out | apply below_alloc | apply pw_below_drewN | apply below_drew1) | exact HB.out)) hb); clear HB; have HO419 := n0_; have HB := n1_; clear n0_ n1_; (try clear hb); (try clear hb2); (try clear hk); (try clear hi); (try clear ho0)) | (go_at_call 21; (with_reducible refine (pidginref06_Args.calls k a0 t420 _ A6.out).mono ?_); rintro e w16 ⟨v421, rfl, ho0, hb⟩; have n0_ := Aside0.mk (Kd.Q_elder' (by (with_reducible repeat (first | apply Kd.Q_alloc | apply Kd.Q_drewN | apply Kd.Q_drew)); exact HO419.out) (Kd.Q_base ho0) hb); have n1_ := Aside0.mk (Kd.Q_lower (Kd.Q_new' ho0 (Kd.Q_lt (by (with_reducible repeat (first | apply Kd.Q_alloc | apply Kd.Q_drewN | apply Kd.Q_drew)); exact HO419.out))) (below_size (by repeat (first | (with_reducible first | exact HB.out | apply below_alloc | apply pw_below_drewN | apply below_drew1) | exact HB.out)))); have n2_ := Aside0.mk (below_step (by repeat (first | (with_reducible first | exact HB.out | apply below_alloc | apply pw_below_drewN | apply below_drew1) | exact HB.out)) hb); clear HO419; clear HB; have HO419 := n0_; have HO422 := n1_; have HB := n2_; clear n0_ n1_ n2_; (try clear hb); (try clear hb2); (try clear hk); (try clear hi); (try clear ho0); obtain ⟨Ao17, co17, eo17, _⟩ := Kd.Q_slice HO419.out; subst eo17; obtain ⟨Ao18, co18, eo18, _⟩ := Kd.Q_slice HO422.out; subst eo18) | (go_at_call 19; (with_reducible refine (pidginref06_Texts.calls k _ _ t417 _ _ t420 true _ ?side1 ?side2 ?side3 ?side4 A7.out).mono ?_); (case side1 => repeat (first | exact (Kd.Q_reads' HO419.out).2.2 | (with_reducible refine Kd.C_alloc ?_ _) | (with_reducible refine Kd.C_drewN ?_ _) | (with_reducible refine Kd.C_drew ?_))); (case side2 => exact (Kd.Q_reads' HO419.out).2.1); (case side3 => repeat (first | exact (Kd.Q_reads' HO422.out).2.2 | (with_reducible refine Kd.C_alloc ?_ _) | (with_reducible refine Kd.C_drewN ?_ _) | (with_reducible refine Kd.C_drew ?_))); (case side4 => exact (Kd.Q_reads' HO422.out).2.1); rintro e w' ⟨rfl, ⟨nd, rfl⟩⟩) | (go_at_call 22; (with_reducible refine (isa80_Size.calls k a0 t424 _ A9.out).mono ?_); rintro e w19 ⟨rfl, hb⟩; have n0_ := Aside0.mk (Kd.Q_below (by (with_reducible repeat (first | apply Kd.Q_alloc | apply Kd.Q_drewN | apply Kd.Q_drew)); exact HO419.out) hb); have n1_ := Aside0.mk (Kd.Q_below (by (with_reducible repeat (first | apply Kd.Q_alloc | apply Kd.Q_drewN | apply Kd.Q_drew)); exact HO422.out) hb); have n2_ := Aside0.mk (below_step (by repeat (first | (with_reducible first | exact HB.out | apply below_alloc | apply pw_below_drewN | apply below_drew1) | exact HB.out)) hb); clear HO419; clear HO422; clear HB; have HO419 := n0_; have HO422 := n1_; have HB := n2_; clear n0_ n1_ n2_; (try clear hb); (try clear hb2); (try clear hk); (try clear hi)) | (go_at_call 23; (with_reducible refine (pidginref06_Size.calls k a0 t425 _ A10.out).mono ?_); rintro e w20 ⟨rfl, hb⟩; have n0_ := Aside0.mk (Kd.Q_below (by (with_reducible repeat (first | apply Kd.Q_alloc | apply Kd.Q_drewN | apply Kd.Q_drew)); exact HO419.out) hb); have n1_ := Aside0.mk (Kd.Q_below (by (with_reducible repeat (first | apply Kd.Q_alloc | apply Kd.Q_drewN | apply Kd.Q_drew)); exact HO422.out) hb); have n2_ := Aside0.mk (below_step (by repeat (first | (with_reducible first | exact HB.out | apply below_alloc | apply pw_below_drewN | apply below_drew1) | exact HB.out)) hb); clear HO419; clear HO422; clear HB; have HO419 := n0_; have HO422 := n1_; have HB := n2_; clear n0_ n1_ n2_; (try clear hb); (try clear hb2); (try clear hk); (try clear hi)) | (go_at_call 24; (with_reducible refine (pidginlaw06_alive.calls k  t426 _ A12.out).mono ?_); rintro e w21 ⟨rfl, hb⟩; have n0_ := Aside0.mk (Kd.Q_below (by (with_reducible repeat (first | apply Kd.Q_alloc | apply Kd.Q_drewN | apply Kd.Q_drew)); exact HO419.out) hb); have n1_ := Aside0.mk (Kd.Q_below (by (with_reducible repeat (first | apply Kd.Q_alloc | apply Kd.Q_drewN | apply Kd.Q_drew)); exact HO422.out) hb); have n2_ := Aside0.mk (below_step (by repeat (first | (with_reducible first | exact HB.out | apply below_alloc | apply pw_below_drewN | apply below_drew1) | exact HB.out)) hb); clear HO419; clear HO422; clear HB; have HO419 := n0_; have HO422 := n1_; have HB := n2_; clear n0_ n1_ n2_; (try clear hb); (try clear hb2); (try clear hk); (try clear hi)))
        go_ret
        exact ⟨by first | rfl | (simp [errW_none, errW_some] <;> rfl) | (simp [*, errW_none, errW_some] <;> rfl), by repeat (first | (with_reducible first | exact HB.out | apply below_alloc | apply pw_below_drewN | apply below_drew1) | exact HB.out)⟩
      · rw [if_neg c11] at H
        have c11b0 : (t424 == t425) = false := beq_eq_false_iff_ne.mpr c11
        have c11b1 : (t424 != t425) = true := bne_iff_ne.mpr c11
        exact absurd ((Option.some.inj H).trans HT.out) (by decide)
    · replace c8 := Bool.eq_false_iff.mpr c8
      subst c8
      have H1 : (some false) = some r := by rw [if_neg (show ¬ (false = true) by decide)] at H; exact H
      clear H
      have H := H1
      clear H1
      exact absurd ((Option.some.inj H).trans HT.out) (by decide)
  · rw [if_neg c4] at H
    have c4b0 : (t415.toList == t416.toList) = false := beq_eq_false_iff_ne.mpr c4
    have c4b1 : (t415.toList != t416.toList) = true := bne_iff_ne.mpr c4
    exact absurd ((Option.some.inj H).trans HT.out) (by decide)

/-- THE ONE PURE STATEMENT of pidginlaw06_Isa80Forms: yours. -/
def pidginlaw06_Isa80Forms.Pure : Prop := ∀ (a0 : Int), (Lit.int .u8 a0).wf = true → ∃ k, pidginlaw06_Isa80Forms.f k a0 = some true
theorem pidginlaw06_Isa80Forms.walk (P : pidginlaw06_Isa80Forms.Pure) (a0 : Int) (w : World) (w0 : (Lit.int .u8 a0).wf = true) :
    Calls Try.prog 4 #[.int .u8 a0] w fun e w' => e = .returned (.bool true) ∧ Below w.heap.size w w' := by
  obtain ⟨k, h⟩ := P a0 w0
  refine (pidginlaw06_Isa80Forms.calls k a0 true w h rfl).mono ?_
  rintro e w' ⟨rfl, hd⟩
  exact ⟨rfl, hd⟩

/-! ### pidginref06_Bytes: function 26 -/
def pidginref06_Bytes.f (k : Nat) (a0 : Int) (a1 : Int) : Option (List Int × Int) := (pidginref06_Size.f k a0).bind fun t427 => (if t427 = 0 then (some (([] : List Int), 8)) else (if t427 = 1 then (if a1 = 0 then (some ((([a0] : List Int)), 0)) else (some (([] : List Int), 5))) else (if t427 = 2 then (if a1 > 255 then (some (([] : List Int), 5)) else (some ((([a0, (a1) % 256] : List Int)), 0))) else (some ((([a0, (Go.bits .and .u16 a1 255) % 256, (a1 / 256) % 256] : List Int)), 0)))))
theorem pidginref06_Bytes.mono : ∀ a0 a1 k, LeO (pidginref06_Bytes.f k a0 a1) (pidginref06_Bytes.f (k + 1) a0 a1) := by
  intro a0 a1 k
  unfold pidginref06_Bytes.f
  repeat' first
      | (with_reducible exact pidginref06_Size.mono _ _)
      | (with_reducible exact LeO.refl _)
      | (with_reducible exact LeO.none _)
      | (with_reducible refine LeO.ite ?_ ?_)
      | (with_reducible refine LeO.bind ?_ (fun _ => ?_))
      | exact pidginref06_Size.mono _ _
      | exact LeO.none _
      | refine LeO.ite ?_ ?_
      | refine LeO.bind ?_ (fun _ => ?_)
set_option maxHeartbeats 8000000 in
set_option maxRecDepth 100000 in
theorem pidginref06_Bytes.calls (k : Nat) (a0 : Int) (a1 : Int) (r1 : List Int) (r2 : Int) (w : World) (h : pidginref06_Bytes.f k a0 a1 = some (r1, r2)) :
    Calls Try.prog 26 #[.int .u8 a0, .int .u16 a1] w fun e w' => ∃ v0_ : Value, e = .returned (.tuple #[v0_, .int .i64 r2]) ∧ Kd.R (Kd.int .u8) 5 w' w.heap.size (fun _ => True) v0_ r1 ∧ Below w.heap.size w w' := by
  have HB := Aside0.mk (Below.refl w.heap.size w)
  have H : ((pidginref06_Size.f k a0).bind fun t427 => (if t427 = 0 then (some (([] : List Int), 8)) else (if t427 = 1 then (if a1 = 0 then (some ((([a0] : List Int)), 0)) else (some (([] : List Int), 5))) else (if t427 = 2 then (if a1 > 255 then (some (([] : List Int), 5)) else (some ((([a0, (a1) % 256] : List Int)), 0))) else (some ((([a0, (Go.bits .and .u16 a1 255) % 256, (a1 / 256) % 256] : List Int)), 0)))))) = some (r1, r2) := h
  clear h
  replace H := Option.bind_eq_some_iff.mp H
  obtain ⟨t427, A30, H⟩ := H
  replace H : (if t427 = 0 then (some (([] : List Int), 8)) else (if t427 = 1 then (if a1 = 0 then (some ((([a0] : List Int)), 0)) else (some (([] : List Int), 5))) else (if t427 = 2 then (if a1 > 255 then (some (([] : List Int), 5)) else (some ((([a0, (a1) % 256] : List Int)), 0))) else (some ((([a0, (Go.bits .and .u16 a1 255) % 256, (a1 / 256) % 256] : List Int)), 0))))) = some (r1, r2) := H
  have A3 := Aside0.mk A30
  clear A30
  by_cases c4 : t427 = 0
  · rw [if_pos c4] at H
    have c4b0 : (t427 == 0) = true := beq_iff_eq.mpr c4
    have c4b1 : (t427 != 0) = false := bne_eq_false_iff_eq.mpr c4
    clear c4
    simp only [Option.some.injEq, Prod.mk.injEq] at H
    obtain ⟨rfl, rfl⟩ := H
    go_enter Try.func26, Try.ntmps26
    go_wp2_with (first | ((with_reducible refine gate_callee (f := 23) rfl ?_); refine goesL_ (some 7) rfl rfl Try.func23 (by kernel_rfl) rfl #[.int .u8 a0] rfl (by (try simp only [List.map_toArray, List.map_cons, List.map_nil]); first | done | rfl | (simp only [List.length_drop, List.length_take]; rfl) | (simp only [IntKind.wrap_u8, IntKind.wrap_u32, Int.emod_add_emod, Int.add_emod_emod] <;> rfl)) ?_; (with_reducible refine (pidginref06_Size.calls k a0 t427 _ A3.out).mono ?_); rintro e w5 ⟨rfl, hb⟩; refine ⟨_, rfl, ?_⟩; have n0_ := Aside0.mk (below_step (by repeat (first | (with_reducible first | exact HB.out | apply below_alloc | apply pw_below_drewN | apply below_drew1) | exact HB.out)) hb); clear HB; have HB := n0_; clear n0_; (try clear hb); (try clear hb2); (try clear hk); (try clear hi)))
    go_ret2
    exact ⟨_, by first | rfl | (simp [errW_none, errW_some] <;> rfl) | (simp [*, errW_none, errW_some] <;> rfl), by first | exact Kd.R_nil _ _ _ _ _ | exact Kd.N_nil _ _ _ _ _ | exact Kd.V_nil _ _ _ _ _ | exact Kd.Q_nil _ _ _ _ _ | exact Kd.S_nil _ _ _ _ _, by repeat (first | (with_reducible first | exact HB.out | apply below_alloc | apply pw_below_drewN | apply below_drew1) | exact HB.out)⟩
  · rw [if_neg c4] at H
    have c4b0 : (t427 == 0) = false := beq_eq_false_iff_ne.mpr c4
    have c4b1 : (t427 != 0) = true := bne_iff_ne.mpr c4
    by_cases c6 : t427 = 1
    · rw [if_pos c6] at H
      have c6b0 : (t427 == 1) = true := beq_iff_eq.mpr c6
      have c6b1 : (t427 != 1) = false := bne_eq_false_iff_eq.mpr c6
      clear c6
      by_cases c7 : a1 = 0
      · rw [if_pos c7] at H
        have c7b0 : (a1 == 0) = true := beq_iff_eq.mpr c7
        have c7b1 : (a1 != 0) = false := bne_eq_false_iff_eq.mpr c7
        clear c7
        obtain ⟨y428, hy428⟩ : ∃ y_ : List Int, y_ = (([a0] : List Int)) := ⟨_, rfl⟩
        replace H : (some (y428, 0)) = some (r1, r2) := by first | (rw [hy428]; with_reducible exact H) | (have H2_ := (Option.bind_some _ _).symm.trans H; rw [hy428]; with_reducible exact H2_) | (have H2_ := (Option.bind_some _ _).symm.trans H; with_reducible exact H2_) | with_reducible exact H | (rw [hy428]; exact H) | exact H
        have Ny428 := Aside0.mk hy428
        clear hy428
        simp only [Option.some.injEq, Prod.mk.injEq] at H
        obtain ⟨rfl, rfl⟩ := H
        go_enter Try.func26, Try.ntmps26
        go_wp2_with (first | ((with_reducible refine gate_callee (f := 23) rfl ?_); refine goesL_ (some 7) rfl rfl Try.func23 (by kernel_rfl) rfl #[.int .u8 a0] rfl (by (try simp only [List.map_toArray, List.map_cons, List.map_nil]); first | done | rfl | (simp only [List.length_drop, List.length_take]; rfl) | (simp only [IntKind.wrap_u8, IntKind.wrap_u32, Int.emod_add_emod, Int.add_emod_emod] <;> rfl)) ?_; (with_reducible refine (pidginref06_Size.calls k a0 t427 _ A3.out).mono ?_); rintro e w8 ⟨rfl, hb⟩; refine ⟨_, rfl, ?_⟩; have n0_ := Aside0.mk (below_step (by repeat (first | (with_reducible first | exact HB.out | apply below_alloc | apply pw_below_drewN | apply below_drew1) | exact HB.out)) hb); clear HB; have HB := n0_; clear n0_; (try clear hb); (try clear hb2); (try clear hk); (try clear hi)) | ((with_reducible refine gate_dst (N := 15) rfl ?_); refine Kd.R_lit (Kd.int .u8) _ 5 ?hg (N := 15) ?hd (xs := ([a0] : List Int)) (inner := [.int .u8 a0]) (ok := fun _ => True) (okp := fun _ => True) ?hr ?hp (fun _ hk => hk) trivial (Below.refl _ _) (Nat.le_refl _) (by simp) ?_; (case hd => rfl); (case hg => rfl); (case hr => first | (go_simp; done) | (go_simp; rfl)); (case hp => exact (Reps.one (show Kd.M (Kd.int .u8) _ _ _ a0 [.int .u8 a0] from rfl) (Reps.none _ _))); intro v429 w9 ho10 hb hg_ hnew_; clear hg_ hnew_; (first | rw [← Ny428.out] at ho10 | (simp only [Int.reduceToNat] at ho10; rw [← Ny428.out] at ho10)); have n0_ := Aside0.mk (Kd.R_lower ho10 (below_size (by repeat (first | (with_reducible first | exact HB.out | apply below_alloc | apply pw_below_drewN | apply below_drew1) | exact HB.out)))); have n1_ := Aside0.mk (below_step (by repeat (first | (with_reducible first | exact HB.out | apply below_alloc | apply pw_below_drewN | apply below_drew1) | exact HB.out)) hb); clear HB; have HO430 := n0_; have HB := n1_; clear n0_ n1_; clear hb ho10))
        go_ret2
        exact ⟨_, by first | rfl | (simp [errW_none, errW_some] <;> rfl) | (simp [*, errW_none, errW_some] <;> rfl), by (with_reducible repeat (first | apply Kd.R_alloc | apply Kd.R_drewN | apply Kd.R_drew)); exact HO430.out, by repeat (first | (with_reducible first | exact HB.out | apply below_alloc | apply pw_below_drewN | apply below_drew1) | exact HB.out)⟩
      · rw [if_neg c7] at H
        have c7b0 : (a1 == 0) = false := beq_eq_false_iff_ne.mpr c7
        have c7b1 : (a1 != 0) = true := bne_iff_ne.mpr c7
        simp only [Option.some.injEq, Prod.mk.injEq] at H
        obtain ⟨rfl, rfl⟩ := H
        go_enter Try.func26, Try.ntmps26
        go_wp2_with (first | ((with_reducible refine gate_callee (f := 23) rfl ?_); refine goesL_ (some 7) rfl rfl Try.func23 (by kernel_rfl) rfl #[.int .u8 a0] rfl (by (try simp only [List.map_toArray, List.map_cons, List.map_nil]); first | done | rfl | (simp only [List.length_drop, List.length_take]; rfl) | (simp only [IntKind.wrap_u8, IntKind.wrap_u32, Int.emod_add_emod, Int.add_emod_emod] <;> rfl)) ?_; (with_reducible refine (pidginref06_Size.calls k a0 t427 _ A3.out).mono ?_); rintro e w11 ⟨rfl, hb⟩; refine ⟨_, rfl, ?_⟩; have n0_ := Aside0.mk (below_step (by repeat (first | (with_reducible first | exact HB.out | apply below_alloc | apply pw_below_drewN | apply below_drew1) | exact HB.out)) hb); clear HB; have HB := n0_; clear n0_; (try clear hb); (try clear hb2); (try clear hk); (try clear hi)))
        go_ret2
        exact ⟨_, by first | rfl | (simp [errW_none, errW_some] <;> rfl) | (simp [*, errW_none, errW_some] <;> rfl), by first | exact Kd.R_nil _ _ _ _ _ | exact Kd.N_nil _ _ _ _ _ | exact Kd.V_nil _ _ _ _ _ | exact Kd.Q_nil _ _ _ _ _ | exact Kd.S_nil _ _ _ _ _, by repeat (first | (with_reducible first | exact HB.out | apply below_alloc | apply pw_below_drewN | apply below_drew1) | exact HB.out)⟩
    · rw [if_neg c6] at H
      have c6b0 : (t427 == 1) = false := beq_eq_false_iff_ne.mpr c6
      have c6b1 : (t427 != 1) = true := bne_iff_ne.mpr c6
      by_cases c12 : t427 = 2
      · rw [if_pos c12] at H
        have c12b0 : (t427 == 2) = true := beq_iff_eq.mpr c12
        have c12b1 : (t427 != 2) = false := bne_eq_false_iff_eq.mpr c12
        clear c12
        by_cases c13 : a1 > 255
        · rw [if_pos c13] at H
          have c13b0 : decide (255 < a1) = true := decide_eq_true c13
          clear c13
          simp only [Option.some.injEq, Prod.mk.injEq] at H
          obtain ⟨rfl, rfl⟩ := H
          go_enter Try.func26, Try.ntmps26
          go_wp2_with (first | ((with_reducible refine gate_callee (f := 23) rfl ?_); refine goesL_ (some 7) rfl rfl Try.func23 (by kernel_rfl) rfl #[.int .u8 a0] rfl (by (try simp only [List.map_toArray, List.map_cons, List.map_nil]); first | done | rfl | (simp only [List.length_drop, List.length_take]; rfl) | (simp only [IntKind.wrap_u8, IntKind.wrap_u32, Int.emod_add_emod, Int.add_emod_emod] <;> rfl)) ?_; (with_reducible refine (pidginref06_Size.calls k a0 t427 _ A3.out).mono ?_); rintro e w14 ⟨rfl, hb⟩; refine ⟨_, rfl, ?_⟩; have n0_ := Aside0.mk (below_step (by repeat (first | (with_reducible first | exact HB.out | apply below_alloc | apply pw_below_drewN | apply below_drew1) | exact HB.out)) hb); clear HB; have HB := n0_; clear n0_; (try clear hb); (try clear hb2); (try clear hk); (try clear hi)))
          go_ret2
          exact ⟨_, by first | rfl | (simp [errW_none, errW_some] <;> rfl) | (simp [*, errW_none, errW_some] <;> rfl), by first | exact Kd.R_nil _ _ _ _ _ | exact Kd.N_nil _ _ _ _ _ | exact Kd.V_nil _ _ _ _ _ | exact Kd.Q_nil _ _ _ _ _ | exact Kd.S_nil _ _ _ _ _, by repeat (first | (with_reducible first | exact HB.out | apply below_alloc | apply pw_below_drewN | apply below_drew1) | exact HB.out)⟩
        · rw [if_neg c13] at H
          have c13b0 : decide (255 < a1) = false := decide_eq_false c13
          clear c13
          obtain ⟨y431, hy431⟩ : ∃ y_ : List Int, y_ = (([a0, (a1) % 256] : List Int)) := ⟨_, rfl⟩
          replace H : (some (y431, 0)) = some (r1, r2) := by first | (rw [hy431]; with_reducible exact H) | (have H2_ := (Option.bind_some _ _).symm.trans H; rw [hy431]; with_reducible exact H2_) | (have H2_ := (Option.bind_some _ _).symm.trans H; with_reducible exact H2_) | with_reducible exact H | (rw [hy431]; exact H) | exact H
          have Ny431 := Aside0.mk hy431
          clear hy431
          simp only [Option.some.injEq, Prod.mk.injEq] at H
          obtain ⟨rfl, rfl⟩ := H
          go_enter Try.func26, Try.ntmps26
          go_wp2_with (first | ((with_reducible refine gate_callee (f := 23) rfl ?_); refine goesL_ (some 7) rfl rfl Try.func23 (by kernel_rfl) rfl #[.int .u8 a0] rfl (by (try simp only [List.map_toArray, List.map_cons, List.map_nil]); first | done | rfl | (simp only [List.length_drop, List.length_take]; rfl) | (simp only [IntKind.wrap_u8, IntKind.wrap_u32, Int.emod_add_emod, Int.add_emod_emod] <;> rfl)) ?_; (with_reducible refine (pidginref06_Size.calls k a0 t427 _ A3.out).mono ?_); rintro e w15 ⟨rfl, hb⟩; refine ⟨_, rfl, ?_⟩; have n0_ := Aside0.mk (below_step (by repeat (first | (with_reducible first | exact HB.out | apply below_alloc | apply pw_below_drewN | apply below_drew1) | exact HB.out)) hb); clear HB; have HB := n0_; clear n0_; (try clear hb); (try clear hb2); (try clear hk); (try clear hi)) | ((with_reducible refine gate_dst (N := 23) rfl ?_); refine Kd.R_lit (Kd.int .u8) _ 5 ?hg (N := 23) ?hd (xs := ([a0, (a1) % 256] : List Int)) (inner := [.int .u8 a0, .int .u8 ((a1) % 256)]) (ok := fun _ => True) (okp := fun _ => True) ?hr ?hp (fun _ hk => hk) trivial (Below.refl _ _) (Nat.le_refl _) (by simp) ?_; (case hd => rfl); (case hg => rfl); (case hr => first | (go_simp; done) | (go_simp; rfl)); (case hp => exact (Reps.one (show Kd.M (Kd.int .u8) _ _ _ a0 [.int .u8 a0] from rfl) (Reps.one (show Kd.M (Kd.int .u8) _ _ _ ((a1) % 256) [.int .u8 ((a1) % 256)] from rfl) (Reps.none _ _)))); intro v432 w16 ho17 hb hg_ hnew_; clear hg_ hnew_; (first | rw [← Ny431.out] at ho17 | (simp only [Int.reduceToNat] at ho17; rw [← Ny431.out] at ho17)); have n0_ := Aside0.mk (Kd.R_lower ho17 (below_size (by repeat (first | (with_reducible first | exact HB.out | apply below_alloc | apply pw_below_drewN | apply below_drew1) | exact HB.out)))); have n1_ := Aside0.mk (below_step (by repeat (first | (with_reducible first | exact HB.out | apply below_alloc | apply pw_below_drewN | apply below_drew1) | exact HB.out)) hb); clear HB; have HO433 := n0_; have HB := n1_; clear n0_ n1_; clear hb ho17))
          go_ret2
          exact ⟨_, by first | rfl | (simp [errW_none, errW_some] <;> rfl) | (simp [*, errW_none, errW_some] <;> rfl), by (with_reducible repeat (first | apply Kd.R_alloc | apply Kd.R_drewN | apply Kd.R_drew)); exact HO433.out, by repeat (first | (with_reducible first | exact HB.out | apply below_alloc | apply pw_below_drewN | apply below_drew1) | exact HB.out)⟩
      · rw [if_neg c12] at H
        have c12b0 : (t427 == 2) = false := beq_eq_false_iff_ne.mpr c12
        have c12b1 : (t427 != 2) = true := bne_iff_ne.mpr c12
        obtain ⟨y434, hy434⟩ : ∃ y_ : List Int, y_ = (([a0, (Go.bits .and .u16 a1 255) % 256, (a1 / 256) % 256] : List Int)) := ⟨_, rfl⟩
        replace H : (some (y434, 0)) = some (r1, r2) := by first | (rw [hy434]; with_reducible exact H) | (have H2_ := (Option.bind_some _ _).symm.trans H; rw [hy434]; with_reducible exact H2_) | (have H2_ := (Option.bind_some _ _).symm.trans H; with_reducible exact H2_) | with_reducible exact H | (rw [hy434]; exact H) | exact H
        have Ny434 := Aside0.mk hy434
        clear hy434
        simp only [Option.some.injEq, Prod.mk.injEq] at H
        obtain ⟨rfl, rfl⟩ := H
        go_enter Try.func26, Try.ntmps26
        go_wp2_with (first | ((with_reducible refine gate_callee (f := 23) rfl ?_); refine goesL_ (some 7) rfl rfl Try.func23 (by kernel_rfl) rfl #[.int .u8 a0] rfl (by (try simp only [List.map_toArray, List.map_cons, List.map_nil]); first | done | rfl | (simp only [List.length_drop, List.length_take]; rfl) | (simp only [IntKind.wrap_u8, IntKind.wrap_u32, Int.emod_add_emod, Int.add_emod_emod] <;> rfl)) ?_; (with_reducible refine (pidginref06_Size.calls k a0 t427 _ A3.out).mono ?_); rintro e w18 ⟨rfl, hb⟩; refine ⟨_, rfl, ?_⟩; have n0_ := Aside0.mk (below_step (by repeat (first | (with_reducible first | exact HB.out | apply below_alloc | apply pw_below_drewN | apply below_drew1) | exact HB.out)) hb); clear HB; have HB := n0_; clear n0_; (try clear hb); (try clear hb2); (try clear hk); (try clear hi)) | ((with_reducible refine gate_dst (N := 31) rfl ?_); refine Kd.R_lit (Kd.int .u8) _ 5 ?hg (N := 31) ?hd (xs := ([a0, (Go.bits .and .u16 a1 255) % 256, (a1 / 256) % 256] : List Int)) (inner := [.int .u8 a0, .int .u8 ((Go.bits .and .u16 a1 255) % 256), .int .u8 ((a1 / 256) % 256)]) (ok := fun _ => True) (okp := fun _ => True) ?hr ?hp (fun _ hk => hk) trivial (Below.refl _ _) (Nat.le_refl _) (by simp) ?_; (case hd => rfl); (case hg => rfl); (case hr => first | (go_simp; done) | (go_simp; rfl)); (case hp => exact (Reps.one (show Kd.M (Kd.int .u8) _ _ _ a0 [.int .u8 a0] from rfl) (Reps.one (show Kd.M (Kd.int .u8) _ _ _ ((Go.bits .and .u16 a1 255) % 256) [.int .u8 ((Go.bits .and .u16 a1 255) % 256)] from rfl) (Reps.one (show Kd.M (Kd.int .u8) _ _ _ ((a1 / 256) % 256) [.int .u8 ((a1 / 256) % 256)] from rfl) (Reps.none _ _))))); intro v435 w19 ho20 hb hg_ hnew_; clear hg_ hnew_; (first | rw [← Ny434.out] at ho20 | (simp only [Int.reduceToNat] at ho20; rw [← Ny434.out] at ho20)); have n0_ := Aside0.mk (Kd.R_lower ho20 (below_size (by repeat (first | (with_reducible first | exact HB.out | apply below_alloc | apply pw_below_drewN | apply below_drew1) | exact HB.out)))); have n1_ := Aside0.mk (below_step (by repeat (first | (with_reducible first | exact HB.out | apply below_alloc | apply pw_below_drewN | apply below_drew1) | exact HB.out)) hb); clear HB; have HO436 := n0_; have HB := n1_; clear n0_ n1_; clear hb ho20))
        go_ret2
        exact ⟨_, by first | rfl | (simp [errW_none, errW_some] <;> rfl) | (simp [*, errW_none, errW_some] <;> rfl), by (with_reducible repeat (first | apply Kd.R_alloc | apply Kd.R_drewN | apply Kd.R_drew)); exact HO436.out, by repeat (first | (with_reducible first | exact HB.out | apply below_alloc | apply pw_below_drewN | apply below_drew1) | exact HB.out)⟩

end Go.Proofs.Ytmecindhgjdbgaa.PIsa
