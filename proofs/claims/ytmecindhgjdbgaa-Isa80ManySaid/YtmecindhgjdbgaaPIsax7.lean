-- Printed by a program of this claim's own, out of the translation. Not trusted: Lean checks it.
import Derived.Test.YtmecindhgjdbgaaPIsax0
import Derived.Test.YtmecindhgjdbgaaPIsax4
import Derived.Test.YtmecindhgjdbgaaPIsax5
import Derived.Test.YtmecindhgjdbgaaPIsax6
namespace Go.Proofs.Ytmecindhgjdbgaa.PIsa
open Go.RowKit Go.Proofs.YtmecindhgjdbgaaW.PrintWords Go.Proofs.YtmecindhgjdbgaaW.PrintLast Go.Proofs.YtmecindhgjdbgaaW.PrintMore
attribute [local go_sem] max2_int min2_int max_two min_two max_three min_three max_four min_four   -- for this text's walks alone
set_option linter.unusedVariables false
set_option linter.unusedSimpArgs false

/-! ### pidginlaw06_Isa80Back: function 7 -/
def pidginlaw06_Isa80Back.j0 : Nat → List Int → Option (Bool)
  | 0, _ => none
  | k + 1, x2 => (isa80_Read.f k x2).bind fun bt490 => (if bt490.2.2.2 = 0 then ((isa80_Bytes.f k bt490.1 bt490.2.1).bind fun bt495 => (if bt495.2 = 0 then (if bt490.2.2.1 = (bt495.1.length : Int) then (if 0 ≤ bt490.2.2.1 then (if bt490.2.2.1 ≤ (x2.length : Int) then ((pidginref02_Bytes.f k bt495.1 (x2.take (bt490.2.2.1 : Int).toNat)).bind fun t500 => (if t500 = true then ((pidginlaw06_alive.f k).bind fun t501 => (some t501)) else (some false))) else (none)) else (none)) else (some false)) else (some false))) else (if bt490.2.2.1 = 0 then ((pidginlaw06_alive.f k).bind fun t502 => (some t502)) else (some false)))
def pidginlaw06_Isa80Back.f (k : Nat) (a0 : Int) (a1 : Int) (l2 : List Int) : Option (Bool) := if (l2.length : Int) > 1000 then ((pidginlaw06_alive.f k).bind fun t471 => (some t471)) else ((isa80_Bytes.f k a0 a1).bind fun bt472 => (if bt472.2 = 0 then ((some (([] : List Int) : List Int)).bind fun y476 => (if y476.length + bt472.1.length < 140737488355328 then ((some (y476 ++ bt472.1 : List Int)).bind fun y479 => (if y479.length + l2.length < 140737488355328 then ((isa80_Read.f k (y479 ++ l2)).bind fun bt485 => (if bt485.2.2.2 = 0 then (if bt485.1 = a0 then (if bt485.2.1 = a1 then (if bt485.2.2.1 = (bt472.1.length : Int) then (pidginlaw06_Isa80Back.j0 k l2) else (some false)) else (some false)) else (some false)) else (some false))) else (none))) else (none))) else (pidginlaw06_Isa80Back.j0 k l2)))
theorem pidginlaw06_Isa80Back.mono_l : ∀ k, (∀ y0, LeO (pidginlaw06_Isa80Back.j0 k y0) (pidginlaw06_Isa80Back.j0 (k + 1) y0))
  | 0 => fun _ r h => by simp [pidginlaw06_Isa80Back.j0] at h
  | k + 1 => by
    have ih0 := pidginlaw06_Isa80Back.mono_l k
    · intro y0
      unfold pidginlaw06_Isa80Back.j0
      repeat' first
      | (with_reducible exact ih0 _)
      | (with_reducible exact isa80_Bytes.mono _ _ _)
      | (with_reducible exact isa80_Read.mono _ _)
      | (with_reducible exact pidginlaw06_alive.mono _)
      | (with_reducible exact pidginref02_Bytes.mono _ _ _)
      | (with_reducible exact LeO.refl _)
      | (with_reducible exact LeO.none _)
      | (with_reducible refine LeO.ite ?_ ?_)
      | (with_reducible refine LeO.bind ?_ (fun _ => ?_))
      | exact ih0 _
      | exact isa80_Bytes.mono _ _ _
      | exact isa80_Read.mono _ _
      | exact pidginlaw06_alive.mono _
      | exact pidginref02_Bytes.mono _ _ _
      | exact LeO.none _
      | refine LeO.ite ?_ ?_
      | refine LeO.bind ?_ (fun _ => ?_)
theorem pidginlaw06_Isa80Back.mono : ∀ a0 a1 a2 k, LeO (pidginlaw06_Isa80Back.f k a0 a1 a2) (pidginlaw06_Isa80Back.f (k + 1) a0 a1 a2) := by
  intro a0 a1 a2 k
  have ih0 := pidginlaw06_Isa80Back.mono_l k
  unfold pidginlaw06_Isa80Back.f
  repeat' first
      | (with_reducible exact ih0 _)
      | (with_reducible exact isa80_Bytes.mono _ _ _)
      | (with_reducible exact isa80_Read.mono _ _)
      | (with_reducible exact pidginlaw06_alive.mono _)
      | (with_reducible exact pidginref02_Bytes.mono _ _ _)
      | (with_reducible exact LeO.refl _)
      | (with_reducible exact LeO.none _)
      | (with_reducible refine LeO.ite ?_ ?_)
      | (with_reducible refine LeO.bind ?_ (fun _ => ?_))
      | exact ih0 _
      | exact isa80_Bytes.mono _ _ _
      | exact isa80_Read.mono _ _
      | exact pidginlaw06_alive.mono _
      | exact pidginref02_Bytes.mono _ _ _
      | exact LeO.none _
      | refine LeO.ite ?_ ?_
      | refine LeO.bind ?_ (fun _ => ?_)
set_option maxHeartbeats 8000000 in
set_option maxRecDepth 100000 in
theorem pidginlaw06_Isa80Back.calls (k : Nat) (a0 : Int) (a1 : Int) (A2 : Option Addr) (c2 : Nat) (l2 : List Int) (r : Bool) (w : World) (hr2 : Kd.C (Kd.int .u8) w A2 l2.length l2) (hc2 : l2.length ≤ c2) (h : pidginlaw06_Isa80Back.f k a0 a1 l2 = some r) (hT_ : r = true) :
    Calls Try.prog 7 #[.int .u8 a0, .int .u16 a1, .slice A2 l2.length c2] w fun e w' => e = .returned (.bool r) ∧ Below w.heap.size w w' := by
  have hu45 := Try.underlying45
  have HR2 := Aside0.mk hr2
  have HC2 := Aside0.mk hc2
  clear hr2 hc2
  have HB := Aside0.mk (Below.refl w.heap.size w)
  have H : (if (l2.length : Int) > 1000 then ((pidginlaw06_alive.f k).bind fun t471 => (some t471)) else ((isa80_Bytes.f k a0 a1).bind fun bt472 => (if bt472.2 = 0 then ((some (([] : List Int) : List Int)).bind fun y476 => (if y476.length + bt472.1.length < 140737488355328 then ((some (y476 ++ bt472.1 : List Int)).bind fun y479 => (if y479.length + l2.length < 140737488355328 then ((isa80_Read.f k (y479 ++ l2)).bind fun bt485 => (if bt485.2.2.2 = 0 then (if bt485.1 = a0 then (if bt485.2.1 = a1 then (if bt485.2.2.1 = (bt472.1.length : Int) then (pidginlaw06_Isa80Back.j0 k l2) else (some false)) else (some false)) else (some false)) else (some false))) else (none))) else (none))) else (pidginlaw06_Isa80Back.j0 k l2)))) = some r := h
  clear h
  have HT := Aside0.mk hT_
  clear hT_
  by_cases c4 : (l2.length : Int) > 1000
  · rw [if_pos c4] at H
    have c4b0 : decide (1000 < (l2.length : Int)) = true := decide_eq_true c4
    have c4b1 : decide (1000 < l2.length) = true := decide_eq_true (by omega)
    clear c4
    replace H := Option.bind_eq_some_iff.mp H
    obtain ⟨t471, A50, H⟩ := H
    replace H : (some t471) = some r := H
    have A5 := Aside0.mk A50
    clear A50
    obtain rfl := Option.some.inj H
    go_enter Try.func7, Try.ntmps7
    go_wp2_with (first | ((with_reducible refine gate_callee (f := 24) rfl ?_); refine goesL_ (some 20) rfl rfl Try.func24 (by kernel_rfl) rfl #[] rfl (by (try simp only [List.map_toArray, List.map_cons, List.map_nil]); first | done | rfl | (simp only [List.length_drop, List.length_take]; rfl) | (simp only [IntKind.wrap_u8, IntKind.wrap_u32, Int.emod_add_emod, Int.add_emod_emod] <;> rfl)) ?_; (with_reducible refine (pidginlaw06_alive.calls k  t471 _ A5.out).mono ?_); rintro e w6 ⟨rfl, hb⟩; refine ⟨_, rfl, ?_⟩; have n0_ := Aside0.mk (below_step (by repeat (first | (with_reducible first | exact HB.out | apply below_alloc | apply pw_below_drewN | apply below_drew1) | exact HB.out)) hb); clear HB; have HB := n0_; clear n0_; (try clear hb); (try clear hb2); (try clear hk); (try clear hi)))
    go_ret
    exact ⟨by first | rfl | (simp [errW_none, errW_some] <;> rfl) | (simp [*, errW_none, errW_some] <;> rfl), by repeat (first | (with_reducible first | exact HB.out | apply below_alloc | apply pw_below_drewN | apply below_drew1) | exact HB.out)⟩
  · rw [if_neg c4] at H
    have c4b0 : decide (1000 < (l2.length : Int)) = false := decide_eq_false c4
    have c4b1 : decide (1000 < l2.length) = false := decide_eq_false (by omega)
    clear c4
    replace H := Option.bind_eq_some_iff.mp H
    obtain ⟨⟨t472, t475⟩, A70, H⟩ := H
    replace H : (if t475 = 0 then ((some (([] : List Int) : List Int)).bind fun y476 => (if y476.length + t472.length < 140737488355328 then ((some (y476 ++ t472 : List Int)).bind fun y479 => (if y479.length + l2.length < 140737488355328 then ((isa80_Read.f k (y479 ++ l2)).bind fun bt485 => (if bt485.2.2.2 = 0 then (if bt485.1 = a0 then (if bt485.2.1 = a1 then (if bt485.2.2.1 = (t472.length : Int) then (pidginlaw06_Isa80Back.j0 k l2) else (some false)) else (some false)) else (some false)) else (some false))) else (none))) else (none))) else (pidginlaw06_Isa80Back.j0 k l2)) = some r := H
    have A7 := Aside0.mk A70
    clear A70
    have HC8 := Aside0.mk H
    clear H
    go_enter Try.func7, Try.ntmps7
    go_upto_if 29 with (first | ((with_reducible refine gate_callee (f := 25) rfl ?_); refine goesL_ (some 25) rfl rfl Try.func25 (by kernel_rfl) rfl #[.agg #[.int .u8 a0, .int .u16 a1]] rfl (by (try simp only [List.map_toArray, List.map_cons, List.map_nil]); first | done | rfl | (simp only [List.length_drop, List.length_take]; rfl) | (simp only [IntKind.wrap_u8, IntKind.wrap_u32, Int.emod_add_emod, Int.add_emod_emod] <;> rfl)) ?_; (with_reducible refine (isa80_Bytes.calls k a0 a1 t472 t475 _ A7.out).mono ?_); rintro e w9 ⟨v473, rfl, ho0, hb⟩; refine ⟨_, rfl, ?_⟩; have n0_ := Aside0.mk (Kd.V_lower (Kd.V_mono (ok' := fun k_ => True) ho0 (fun k_ hk_ => trivial)) (below_size (by repeat (first | (with_reducible first | exact HB.out | apply below_alloc | apply pw_below_drewN | apply below_drew1) | exact HB.out)))); have n1_ := Aside0.mk (below_step (by repeat (first | (with_reducible first | exact HB.out | apply below_alloc | apply pw_below_drewN | apply below_drew1) | exact HB.out)) hb); clear HB; have HO474 := n0_; have HB := n1_; clear n0_ n1_; (try clear hb); (try clear hb2); (try clear hk); (try clear hi); (try clear ho0)))
    (try simp only [Act.put, List.setIfInBounds_toArray, List.set_cons_zero, List.set_cons_succ])
    go_cut [] (fun wc => ∃ (kq : Nat), Aside0 (pidginlaw06_Isa80Back.j0 kq l2 = some r) ∧ Aside0 (kq ≤ k) ∧ Aside0 (Below w.heap.size w wc))
    case first =>
      have H := HC8.out
      clear HC8
      by_cases c10 : t475 = 0
      · rw [if_pos c10] at H
        have c10b0 : (t475 == 0) = true := beq_iff_eq.mpr c10
        have c10b1 : (t475 != 0) = false := bne_eq_false_iff_eq.mpr c10
        clear c10
        (first | rw [c10b0] | (simp only [i64_w, i32_w]; rw [c10b0]) | skip)
        obtain ⟨y476, hy476⟩ : ∃ y_ : List Int, y_ = (([] : List Int)) := ⟨_, rfl⟩
        replace H : (if y476.length + t472.length < 140737488355328 then ((some (y476 ++ t472 : List Int)).bind fun y479 => (if y479.length + l2.length < 140737488355328 then ((isa80_Read.f k (y479 ++ l2)).bind fun bt485 => (if bt485.2.2.2 = 0 then (if bt485.1 = a0 then (if bt485.2.1 = a1 then (if bt485.2.2.1 = (t472.length : Int) then (pidginlaw06_Isa80Back.j0 k l2) else (some false)) else (some false)) else (some false)) else (some false))) else (none))) else (none)) = some r := by first | (rw [hy476]; with_reducible exact H) | (have H2_ := (Option.bind_some _ _).symm.trans H; rw [hy476]; with_reducible exact H2_) | (have H2_ := (Option.bind_some _ _).symm.trans H; with_reducible exact H2_) | with_reducible exact H | (rw [hy476]; exact H) | exact H
        have Ny476 := Aside0.mk hy476
        clear hy476
        by_cases c11 : y476.length + t472.length < 140737488355328
        · rw [if_pos c11] at H
          have LMc11 := Aside0.mk c11
          clear c11
          obtain ⟨y479, hy479⟩ : ∃ y_ : List Int, y_ = (y476 ++ t472) := ⟨_, rfl⟩
          replace H : (if y479.length + l2.length < 140737488355328 then ((isa80_Read.f k (y479 ++ l2)).bind fun bt485 => (if bt485.2.2.2 = 0 then (if bt485.1 = a0 then (if bt485.2.1 = a1 then (if bt485.2.2.1 = (t472.length : Int) then (pidginlaw06_Isa80Back.j0 k l2) else (some false)) else (some false)) else (some false)) else (some false))) else (none)) = some r := by first | (rw [hy479]; with_reducible exact H) | (have H2_ := (Option.bind_some _ _).symm.trans H; rw [hy479]; with_reducible exact H2_) | (have H2_ := (Option.bind_some _ _).symm.trans H; with_reducible exact H2_) | with_reducible exact H | (rw [hy479]; exact H) | exact H
          have Ny479 := Aside0.mk hy479
          clear hy479
          by_cases c12 : y479.length + l2.length < 140737488355328
          · rw [if_pos c12] at H
            have LMc12 := Aside0.mk c12
            clear c12
            obtain ⟨y482, hy482⟩ : ∃ y_ : List Int, y_ = (y479 ++ l2) := ⟨_, rfl⟩
            replace H : ((isa80_Read.f k y482).bind fun bt485 => (if bt485.2.2.2 = 0 then (if bt485.1 = a0 then (if bt485.2.1 = a1 then (if bt485.2.2.1 = (t472.length : Int) then (pidginlaw06_Isa80Back.j0 k l2) else (some false)) else (some false)) else (some false)) else (some false))) = some r := by first | (rw [hy482]; with_reducible exact H) | (have H2_ := (Option.bind_some _ _).symm.trans H; rw [hy482]; with_reducible exact H2_) | (have H2_ := (Option.bind_some _ _).symm.trans H; with_reducible exact H2_) | with_reducible exact H | (rw [hy482]; exact H) | exact H
            have Ny482 := Aside0.mk hy482
            clear hy482
            replace H := Option.bind_eq_some_iff.mp H
            obtain ⟨⟨t485, t486, t487, t488⟩, A130, H⟩ := H
            replace H : (if t488 = 0 then (if t485 = a0 then (if t486 = a1 then (if t487 = (t472.length : Int) then (pidginlaw06_Isa80Back.j0 k l2) else (some false)) else (some false)) else (some false)) else (some false)) = some r := H
            have A13 := Aside0.mk A130
            clear A130
            by_cases c14 : t488 = 0
            · rw [if_pos c14] at H
              have c14b0 : (t488 == 0) = true := beq_iff_eq.mpr c14
              have c14b1 : (t488 != 0) = false := bne_eq_false_iff_eq.mpr c14
              clear c14
              by_cases c15 : t485 = a0
              · rw [if_pos c15] at H
                have c15b0 : (t485 == a0) = true := beq_iff_eq.mpr c15
                have c15b1 : (t485 != a0) = false := bne_eq_false_iff_eq.mpr c15
                clear c15
                by_cases c16 : t486 = a1
                · rw [if_pos c16] at H
                  have c16b0 : (t486 == a1) = true := beq_iff_eq.mpr c16
                  have c16b1 : (t486 != a1) = false := bne_eq_false_iff_eq.mpr c16
                  clear c16
                  by_cases c17 : t487 = (t472.length : Int)
                  · rw [if_pos c17] at H
                    have c17b0 : (t487 == (t472.length : Int)) = true := beq_iff_eq.mpr c17
                    have c17b1 : (t487 != (t472.length : Int)) = false := bne_eq_false_iff_eq.mpr c17
                    clear c17
                    have H' := Aside0.mk H
                    clear H
                    go_wp2_with (first | ((with_reducible refine gate_dst (N := 31) rfl ?_); (try (refine gate_guard (by rfl) ?_; dsimp only)); refine Kd.R_lit (Kd.int .u8) _ 5 ?hg (N := 31) ?hd (xs := ([] : List Int)) (inner := []) (ok := fun _ => True) (okp := fun _ => True) ?hr ?hp (fun _ hk => hk) trivial (Below.refl _ _) (Nat.le_refl _) (by simp) ?_; (case hd => rfl); (case hg => rfl); (case hr => first | (go_simp; done) | (go_simp; rfl)); (case hp => exact (Reps.none _ _)); intro v477 w18 ho19 hb hg_ hnew_; clear hg_ hnew_; (first | rw [← Ny476.out] at ho19 | (simp only [Int.reduceToNat] at ho19; rw [← Ny476.out] at ho19)); have n0_ := Aside0.mk (Kd.V_elder' (by (with_reducible repeat (first | apply Kd.V_alloc | apply Kd.V_drewN | apply Kd.V_drew)); exact HO474.out) (Kd.R_base ho19) hb); have n1_ := Aside0.mk (Kd.R_lower ho19 (below_size (by repeat (first | (with_reducible first | exact HB.out | apply below_alloc | apply pw_below_drewN | apply below_drew1) | exact HB.out)))); have n2_ := Aside0.mk (below_step (by repeat (first | (with_reducible first | exact HB.out | apply below_alloc | apply pw_below_drewN | apply below_drew1) | exact HB.out)) hb); clear HO474; clear HB; have HO474 := n0_; have HO478 := n1_; have HB := n2_; clear n0_ n1_ n2_; clear hb ho19; obtain ⟨Ao21, co21, eo21⟩ := Kd.V_slice HO474.out; subst eo21) | ((with_reducible refine gate_builtin (b := .append) (xs := #[.tmp 31, .tmp 32]) rfl ?_); (try (refine gate_guard (by rfl) ?_; dsimp only)); at_builtin; refine Kd.R_append_rows (Kd.int .u8) (w0 := w) w.heap.size rfl (.tmp 31) (.tmp 32) 29 5 (.int .u8 0) 1 rfl Try.underlying29 info5 rfl (by decide) (by omega) v477 y476 t472 _ _ _ (fun _ => True) (fun _ => False) rfl rfl ?aO ?aR (fun _ _ h => h) (fun _ h => h.elim) ?aF ?aB ?aS ?aL ?_; (case aR => repeat (first | exact (Kd.V_reads' HO474.out).2.2 | (with_reducible refine Kd.C_alloc ?_ _) | (with_reducible refine Kd.C_drewN ?_ _) | (with_reducible refine Kd.C_drew ?_))); (case aB => exact (by repeat (first | (with_reducible first | exact HB.out | apply below_alloc | apply pw_below_drewN | apply below_drew1) | exact HB.out))); (case aF => exact (fun _ _ => trivial)); (case aO => exact (by (with_reducible repeat (first | apply Kd.R_alloc | apply Kd.R_drewN | apply Kd.R_drew)); exact HO478.out)); (case aS => exact (below_size (by repeat (first | (with_reducible first | exact HB.out | apply below_alloc | apply pw_below_drewN | apply below_drew1) | exact HB.out)))); (case aL => have := LMc11.out; omega); intro v480 w20 ho hb hg hat; rw [← Ny479.out] at ho; have n0_ := Aside0.mk (Kd.V_afterv (ok := (fun _ => True)) (by (with_reducible repeat (first | apply Kd.V_alloc | apply Kd.V_drewN | apply Kd.V_drew)); exact HO474.out) hg hat); have n1_ := Aside0.mk (hb); have n2_ := Aside0.mk (ho); clear HO474; clear HB; clear HO478; have HO474 := n0_; have HB := n1_; have HO481 := n2_; clear n0_ n1_ n2_; clear ho hb hg hat) | ((with_reducible refine gate_builtin (b := .append) (xs := #[.tmp 33, .tmp 34]) rfl ?_); (try (refine gate_guard (by rfl) ?_; dsimp only)); at_builtin; refine Kd.R_append_rows (Kd.int .u8) (w0 := w) w.heap.size rfl (.tmp 33) (.tmp 34) 29 5 (.int .u8 0) 1 rfl Try.underlying29 info5 rfl (by decide) (by omega) v480 y479 l2 _ _ _ (fun _ => True) (fun _ => False) rfl rfl ?aO ?aR (fun _ _ h => h) (fun _ h => h.elim) ?aF ?aB ?aS ?aL ?_; (case aR => repeat (first | exact (Kd.C_below HR2.out HB.out) | (with_reducible refine Kd.C_alloc ?_ _) | (with_reducible refine Kd.C_drewN ?_ _) | (with_reducible refine Kd.C_drew ?_))); (case aB => exact (by repeat (first | (with_reducible first | exact HB.out | apply below_alloc | apply pw_below_drewN | apply below_drew1) | exact HB.out))); (case aF => exact (fun _ _ => trivial)); (case aO => exact (by (with_reducible repeat (first | apply Kd.R_alloc | apply Kd.R_drewN | apply Kd.R_drew)); exact HO481.out)); (case aS => exact (below_size (by repeat (first | (with_reducible first | exact HB.out | apply below_alloc | apply pw_below_drewN | apply below_drew1) | exact HB.out)))); (case aL => have := LMc12.out; omega); intro v483 w22 ho hb hg hat; rw [← Ny482.out] at ho; have n0_ := Aside0.mk (Kd.V_afterv (ok := (fun _ => True)) (by (with_reducible repeat (first | apply Kd.V_alloc | apply Kd.V_drewN | apply Kd.V_drew)); exact HO474.out) hg hat); have n1_ := Aside0.mk (hb); have n2_ := Aside0.mk (ho); clear HO474; clear HB; clear HO481; have HO474 := n0_; have HB := n1_; have HO484 := n2_; clear n0_ n1_ n2_; clear ho hb hg hat; obtain ⟨Ao23, co23, eo23⟩ := Kd.R_slice HO484.out; subst eo23) | ((with_reducible refine gate_callee (f := 27) rfl ?_); refine goesL_ (some 36) rfl rfl Try.func27 (by kernel_rfl) rfl #[.slice Ao23 y482.length co23] rfl (by (try simp only [List.map_toArray, List.map_cons, List.map_nil]); first | done | rfl | (simp only [List.length_drop, List.length_take]; rfl) | (simp only [IntKind.wrap_u8, IntKind.wrap_u32, Int.emod_add_emod, Int.add_emod_emod] <;> rfl)) ?_; (with_reducible refine (isa80_Read.calls k _ _ y482 t485 t486 t487 t488 _ ?side1 ?side2 A13.out).mono ?_); (case side1 => repeat (first | exact (Kd.R_reads' HO484.out).2.2 | (with_reducible refine Kd.C_alloc ?_ _) | (with_reducible refine Kd.C_drewN ?_ _) | (with_reducible refine Kd.C_drew ?_))); (case side2 => exact (Kd.R_reads' HO484.out).2.1); rintro e w24 ⟨rfl, hb⟩; refine ⟨_, rfl, ?_⟩; have n0_ := Aside0.mk (Kd.V_below (by (with_reducible repeat (first | apply Kd.V_alloc | apply Kd.V_drewN | apply Kd.V_drew)); exact HO474.out) hb); have n1_ := Aside0.mk (Kd.R_below (by (with_reducible repeat (first | apply Kd.R_alloc | apply Kd.R_drewN | apply Kd.R_drew)); exact HO484.out) hb); have n2_ := Aside0.mk (below_step (by repeat (first | (with_reducible first | exact HB.out | apply below_alloc | apply pw_below_drewN | apply below_drew1) | exact HB.out)) hb); clear HO474; clear HO484; clear HB; have HO474 := n0_; have HO484 := n1_; have HB := n2_; clear n0_ n1_ n2_; (try clear hb); (try clear hb2); (try clear hk); (try clear hi)) | ((with_reducible refine gate_dst (N := 9) rfl ?_); (try (refine gate_guard (by rfl) ?_; dsimp only)); refine box_event ?hg (N := 9) ?hd (cs := #[.int .u8 0, .int .u16 0]) (t := 45) ?hr ?_; (case hd => rfl); (case hg => rfl); (case hr => first | (go_simp; done) | (go_simp; rfl)); intro gb489 hg w25 hbox hb; have n0_ := Aside0.mk (Kd.V_below (Kd.V_elderB (by (with_reducible repeat (first | apply Kd.V_alloc | apply Kd.V_drewN | apply Kd.V_drew)); exact HO474.out) gb489 (Nat.le_of_eq hg.symm)) hb); have n1_ := Aside0.mk (Kd.R_below (by (with_reducible repeat (first | apply Kd.R_alloc | apply Kd.R_drewN | apply Kd.R_drew)); exact HO484.out) hb); have n2_ := Aside0.mk (below_step (by repeat (first | (with_reducible first | exact HB.out | apply below_alloc | apply pw_below_drewN | apply below_drew1) | exact HB.out)) hb); have n3_ := Aside0.mk (hbox); have n4_ := Aside0.mk ((by rw [hg]; exact (below_size (by repeat (first | (with_reducible first | exact HB.out | apply below_alloc | apply pw_below_drewN | apply below_drew1) | exact HB.out))) : w.heap.size ≤ gb489)); have n5_ := Aside0.mk ((by rw [hg]; exact (below_size (by repeat (first | (with_reducible first | exact HB.out | apply below_alloc | apply pw_below_drewN | apply below_drew1) | exact HB.out))) : w.heap.size ≤ gb489)); clear HO474; clear HO484; clear HB; have HO474 := n0_; have HO484 := n1_; have HB := n2_; have BK489 := n3_; have GW489 := n4_; have GE489 := n5_; clear n0_ n1_ n2_ n3_ n4_ n5_; clear hb hbox hg; have hcz26_0 : w25.cell? ⟨gb489, 0, none⟩ = some (.int .u8 0) := (blk_cell BK489.out 0).trans rfl; have hcz26_1 : w25.cell? ⟨gb489, 1, none⟩ = some (.int .u16 0) := (blk_cell BK489.out 1).trans rfl; have hfz26_0 := blk_frozen BK489.out 0; have hfz26_1 := blk_frozen BK489.out 1))
                    go_meet
                    case rel => exact ⟨_, H', ⟨by first | omega | exact Nat.le_refl _⟩, ⟨by repeat (first | (with_reducible first | exact HB.out | apply below_alloc | apply pw_below_drewN | apply below_drew1 | refine below_set ?_ GE489.out) | exact HB.out)⟩⟩
                  · rw [if_neg c17] at H
                    have c17b0 : (t487 == (t472.length : Int)) = false := beq_eq_false_iff_ne.mpr c17
                    have c17b1 : (t487 != (t472.length : Int)) = true := bne_iff_ne.mpr c17
                    exact absurd ((Option.some.inj H).trans HT.out) (by decide)
                · rw [if_neg c16] at H
                  have c16b0 : (t486 == a1) = false := beq_eq_false_iff_ne.mpr c16
                  have c16b1 : (t486 != a1) = true := bne_iff_ne.mpr c16
                  exact absurd ((Option.some.inj H).trans HT.out) (by decide)
              · rw [if_neg c15] at H
                have c15b0 : (t485 == a0) = false := beq_eq_false_iff_ne.mpr c15
                have c15b1 : (t485 != a0) = true := bne_iff_ne.mpr c15
                exact absurd ((Option.some.inj H).trans HT.out) (by decide)
            · rw [if_neg c14] at H
              have c14b0 : (t488 == 0) = false := beq_eq_false_iff_ne.mpr c14
              have c14b1 : (t488 != 0) = true := bne_iff_ne.mpr c14
              exact absurd ((Option.some.inj H).trans HT.out) (by decide)
          · rw [if_neg c12] at H
            exact absurd H (by simp)
        · rw [if_neg c11] at H
          exact absurd H (by simp)
      · rw [if_neg c10] at H
        have c10b0 : (t475 == 0) = false := beq_eq_false_iff_ne.mpr c10
        have c10b1 : (t475 != 0) = true := bne_iff_ne.mpr c10
        (first | rw [c10b0] | (simp only [i64_w, i32_w]; rw [c10b0]) | skip)
        have H' := Aside0.mk H
        clear H
        go_wp2
        go_meet
        case rel => exact ⟨_, H', ⟨by first | omega | exact Nat.le_refl _⟩, ⟨by repeat (first | (with_reducible first | exact HB.out | apply below_alloc | apply pw_below_drewN | apply below_drew1) | exact HB.out)⟩⟩
    case rest =>
      clear HC8
      try clear c1
      try clear c2
      try clear p2
      try clear c4
      try clear c4b0
      try clear c4b1
      try clear c7
      try clear c10
      try clear c10b0
      try clear c10b1
      try clear c11
      try clear c12
      try clear c14
      try clear c14b0
      try clear c14b1
      try clear c15
      try clear c15b0
      try clear c15b1
      try clear c16
      try clear c16b0
      try clear c16b1
      try clear c17
      try clear c17b0
      try clear c17b1
      try clear c24
      try clear c25
      try clear hcz26_0
      try clear hcz26_1
      try clear hfz26_0
      try clear hfz26_1
      obtain ⟨kq, HA, HJ7, HB⟩ := hcut
      cases kq with
      | zero => exact absurd HA.out (by simp [pidginlaw06_Isa80Back.j0])
      | succ kj7 =>
        have H := HA.out
        clear HA
        simp only [pidginlaw06_Isa80Back.j0] at H
        replace H := Option.bind_eq_some_iff.mp H
        obtain ⟨⟨t490, t491, t492, t493⟩, A270, H⟩ := H
        replace H : (if t493 = 0 then ((isa80_Bytes.f kj7 t490 t491).bind fun bt495 => (if bt495.2 = 0 then (if t492 = (bt495.1.length : Int) then (if 0 ≤ t492 then (if t492 ≤ (l2.length : Int) then ((pidginref02_Bytes.f kj7 bt495.1 (l2.take (t492 : Int).toNat)).bind fun t500 => (if t500 = true then ((pidginlaw06_alive.f kj7).bind fun t501 => (some t501)) else (some false))) else (none)) else (none)) else (some false)) else (some false))) else (if t492 = 0 then ((pidginlaw06_alive.f kj7).bind fun t502 => (some t502)) else (some false))) = some r := H
        have A27 := Aside0.mk A270
        clear A270
        by_cases c28 : t493 = 0
        · rw [if_pos c28] at H
          have c28b0 : (t493 == 0) = true := beq_iff_eq.mpr c28
          have c28b1 : (t493 != 0) = false := bne_eq_false_iff_eq.mpr c28
          clear c28
          replace H := Option.bind_eq_some_iff.mp H
          obtain ⟨⟨t495, t498⟩, A290, H⟩ := H
          replace H : (if t498 = 0 then (if t492 = (t495.length : Int) then (if 0 ≤ t492 then (if t492 ≤ (l2.length : Int) then ((pidginref02_Bytes.f kj7 t495 (l2.take (t492 : Int).toNat)).bind fun t500 => (if t500 = true then ((pidginlaw06_alive.f kj7).bind fun t501 => (some t501)) else (some false))) else (none)) else (none)) else (some false)) else (some false)) = some r := H
          have A29 := Aside0.mk A290
          clear A290
          by_cases c30 : t498 = 0
          · rw [if_pos c30] at H
            have c30b0 : (t498 == 0) = true := beq_iff_eq.mpr c30
            have c30b1 : (t498 != 0) = false := bne_eq_false_iff_eq.mpr c30
            clear c30
            by_cases c31 : t492 = (t495.length : Int)
            · rw [if_pos c31] at H
              have c31b0 : (t492 == (t495.length : Int)) = true := beq_iff_eq.mpr c31
              have c31b1 : (t492 != (t495.length : Int)) = false := bne_eq_false_iff_eq.mpr c31
              clear c31
              by_cases c32 : 0 ≤ t492
              · rw [if_pos c32] at H
                have c32b0 := eq_true c32
                have c32b1 : decide (0 ≤ t492) = true := decide_eq_true c32
                clear c32
                by_cases c33 : t492 ≤ (l2.length : Int)
                · rw [if_pos c33] at H
                  have c33b0 := eq_true c33
                  have c33b1 : decide (t492 ≤ (l2.length : Int)) = true := decide_eq_true c33
                  clear c33
                  replace H := Option.bind_eq_some_iff.mp H
                  obtain ⟨t500, A340, H⟩ := H
                  replace H : (if t500 = true then ((pidginlaw06_alive.f kj7).bind fun t501 => (some t501)) else (some false)) = some r := H
                  have A34 := Aside0.mk A340
                  clear A340
                  by_cases c35 : t500 = true
                  · subst c35
                    have H1 : ((pidginlaw06_alive.f kj7).bind fun t501 => (some t501)) = some r := by rw [if_pos rfl] at H; exact H
                    clear H
                    have H := H1
                    clear H1
                    replace H := Option.bind_eq_some_iff.mp H
                    obtain ⟨t501, A360, H⟩ := H
                    replace H : (some t501) = some r := H
                    have A36 := Aside0.mk A360
                    clear A360
                    obtain rfl := Option.some.inj H
                    go_wp2_with (first | ((with_reducible refine gate_callee (f := 27) rfl ?_); refine goesL_ (some 62) rfl rfl Try.func27 (by kernel_rfl) rfl #[.slice A2 l2.length c2] rfl (by (try simp only [List.map_toArray, List.map_cons, List.map_nil]); first | done | rfl | (simp only [List.length_drop, List.length_take]; rfl) | (simp only [IntKind.wrap_u8, IntKind.wrap_u32, Int.emod_add_emod, Int.add_emod_emod] <;> rfl)) ?_; (with_reducible refine (isa80_Read.calls kj7 _ _ l2 t490 t491 t492 t493 _ ?side1 ?side2 A27.out).mono ?_); (case side1 => repeat (first | exact (Kd.C_below HR2.out HB.out) | (with_reducible refine Kd.C_alloc ?_ _) | (with_reducible refine Kd.C_drewN ?_ _) | (with_reducible refine Kd.C_drew ?_))); (case side2 => exact HC2.out); rintro e w37 ⟨rfl, hb⟩; refine ⟨_, rfl, ?_⟩; have n0_ := Aside0.mk (below_step (by repeat (first | (with_reducible first | exact HB.out | apply below_alloc | apply pw_below_drewN | apply below_drew1) | exact HB.out)) hb); clear HB; have HB := n0_; clear n0_; (try clear hb); (try clear hb2); (try clear hk); (try clear hi)) | ((with_reducible refine gate_dst (N := 12) rfl ?_); (try (refine gate_guard (by rfl) ?_; dsimp only)); refine box_event ?hg (N := 12) ?hd (cs := #[.int .u8 0, .int .u16 0]) (t := 45) ?hr ?_; (case hd => rfl); (case hg => rfl); (case hr => first | (go_simp; done) | (go_simp; rfl)); intro gb494 hg w38 hbox hb; have n0_ := Aside0.mk (below_step (by repeat (first | (with_reducible first | exact HB.out | apply below_alloc | apply pw_below_drewN | apply below_drew1) | exact HB.out)) hb); have n1_ := Aside0.mk (hbox); have n2_ := Aside0.mk ((by rw [hg]; exact (below_size (by repeat (first | (with_reducible first | exact HB.out | apply below_alloc | apply pw_below_drewN | apply below_drew1) | exact HB.out))) : w.heap.size ≤ gb494)); have n3_ := Aside0.mk ((by rw [hg]; exact (below_size (by repeat (first | (with_reducible first | exact HB.out | apply below_alloc | apply pw_below_drewN | apply below_drew1) | exact HB.out))) : w.heap.size ≤ gb494)); clear HB; have HB := n0_; have BK494 := n1_; have GW494 := n2_; have GE494 := n3_; clear n0_ n1_ n2_ n3_; clear hb hbox hg; have hcz39_0 : w38.cell? ⟨gb494, 0, none⟩ = some (.int .u8 0) := (blk_cell BK494.out 0).trans rfl; have hcz39_1 : w38.cell? ⟨gb494, 1, none⟩ = some (.int .u16 0) := (blk_cell BK494.out 1).trans rfl; have hfz39_0 := blk_frozen BK494.out 0; have hfz39_1 := blk_frozen BK494.out 1) | ((with_reducible refine gate_callee (f := 25) rfl ?_); refine goesL_ (some 75) rfl rfl Try.func25 (by kernel_rfl) rfl #[.agg #[.int .u8 t490, .int .u16 t491]] rfl (by (try simp only [List.map_toArray, List.map_cons, List.map_nil]); first | done | rfl | (simp only [List.length_drop, List.length_take]; rfl) | (simp only [IntKind.wrap_u8, IntKind.wrap_u32, Int.emod_add_emod, Int.add_emod_emod] <;> rfl)) ?_; (with_reducible refine (isa80_Bytes.calls kj7 t490 t491 t495 t498 _ A29.out).mono ?_); rintro e w40 ⟨v496, rfl, ho0, hb⟩; refine ⟨_, rfl, ?_⟩; have n0_ := Aside0.mk (Kd.V_lower (Kd.V_mono (ok' := fun k_ => k_ ≠ gb494) ho0 (fun k_ hk_ => (Kd.freshB (g := gb494) (o := .cells #[.int .u8 t490, .int .u16 t491] 45 (0, 0)) (by (with_reducible repeat (first | refine blk_drewN ?_ _ | refine blk_drew ?_ | refine blk_alloc ?_ _)); refine blk_put (cs := #[.int .u8 t490, .int .u16 0]) ?_ 1 _ rfl; (with_reducible repeat (first | refine blk_drewN ?_ _ | refine blk_drew ?_ | refine blk_alloc ?_ _)); refine blk_put (cs := #[.int .u8 0, .int .u16 0]) ?_ 0 _ rfl; (with_reducible repeat (first | refine blk_drewN ?_ _ | refine blk_drew ?_ | refine blk_alloc ?_ _)); exact BK494.out) k_ hk_))) (below_size (by repeat (first | (with_reducible first | exact HB.out | apply below_alloc | apply pw_below_drewN | apply below_drew1 | refine below_set ?_ GE494.out) | exact HB.out)))); have n1_ := Aside0.mk (blk_below (g := gb494) (o := .cells #[.int .u8 t490, .int .u16 t491] 45 (0, 0)) (by (with_reducible repeat (first | refine blk_drewN ?_ _ | refine blk_drew ?_ | refine blk_alloc ?_ _)); refine blk_put (cs := #[.int .u8 t490, .int .u16 0]) ?_ 1 _ rfl; (with_reducible repeat (first | refine blk_drewN ?_ _ | refine blk_drew ?_ | refine blk_alloc ?_ _)); refine blk_put (cs := #[.int .u8 0, .int .u16 0]) ?_ 0 _ rfl; (with_reducible repeat (first | refine blk_drewN ?_ _ | refine blk_drew ?_ | refine blk_alloc ?_ _)); exact BK494.out) hb); have n2_ := Aside0.mk (below_step (by repeat (first | (with_reducible first | exact HB.out | apply below_alloc | apply pw_below_drewN | apply below_drew1 | refine below_set ?_ GE494.out) | exact HB.out)) hb); clear BK494; clear HB; have HO497 := n0_; have BK494 := n1_; have HB := n2_; clear n0_ n1_ n2_; (try clear hb); (try clear hb2); (try clear hk); (try clear hi); (try clear ho0); obtain ⟨Ao41, co41, eo41⟩ := Kd.V_slice HO497.out; subst eo41; obtain ⟨i042, hi042, _, hsz42, _⟩ := info_parts info5; obtain ⟨hcut42, hA42, hC42⟩ := print_take_of (P := Try.prog) (Value.int .u8) 0 29 5 .i64 Try.underlying29 hi042 hsz42 A2 c2 l2 t492 (of_decide_eq_true (by first | (with_reducible assumption) | assumption)) (of_decide_eq_true (by first | (with_reducible assumption) | assumption)) HC2.out; have HR499 := Aside0.mk (Kd.C_of_reads (h1 := fun _ => rfl) (hA42 _ (Kd.reads_of_C HR2.out))); have HC499 := Aside0.mk hC42; clear hA42 hC42 hi042 hsz42) | (go_at_call 29; refine calls_of_args (args' := #[.slice Ao41 t495.length co41, .slice A2 (l2.take (t492 : Int).toNat).length c2]) ?hargs_ ?_; (case hargs_ => first | (rw [show (l2.take (t492 : Int).toNat).length = t492.toNat from (by rw [List.length_take]; have h_ : (t492 : Int) ≤ (l2.length : Int) := of_decide_eq_true (by first | (with_reducible assumption) | assumption); omega)] <;> rfl) | rfl); (with_reducible refine (pidginref02_Bytes.calls kj7 _ _ t495 _ _ (l2.take (t492 : Int).toNat) true _ ?side1 ?side2 ?side3 ?side4 A34.out).mono ?_); (case side1 => repeat (first | exact (Kd.V_reads' HO497.out).2.2 | (with_reducible refine Kd.C_alloc ?_ _) | (with_reducible refine Kd.C_drewN ?_ _) | (with_reducible refine Kd.C_drew ?_))); (case side2 => exact (Kd.V_reads' HO497.out).2.1); (case side3 => repeat (first | exact (Kd.C_below HR499.out HB.out) | (with_reducible refine Kd.C_alloc ?_ _) | (with_reducible refine Kd.C_drewN ?_ _) | (with_reducible refine Kd.C_drew ?_))); (case side4 => exact HC499.out); rintro e w' ⟨rfl, ⟨nd, rfl⟩⟩) | (go_at_call 24; (with_reducible refine (pidginlaw06_alive.calls kj7  t501 _ A36.out).mono ?_); rintro e w43 ⟨rfl, hb⟩; have n0_ := Aside0.mk (Kd.V_below (by (with_reducible repeat (first | apply Kd.V_alloc | apply Kd.V_drewN | apply Kd.V_drew)); exact HO497.out) hb); have n1_ := Aside0.mk (blk_below (g := gb494) (o := .cells #[.int .u8 t490, .int .u16 t491] 45 (0, 0)) (by (with_reducible repeat (first | refine blk_drewN ?_ _ | refine blk_drew ?_ | refine blk_alloc ?_ _)); exact BK494.out) hb); have n2_ := Aside0.mk (below_step (by repeat (first | (with_reducible first | exact HB.out | apply below_alloc | apply pw_below_drewN | apply below_drew1 | refine below_set ?_ GE494.out) | exact HB.out)) hb); clear HO497; clear BK494; clear HB; have HO497 := n0_; have BK494 := n1_; have HB := n2_; clear n0_ n1_ n2_; (try clear hb); (try clear hb2); (try clear hk); (try clear hi)))
                    go_ret
                    exact ⟨by first | rfl | (simp [errW_none, errW_some] <;> rfl) | (simp [*, errW_none, errW_some] <;> rfl), by repeat (first | (with_reducible first | exact HB.out | apply below_alloc | apply pw_below_drewN | apply below_drew1 | refine below_set ?_ GE494.out) | exact HB.out)⟩
                  · replace c35 := Bool.eq_false_iff.mpr c35
                    subst c35
                    have H1 : (some false) = some r := by rw [if_neg (show ¬ (false = true) by decide)] at H; exact H
                    clear H
                    have H := H1
                    clear H1
                    exact absurd ((Option.some.inj H).trans HT.out) (by decide)
                · rw [if_neg c33] at H
                  exact absurd H (by simp)
              · rw [if_neg c32] at H
                exact absurd H (by simp)
            · rw [if_neg c31] at H
              have c31b0 : (t492 == (t495.length : Int)) = false := beq_eq_false_iff_ne.mpr c31
              have c31b1 : (t492 != (t495.length : Int)) = true := bne_iff_ne.mpr c31
              exact absurd ((Option.some.inj H).trans HT.out) (by decide)
          · rw [if_neg c30] at H
            have c30b0 : (t498 == 0) = false := beq_eq_false_iff_ne.mpr c30
            have c30b1 : (t498 != 0) = true := bne_iff_ne.mpr c30
            exact absurd ((Option.some.inj H).trans HT.out) (by decide)
        · rw [if_neg c28] at H
          have c28b0 : (t493 == 0) = false := beq_eq_false_iff_ne.mpr c28
          have c28b1 : (t493 != 0) = true := bne_iff_ne.mpr c28
          by_cases c44 : t492 = 0
          · rw [if_pos c44] at H
            have c44b0 : (t492 == 0) = true := beq_iff_eq.mpr c44
            have c44b1 : (t492 != 0) = false := bne_eq_false_iff_eq.mpr c44
            clear c44
            replace H := Option.bind_eq_some_iff.mp H
            obtain ⟨t502, A450, H⟩ := H
            replace H : (some t502) = some r := H
            have A45 := Aside0.mk A450
            clear A450
            obtain rfl := Option.some.inj H
            go_wp2_with (first | ((with_reducible refine gate_callee (f := 27) rfl ?_); refine goesL_ (some 62) rfl rfl Try.func27 (by kernel_rfl) rfl #[.slice A2 l2.length c2] rfl (by (try simp only [List.map_toArray, List.map_cons, List.map_nil]); first | done | rfl | (simp only [List.length_drop, List.length_take]; rfl) | (simp only [IntKind.wrap_u8, IntKind.wrap_u32, Int.emod_add_emod, Int.add_emod_emod] <;> rfl)) ?_; (with_reducible refine (isa80_Read.calls kj7 _ _ l2 t490 t491 t492 t493 _ ?side1 ?side2 A27.out).mono ?_); (case side1 => repeat (first | exact (Kd.C_below HR2.out HB.out) | (with_reducible refine Kd.C_alloc ?_ _) | (with_reducible refine Kd.C_drewN ?_ _) | (with_reducible refine Kd.C_drew ?_))); (case side2 => exact HC2.out); rintro e w46 ⟨rfl, hb⟩; refine ⟨_, rfl, ?_⟩; have n0_ := Aside0.mk (below_step (by repeat (first | (with_reducible first | exact HB.out | apply below_alloc | apply pw_below_drewN | apply below_drew1) | exact HB.out)) hb); clear HB; have HB := n0_; clear n0_; (try clear hb); (try clear hb2); (try clear hk); (try clear hi)) | ((with_reducible refine gate_dst (N := 12) rfl ?_); (try (refine gate_guard (by rfl) ?_; dsimp only)); refine box_event ?hg (N := 12) ?hd (cs := #[.int .u8 0, .int .u16 0]) (t := 45) ?hr ?_; (case hd => rfl); (case hg => rfl); (case hr => first | (go_simp; done) | (go_simp; rfl)); intro gb494 hg w47 hbox hb; have n0_ := Aside0.mk (below_step (by repeat (first | (with_reducible first | exact HB.out | apply below_alloc | apply pw_below_drewN | apply below_drew1) | exact HB.out)) hb); have n1_ := Aside0.mk (hbox); have n2_ := Aside0.mk ((by rw [hg]; exact (below_size (by repeat (first | (with_reducible first | exact HB.out | apply below_alloc | apply pw_below_drewN | apply below_drew1) | exact HB.out))) : w.heap.size ≤ gb494)); have n3_ := Aside0.mk ((by rw [hg]; exact (below_size (by repeat (first | (with_reducible first | exact HB.out | apply below_alloc | apply pw_below_drewN | apply below_drew1) | exact HB.out))) : w.heap.size ≤ gb494)); clear HB; have HB := n0_; have BK494 := n1_; have GW494 := n2_; have GE494 := n3_; clear n0_ n1_ n2_ n3_; clear hb hbox hg; have hcz48_0 : w47.cell? ⟨gb494, 0, none⟩ = some (.int .u8 0) := (blk_cell BK494.out 0).trans rfl; have hcz48_1 : w47.cell? ⟨gb494, 1, none⟩ = some (.int .u16 0) := (blk_cell BK494.out 1).trans rfl; have hfz48_0 := blk_frozen BK494.out 0; have hfz48_1 := blk_frozen BK494.out 1) | (go_at_call 24; (with_reducible refine (pidginlaw06_alive.calls kj7  t502 _ A45.out).mono ?_); rintro e w49 ⟨rfl, hb⟩; have n0_ := Aside0.mk (blk_below (g := gb494) (o := .cells #[.int .u8 t490, .int .u16 t491] 45 (0, 0)) (by (with_reducible repeat (first | refine blk_drewN ?_ _ | refine blk_drew ?_ | refine blk_alloc ?_ _)); refine blk_put (cs := #[.int .u8 t490, .int .u16 0]) ?_ 1 _ rfl; (with_reducible repeat (first | refine blk_drewN ?_ _ | refine blk_drew ?_ | refine blk_alloc ?_ _)); refine blk_put (cs := #[.int .u8 0, .int .u16 0]) ?_ 0 _ rfl; (with_reducible repeat (first | refine blk_drewN ?_ _ | refine blk_drew ?_ | refine blk_alloc ?_ _)); exact BK494.out) hb); have n1_ := Aside0.mk (below_step (by repeat (first | (with_reducible first | exact HB.out | apply below_alloc | apply pw_below_drewN | apply below_drew1 | refine below_set ?_ GE494.out) | exact HB.out)) hb); clear BK494; clear HB; have BK494 := n0_; have HB := n1_; clear n0_ n1_; (try clear hb); (try clear hb2); (try clear hk); (try clear hi)))
            go_ret
            exact ⟨by first | rfl | (simp [errW_none, errW_some] <;> rfl) | (simp [*, errW_none, errW_some] <;> rfl), by repeat (first | (with_reducible first | exact HB.out | apply below_alloc | apply pw_below_drewN | apply below_drew1 | refine below_set ?_ GE494.out) | exact HB.out)⟩
          · rw [if_neg c44] at H
            have c44b0 : (t492 == 0) = false := beq_eq_false_iff_ne.mpr c44
            have c44b1 : (t492 != 0) = true := bne_iff_ne.mpr c44
            exact absurd ((Option.some.inj H).trans HT.out) (by decide)

/-- THE ONE PURE STATEMENT of pidginlaw06_Isa80Back: yours. -/
def pidginlaw06_Isa80Back.Pure : Prop := ∀ (a0 : Int) (a1 : Int) (l2 : List Int), (Lit.int .u8 a0).wf = true → (Lit.int .u16 a1).wf = true → l2.length ≤ maxLen → l2.length * 1 ≤ 140737488351232 → (∀ x ∈ l2, (Lit.int .u8 x).wf = true) → ∃ k, pidginlaw06_Isa80Back.f k a0 a1 l2 = some true
theorem pidginlaw06_Isa80Back.walk (P : pidginlaw06_Isa80Back.Pure) (a0 : Int) (a1 : Int) (a2 : Option Addr) (len2 cap2 : Nat) (z2 : List Int) (w : World) (w0 : (Lit.int .u8 a0).wf = true) (w1 : (Lit.int .u16 a1).wf = true) (w2 : (a2 = none ∧ len2 = 0 ∧ cap2 = 0 ∧ z2 = []) ∨ ∃ x, a2 = some x ∧ len2 ≤ cap2 ∧ cap2 ≤ maxLen ∧ z2.length = cap2 ∧ (∀ i, i < z2.length → w.cell? (x.add i) = some (.int .u8 (z2.getD i 0))) ∧ ∀ n ∈ z2, (Lit.int .u8 n).wf = true) (y2 : len2 * 1 ≤ 140737488351232) :
    Calls Try.prog 7 #[.int .u8 a0, .int .u16 a1, .slice a2 len2 cap2] w fun e w' => e = .returned (.bool true) ∧ Below w.heap.size w w' := by
  obtain ⟨l2, rfl, hr2, hm2, hw2, hc2⟩ := ReadsInt.ofRowC w2
  obtain ⟨k, h⟩ := P a0 a1 l2 w0 w1 hm2 y2 hw2
  refine (pidginlaw06_Isa80Back.calls k a0 a1 _ _ l2 true w (Kd.C_of_reads (d := (0 : Int)) (h1 := fun _ => rfl) hr2) hc2 h rfl).mono ?_
  rintro e w' ⟨rfl, hd⟩
  exact ⟨rfl, hd⟩

/-! ### slices_Equal_string_string: function 56 -/
def slices_Equal_string_string.l0 : Nat → List ByteArray → List ByteArray → Int → Int → Option (Bool)
  | 0, _, _, _, _ => none
  | k + 1, x0, x1, x12, x13 => if x13 < x12 then (if 0 ≤ x13 then (if x13 < (x0.length : Int) then (if x13 < (x1.length : Int) then (if (rdOf ByteArray.empty x0 x13).toList = (rdOf ByteArray.empty x1 x13).toList then (slices_Equal_string_string.l0 k x0 x1 x12 (wrap64 (x13 + 1))) else (some false)) else (none)) else (none)) else (none)) else (some true)
def slices_Equal_string_string.f (k : Nat) (l0 : List ByteArray) (l1 : List ByteArray) : Option (Bool) := if (l0.length : Int) = (l1.length : Int) then (slices_Equal_string_string.l0 k l0 l1 (l0.length : Int) 0) else (some false)
theorem slices_Equal_string_string.mono_l : ∀ k, (∀ y0 y1 y2 y3, LeO (slices_Equal_string_string.l0 k y0 y1 y2 y3) (slices_Equal_string_string.l0 (k + 1) y0 y1 y2 y3))
  | 0 => fun _ _ _ _ r h => by simp [slices_Equal_string_string.l0] at h
  | k + 1 => by
    have ih0 := slices_Equal_string_string.mono_l k
    · intro y0 y1 y2 y3
      unfold slices_Equal_string_string.l0
      repeat' first
      | (with_reducible exact ih0 _ _ _ _)
      | (with_reducible exact LeO.refl _)
      | (with_reducible exact LeO.none _)
      | (with_reducible refine LeO.ite ?_ ?_)
      | (with_reducible refine LeO.bind ?_ (fun _ => ?_))
      | exact ih0 _ _ _ _
      | exact LeO.none _
      | refine LeO.ite ?_ ?_
      | refine LeO.bind ?_ (fun _ => ?_)
theorem slices_Equal_string_string.mono : ∀ a0 a1 k, LeO (slices_Equal_string_string.f k a0 a1) (slices_Equal_string_string.f (k + 1) a0 a1) := by
  intro a0 a1 k
  have ih0 := slices_Equal_string_string.mono_l k
  unfold slices_Equal_string_string.f
  repeat' first
      | (with_reducible exact ih0 _ _ _ _)
      | (with_reducible exact LeO.refl _)
      | (with_reducible exact LeO.none _)
      | (with_reducible refine LeO.ite ?_ ?_)
      | (with_reducible refine LeO.bind ?_ (fun _ => ?_))
      | exact ih0 _ _ _ _
      | exact LeO.none _
      | refine LeO.ite ?_ ?_
      | refine LeO.bind ?_ (fun _ => ?_)
set_option maxHeartbeats 8000000 in
set_option maxRecDepth 100000 in
theorem slices_Equal_string_string.calls (k : Nat) (A0 : Option Addr) (c0 : Nat) (l0 : List ByteArray) (A1 : Option Addr) (c1 : Nat) (l1 : List ByteArray) (r : Bool) (w : World) (hr0 : Kd.C Kd.string w A0 l0.length l0) (hc0 : l0.length ≤ c0) (hr1 : Kd.C Kd.string w A1 l1.length l1) (hc1 : l1.length ≤ c1) (h : slices_Equal_string_string.f k l0 l1 = some r) :
    Calls Try.prog 56 #[.slice A0 l0.length c0, .slice A1 l1.length c1] w fun e w' => e = .returned (.bool r) ∧ Drawn0 w w' := by
  have HR0 := Aside0.mk hr0
  have HC0 := Aside0.mk hc0
  clear hr0 hc0
  have HR1 := Aside0.mk hr1
  have HC1 := Aside0.mk hc1
  clear hr1 hc1
  have H : (if (l0.length : Int) = (l1.length : Int) then (slices_Equal_string_string.l0 k l0 l1 (l0.length : Int) 0) else (some false)) = some r := h
  clear h
  by_cases c3 : (l0.length : Int) = (l1.length : Int)
  · rw [if_pos c3] at H
    have c3b0 : ((l0.length : Int) == (l1.length : Int)) = true := beq_iff_eq.mpr c3
    have c3b1 : ((l0.length : Int) != (l1.length : Int)) = false := bne_eq_false_iff_eq.mpr c3
    have c3b2 : (l0.length == l1.length) = true := by first | simpa using c3 | (simp at c3 ⊢; omega)
    clear c3
    have H' := Aside0.mk H
    clear H
    go_enter Try.func56, Try.ntmps56
    go_wp2
    repeat (go_quiet (fail); try go_wp2)
    go_loopg [13] k (fun kq v13 w' => ∃ (x13_1 : Int), v13 = .int .i64 x13_1 ∧ Aside0 (slices_Equal_string_string.l0 kq l0 l1 (l0.length : Int) x13_1 = some r) ∧ Aside0 (kq ≤ k) ∧ Drawn0 w w')
    case atStart => exact ⟨(0), (by first | rfl | (simp; done) | (simp [*]; done)), H', ⟨Nat.le_refl _⟩, by repeat (first | exact Drawn0.refl _ | apply Drawn0.step)⟩
    case round =>
      clear H'
      try clear c1
      try clear p2
      try clear c3
      try clear c3b0
      try clear c3b1
      try clear c3b2
      obtain ⟨x13_1, rfl, HA, HK1, ⟨m1, rfl⟩⟩ := hrel
      cases gk with
      | zero => exact absurd HA.out (by simp [slices_Equal_string_string.l0])
      | succ k1 =>
        have H := HA.out
        clear HA
        simp only [slices_Equal_string_string.l0] at H
        by_cases c4 : x13_1 < (l0.length : Int)
        · rw [if_pos c4] at H
          have c4b0 : decide (x13_1 < (l0.length : Int)) = true := decide_eq_true c4
          clear c4
          by_cases c5 : 0 ≤ x13_1
          · rw [if_pos c5] at H
            have c5b0 : decide (0 ≤ x13_1) = true := decide_eq_true c5
            clear c5
            by_cases c6 : x13_1 < (l0.length : Int)
            · rw [if_pos c6] at H
              have c6b0 : decide (x13_1 < (l0.length : Int)) = true := decide_eq_true c6
              clear c6
              by_cases c7 : x13_1 < (l1.length : Int)
              · rw [if_pos c7] at H
                have c7b0 : decide (x13_1 < (l1.length : Int)) = true := decide_eq_true c7
                clear c7
                by_cases c8 : (rdOf ByteArray.empty l0 x13_1).toList = (rdOf ByteArray.empty l1 x13_1).toList
                · rw [if_pos c8] at H
                  have c8b0 : ((rdOf ByteArray.empty l0 x13_1).toList == (rdOf ByteArray.empty l1 x13_1).toList) = true := beq_iff_eq.mpr c8
                  have c8b1 : ((rdOf ByteArray.empty l0 x13_1).toList != (rdOf ByteArray.empty l1 x13_1).toList) = false := bne_eq_false_iff_eq.mpr c8
                  clear c8
                  have H' := Aside0.mk H
                  clear H
                  have p503 : 0 ≤ (x13_1 : Int) := of_decide_eq_true (by first | (with_reducible assumption) | assumption)
                  have q503 : x13_1 < (l0.length : Int) := of_decide_eq_true (by first | (with_reducible assumption) | assumption)
                  obtain ⟨ad503, e503, hx503_0⟩ := Kd.at_string HR0.out x13_1 p503 q503
                  cases e503
                  replace p503 := eq_true p503
                  replace q503 := eq_true q503
                  have p504 : 0 ≤ (x13_1 : Int) := of_decide_eq_true (by first | (with_reducible assumption) | assumption)
                  have q504 : x13_1 < (l1.length : Int) := of_decide_eq_true (by first | (with_reducible assumption) | assumption)
                  obtain ⟨ad504, e504, hx504_0⟩ := Kd.at_string HR1.out x13_1 p504 q504
                  cases e504
                  replace p504 := eq_true p504
                  replace q504 := eq_true q504
                  go_wp2
                  repeat (go_quiet (fail); try go_wp2)
                  go_roundg k1
                  case measure => have := HK1.out; omega
                  case rel => exact ⟨(wrap64 (x13_1 + 1)), (by first | rfl | (simp; done) | (simp [*]; done)), H', ⟨by have := HK1.out; omega⟩, by repeat (first | exact Drawn0.refl _ | apply Drawn0.step)⟩
                · rw [if_neg c8] at H
                  have c8b0 : ((rdOf ByteArray.empty l0 x13_1).toList == (rdOf ByteArray.empty l1 x13_1).toList) = false := beq_eq_false_iff_ne.mpr c8
                  have c8b1 : ((rdOf ByteArray.empty l0 x13_1).toList != (rdOf ByteArray.empty l1 x13_1).toList) = true := bne_iff_ne.mpr c8
                  obtain rfl := Option.some.inj H
                  have p503 : 0 ≤ (x13_1 : Int) := of_decide_eq_true (by first | (with_reducible assumption) | assumption)
                  have q503 : x13_1 < (l0.length : Int) := of_decide_eq_true (by first | (with_reducible assumption) | assumption)
                  obtain ⟨ad503, e503, hx503_0⟩ := Kd.at_string HR0.out x13_1 p503 q503
                  cases e503
                  replace p503 := eq_true p503
                  replace q503 := eq_true q503
                  have p504 : 0 ≤ (x13_1 : Int) := of_decide_eq_true (by first | (with_reducible assumption) | assumption)
                  have q504 : x13_1 < (l1.length : Int) := of_decide_eq_true (by first | (with_reducible assumption) | assumption)
                  obtain ⟨ad504, e504, hx504_0⟩ := Kd.at_string HR1.out x13_1 p504 q504
                  cases e504
                  replace p504 := eq_true p504
                  replace q504 := eq_true q504
                  go_wp2
                  repeat (go_quiet (fail); try go_wp2)
                  go_ret
                  exact ⟨by first | rfl | (simp; done) | (simp [*]; done), by repeat (first | exact Drawn0.refl _ | apply Drawn0.step)⟩
              · rw [if_neg c7] at H
                exact absurd H (by simp)
            · rw [if_neg c6] at H
              exact absurd H (by simp)
          · rw [if_neg c5] at H
            exact absurd H (by simp)
        · rw [if_neg c4] at H
          have c4b0 : decide (x13_1 < (l0.length : Int)) = false := decide_eq_false c4
          clear c4
          obtain rfl := Option.some.inj H
          go_wp2
          repeat (go_quiet (fail); try go_wp2)
          go_ret
          exact ⟨by first | rfl | (simp; done) | (simp [*]; done), by repeat (first | exact Drawn0.refl _ | apply Drawn0.step)⟩
  · rw [if_neg c3] at H
    have c3b0 : ((l0.length : Int) == (l1.length : Int)) = false := beq_eq_false_iff_ne.mpr c3
    have c3b1 : ((l0.length : Int) != (l1.length : Int)) = true := bne_iff_ne.mpr c3
    have c3b2 : (l0.length == l1.length) = false := by first | simpa using c3 | (simp at c3 ⊢; omega)
    obtain rfl := Option.some.inj H
    go_enter Try.func56, Try.ntmps56
    go_wp2
    repeat (go_quiet (fail); try go_wp2)
    go_ret
    exact ⟨by first | rfl | (simp; done) | (simp [*]; done), by repeat (first | exact Drawn0.refl _ | apply Drawn0.step)⟩

/-! ### isa80_Find: function 30 -/
def isa80_Find.l0 : Nat → List ByteArray → Int → Option (Int × Bool)
  | 0, _, _ => none
  | k + 1, x6, x12 => if x12 < 256 then ((isa80_words.f k ((x12) % 256)).bind fun t511 => ((slices_Equal_string_string.f k t511 x6).bind fun t514 => (if t514 = true then (some ((x12) % 256, true)) else (isa80_Find.l0 k x6 (wrap64 (x12 + 1)))))) else (some (0, false))
def isa80_Find.f (k : Nat) (a0 : ByteArray) (l1 : List ByteArray) : Option (Int × Bool) := (some (([a0] : List ByteArray) : List ByteArray)).bind fun y505 => (if y505.length + l1.length < 8796093022208 then (isa80_Find.l0 k (y505 ++ l1) 0) else (none))
theorem isa80_Find.mono_l : ∀ k, (∀ y0 y1, LeO (isa80_Find.l0 k y0 y1) (isa80_Find.l0 (k + 1) y0 y1))
  | 0 => fun _ _ r h => by simp [isa80_Find.l0] at h
  | k + 1 => by
    have ih0 := isa80_Find.mono_l k
    · intro y0 y1
      unfold isa80_Find.l0
      repeat' first
      | (with_reducible exact ih0 _ _)
      | (with_reducible exact isa80_words.mono _ _)
      | (with_reducible exact slices_Equal_string_string.mono _ _ _)
      | (with_reducible exact LeO.refl _)
      | (with_reducible exact LeO.none _)
      | (with_reducible refine LeO.ite ?_ ?_)
      | (with_reducible refine LeO.bind ?_ (fun _ => ?_))
      | exact ih0 _ _
      | exact isa80_words.mono _ _
      | exact slices_Equal_string_string.mono _ _ _
      | exact LeO.none _
      | refine LeO.ite ?_ ?_
      | refine LeO.bind ?_ (fun _ => ?_)
theorem isa80_Find.mono : ∀ a0 a1 k, LeO (isa80_Find.f k a0 a1) (isa80_Find.f (k + 1) a0 a1) := by
  intro a0 a1 k
  have ih0 := isa80_Find.mono_l k
  unfold isa80_Find.f
  repeat' first
      | (with_reducible exact ih0 _ _)
      | (with_reducible exact isa80_words.mono _ _)
      | (with_reducible exact slices_Equal_string_string.mono _ _ _)
      | (with_reducible exact LeO.refl _)
      | (with_reducible exact LeO.none _)
      | (with_reducible refine LeO.ite ?_ ?_)
      | (with_reducible refine LeO.bind ?_ (fun _ => ?_))
      | exact ih0 _ _
      | exact isa80_words.mono _ _
      | exact slices_Equal_string_string.mono _ _ _
      | exact LeO.none _
      | refine LeO.ite ?_ ?_
      | refine LeO.bind ?_ (fun _ => ?_)
set_option maxHeartbeats 8000000 in
set_option maxRecDepth 100000 in
theorem isa80_Find.calls (k : Nat) (a0 : ByteArray) (A1 : Option Addr) (c1 : Nat) (l1 : List ByteArray) (r1 : Int) (r2 : Bool) (w : World) (hr1 : Kd.C Kd.string w A1 l1.length l1) (hc1 : l1.length ≤ c1) (h : isa80_Find.f k a0 l1 = some (r1, r2)) :
    Calls Try.prog 30 #[.string a0, .slice A1 l1.length c1] w fun e w' => e = .returned (.tuple #[.int .u8 r1, .bool r2]) ∧ Below w.heap.size w w' := by
  have HR1 := Aside0.mk hr1
  have HC1 := Aside0.mk hc1
  clear hr1 hc1
  have HB := Aside0.mk (Below.refl w.heap.size w)
  have H : ((some (([a0] : List ByteArray) : List ByteArray)).bind fun y505 => (if y505.length + l1.length < 8796093022208 then (isa80_Find.l0 k (y505 ++ l1) 0) else (none))) = some (r1, r2) := h
  clear h
  obtain ⟨y505, hy505⟩ : ∃ y_ : List ByteArray, y_ = (([a0] : List ByteArray)) := ⟨_, rfl⟩
  replace H : (if y505.length + l1.length < 8796093022208 then (isa80_Find.l0 k (y505 ++ l1) 0) else (none)) = some (r1, r2) := by first | (rw [hy505]; with_reducible exact H) | (have H2_ := (Option.bind_some _ _).symm.trans H; rw [hy505]; with_reducible exact H2_) | (have H2_ := (Option.bind_some _ _).symm.trans H; with_reducible exact H2_) | with_reducible exact H | (rw [hy505]; exact H) | exact H
  have Ny505 := Aside0.mk hy505
  clear hy505
  by_cases c3 : y505.length + l1.length < 8796093022208
  · rw [if_pos c3] at H
    have LMc3 := Aside0.mk c3
    clear c3
    obtain ⟨y508, hy508⟩ : ∃ y_ : List ByteArray, y_ = (y505 ++ l1) := ⟨_, rfl⟩
    replace H : (isa80_Find.l0 k y508 0) = some (r1, r2) := by first | (rw [hy508]; with_reducible exact H) | (have H2_ := (Option.bind_some _ _).symm.trans H; rw [hy508]; with_reducible exact H2_) | (have H2_ := (Option.bind_some _ _).symm.trans H; with_reducible exact H2_) | with_reducible exact H | (rw [hy508]; exact H) | exact H
    have Ny508 := Aside0.mk hy508
    clear hy508
    have H' := Aside0.mk H
    clear H
    go_enter Try.func30, Try.ntmps30
    go_wp2_with (first | ((with_reducible refine gate_dst (N := 9) rfl ?_); refine Kd.R_lit Kd.string _ 9 ?hg (N := 9) ?hd (xs := ([a0] : List ByteArray)) (inner := [.string a0]) (ok := fun _ => True) (okp := fun _ => True) ?hr ?hp (fun _ hk => hk) trivial (Below.refl _ _) (Nat.le_refl _) (by simp) ?_; (case hd => rfl); (case hg => rfl); (case hr => first | (go_simp; done) | (go_simp; rfl)); (case hp => exact (Reps.one (show Kd.M Kd.string _ _ _ a0 [.string a0] from rfl) (Reps.none _ _))); intro v506 w4 ho5 hb hg_ hnew_; clear hg_ hnew_; (first | rw [← Ny505.out] at ho5 | (simp only [Int.reduceToNat] at ho5; rw [← Ny505.out] at ho5)); have n0_ := Aside0.mk (Kd.R_lower ho5 (below_size (by repeat (first | (with_reducible first | exact HB.out | apply below_alloc | apply pw_below_drewN | apply below_drew1) | exact HB.out)))); have n1_ := Aside0.mk (below_step (by repeat (first | (with_reducible first | exact HB.out | apply below_alloc | apply pw_below_drewN | apply below_drew1) | exact HB.out)) hb); clear HB; have HO507 := n0_; have HB := n1_; clear n0_ n1_; clear hb ho5) | ((with_reducible refine gate_builtin (b := .append) (xs := #[.tmp 9, .tmp 10]) rfl ?_); at_builtin; refine Kd.R_append_rows Kd.string (w0 := w) w.heap.size rfl (.tmp 9) (.tmp 10) 37 9 (.string ⟨#[]⟩) 16 rfl Try.underlying37 info9 rfl (by decide) (by omega) v506 y505 l1 _ _ _ (fun _ => True) (fun _ => False) rfl rfl ?aO ?aR (fun _ _ h => h) (fun _ h => h.elim) ?aF ?aB ?aS ?aL ?_; (case aR => repeat (first | exact (Kd.C_below HR1.out HB.out) | (with_reducible refine Kd.C_alloc ?_ _) | (with_reducible refine Kd.C_drewN ?_ _) | (with_reducible refine Kd.C_drew ?_))); (case aB => exact (by repeat (first | (with_reducible first | exact HB.out | apply below_alloc | apply pw_below_drewN | apply below_drew1) | exact HB.out))); (case aF => exact (fun _ _ => trivial)); (case aO => exact (by (with_reducible repeat (first | apply Kd.R_alloc | apply Kd.R_drewN | apply Kd.R_drew)); exact HO507.out)); (case aS => exact (below_size (by repeat (first | (with_reducible first | exact HB.out | apply below_alloc | apply pw_below_drewN | apply below_drew1) | exact HB.out)))); (case aL => have := LMc3.out; omega); intro v509 w6 ho hb hg hat; rw [← Ny508.out] at ho; have n0_ := Aside0.mk (hb); have n1_ := Aside0.mk (ho); clear HB; clear HO507; have HB := n0_; have HO510 := n1_; clear n0_ n1_; clear ho hb hg hat))
    go_loopg [12] k (fun kq v12 w' => ∃ (x12_1 : Int), v12 = .int .i64 x12_1 ∧ Aside0 (isa80_Find.l0 kq y508 x12_1 = some (r1, r2)) ∧ Aside0 (kq ≤ k) ∧ Aside0 (Kd.R Kd.string 9 w' w.heap.size (fun _ => True) v509 y508) ∧ Aside0 (Below w.heap.size w w'))
    case atStart => exact ⟨(0), (by first | rfl | (simp; done) | (simp [*]; done)), H', ⟨Nat.le_refl _⟩, ⟨by (with_reducible repeat (first | apply Kd.R_alloc | apply Kd.R_drewN | apply Kd.R_drew)); exact HO510.out⟩, ⟨by repeat (first | (with_reducible first | exact HB.out | apply below_alloc | apply pw_below_drewN | apply below_drew1) | exact HB.out)⟩⟩
    case round =>
      clear H'
      try clear c1
      try clear p2
      try clear c3
      obtain ⟨x12_1, rfl, HA, HK1, HO_6, HB⟩ := hrel
      cases gk with
      | zero => exact absurd HA.out (by simp [isa80_Find.l0])
      | succ k1 =>
        have H := HA.out
        clear HA
        simp only [isa80_Find.l0] at H
        by_cases c7 : x12_1 < 256
        · rw [if_pos c7] at H
          have c7b0 : decide (x12_1 < 256) = true := decide_eq_true c7
          clear c7
          replace H := Option.bind_eq_some_iff.mp H
          obtain ⟨t511, A80, H⟩ := H
          replace H : ((slices_Equal_string_string.f k1 t511 y508).bind fun t514 => (if t514 = true then (some ((x12_1) % 256, true)) else (isa80_Find.l0 k1 y508 (wrap64 (x12_1 + 1))))) = some (r1, r2) := H
          have A8 := Aside0.mk A80
          clear A80
          replace H := Option.bind_eq_some_iff.mp H
          obtain ⟨t514, A90, H⟩ := H
          replace H : (if t514 = true then (some ((x12_1) % 256, true)) else (isa80_Find.l0 k1 y508 (wrap64 (x12_1 + 1)))) = some (r1, r2) := H
          have A9 := Aside0.mk A90
          clear A90
          by_cases c10 : t514 = true
          · subst c10
            have H1 : (some ((x12_1) % 256, true)) = some (r1, r2) := by rw [if_pos rfl] at H; exact H
            clear H
            have H := H1
            clear H1
            simp only [Option.some.injEq, Prod.mk.injEq] at H
            obtain ⟨rfl, rfl⟩ := H
            go_wp2_with (first | ((with_reducible refine gate_callee (f := 53) rfl ?_); refine goesL_ (some 17) rfl rfl Try.func53 (by kernel_rfl) rfl #[.int .u8 ((x12_1) % 256)] rfl (by (try simp only [List.map_toArray, List.map_cons, List.map_nil]); first | done | rfl | (simp only [List.length_drop, List.length_take]; rfl) | (simp only [IntKind.wrap_u8, IntKind.wrap_u32, Int.emod_add_emod, Int.add_emod_emod] <;> rfl)) ?_; (with_reducible refine (isa80_words.calls k1 ((x12_1) % 256) t511 _ A8.out).mono ?_); rintro e w11 ⟨v512, rfl, ho0, hb⟩; refine ⟨_, rfl, ?_⟩; have n0_ := Aside0.mk (Kd.R_elder' (by (with_reducible repeat (first | apply Kd.R_alloc | apply Kd.R_drewN | apply Kd.R_drew)); exact HO_6.out) (Kd.R_base ho0) hb); have n1_ := Aside0.mk (Kd.R_lower (Kd.R_new' ho0 (Kd.R_lt (by (with_reducible repeat (first | apply Kd.R_alloc | apply Kd.R_drewN | apply Kd.R_drew)); exact HO_6.out))) (below_size (by repeat (first | (with_reducible first | exact HB.out | apply below_alloc | apply pw_below_drewN | apply below_drew1) | exact HB.out)))); have n2_ := Aside0.mk (below_step (by repeat (first | (with_reducible first | exact HB.out | apply below_alloc | apply pw_below_drewN | apply below_drew1) | exact HB.out)) hb); clear HO_6; clear HB; have HO_6 := n0_; have HO513 := n1_; have HB := n2_; clear n0_ n1_ n2_; (try clear hb); (try clear hb2); (try clear hk); (try clear hi); (try clear ho0); obtain ⟨Ao12, co12, eo12⟩ := Kd.R_slice HO513.out; subst eo12; obtain ⟨Ao13, co13, eo13⟩ := Kd.R_slice HO_6.out; subst eo13) | ((with_reducible refine gate_callee (f := 56) rfl ?_); refine goesL_ (some 19) rfl rfl Try.func56 (by kernel_rfl) rfl #[.slice Ao12 t511.length co12, .slice Ao13 y508.length co13] rfl (by (try simp only [List.map_toArray, List.map_cons, List.map_nil]); first | done | rfl | (simp only [List.length_drop, List.length_take]; rfl) | (simp only [IntKind.wrap_u8, IntKind.wrap_u32, Int.emod_add_emod, Int.add_emod_emod] <;> rfl)) ?_; (with_reducible refine (slices_Equal_string_string.calls k1 _ _ t511 _ _ y508 true _ ?side1 ?side2 ?side3 ?side4 A9.out).mono ?_); (case side1 => repeat (first | exact (Kd.R_reads' HO513.out).2.2 | (with_reducible refine Kd.C_alloc ?_ _) | (with_reducible refine Kd.C_drewN ?_ _) | (with_reducible refine Kd.C_drew ?_))); (case side2 => exact (Kd.R_reads' HO513.out).2.1); (case side3 => repeat (first | exact (Kd.R_reads' HO_6.out).2.2 | (with_reducible refine Kd.C_alloc ?_ _) | (with_reducible refine Kd.C_drewN ?_ _) | (with_reducible refine Kd.C_drew ?_))); (case side4 => exact (Kd.R_reads' HO_6.out).2.1); rintro e w' ⟨rfl, ⟨nd, rfl⟩⟩; refine ⟨_, rfl, ?_⟩))
            go_ret2
            exact ⟨by first | rfl | (simp [errW_none, errW_some] <;> rfl) | (simp [*, errW_none, errW_some] <;> rfl), by repeat (first | (with_reducible first | exact HB.out | apply below_alloc | apply pw_below_drewN | apply below_drew1) | exact HB.out)⟩
          · replace c10 := Bool.eq_false_iff.mpr c10
            subst c10
            have H1 : (isa80_Find.l0 k1 y508 (wrap64 (x12_1 + 1))) = some (r1, r2) := by rw [if_neg (show ¬ (false = true) by decide)] at H; exact H
            clear H
            have H := H1
            clear H1
            have H' := Aside0.mk H
            clear H
            go_wp2_with (first | ((with_reducible refine gate_callee (f := 53) rfl ?_); refine goesL_ (some 17) rfl rfl Try.func53 (by kernel_rfl) rfl #[.int .u8 ((x12_1) % 256)] rfl (by (try simp only [List.map_toArray, List.map_cons, List.map_nil]); first | done | rfl | (simp only [List.length_drop, List.length_take]; rfl) | (simp only [IntKind.wrap_u8, IntKind.wrap_u32, Int.emod_add_emod, Int.add_emod_emod] <;> rfl)) ?_; (with_reducible refine (isa80_words.calls k1 ((x12_1) % 256) t511 _ A8.out).mono ?_); rintro e w14 ⟨v512, rfl, ho0, hb⟩; refine ⟨_, rfl, ?_⟩; have n0_ := Aside0.mk (Kd.R_elder' (by (with_reducible repeat (first | apply Kd.R_alloc | apply Kd.R_drewN | apply Kd.R_drew)); exact HO_6.out) (Kd.R_base ho0) hb); have n1_ := Aside0.mk (Kd.R_lower (Kd.R_new' ho0 (Kd.R_lt (by (with_reducible repeat (first | apply Kd.R_alloc | apply Kd.R_drewN | apply Kd.R_drew)); exact HO_6.out))) (below_size (by repeat (first | (with_reducible first | exact HB.out | apply below_alloc | apply pw_below_drewN | apply below_drew1) | exact HB.out)))); have n2_ := Aside0.mk (below_step (by repeat (first | (with_reducible first | exact HB.out | apply below_alloc | apply pw_below_drewN | apply below_drew1) | exact HB.out)) hb); clear HO_6; clear HB; have HO_6 := n0_; have HO513 := n1_; have HB := n2_; clear n0_ n1_ n2_; (try clear hb); (try clear hb2); (try clear hk); (try clear hi); (try clear ho0); obtain ⟨Ao15, co15, eo15⟩ := Kd.R_slice HO513.out; subst eo15; obtain ⟨Ao16, co16, eo16⟩ := Kd.R_slice HO_6.out; subst eo16) | ((with_reducible refine gate_callee (f := 56) rfl ?_); refine goesL_ (some 19) rfl rfl Try.func56 (by kernel_rfl) rfl #[.slice Ao15 t511.length co15, .slice Ao16 y508.length co16] rfl (by (try simp only [List.map_toArray, List.map_cons, List.map_nil]); first | done | rfl | (simp only [List.length_drop, List.length_take]; rfl) | (simp only [IntKind.wrap_u8, IntKind.wrap_u32, Int.emod_add_emod, Int.add_emod_emod] <;> rfl)) ?_; (with_reducible refine (slices_Equal_string_string.calls k1 _ _ t511 _ _ y508 false _ ?side1 ?side2 ?side3 ?side4 A9.out).mono ?_); (case side1 => repeat (first | exact (Kd.R_reads' HO513.out).2.2 | (with_reducible refine Kd.C_alloc ?_ _) | (with_reducible refine Kd.C_drewN ?_ _) | (with_reducible refine Kd.C_drew ?_))); (case side2 => exact (Kd.R_reads' HO513.out).2.1); (case side3 => repeat (first | exact (Kd.R_reads' HO_6.out).2.2 | (with_reducible refine Kd.C_alloc ?_ _) | (with_reducible refine Kd.C_drewN ?_ _) | (with_reducible refine Kd.C_drew ?_))); (case side4 => exact (Kd.R_reads' HO_6.out).2.1); rintro e w' ⟨rfl, ⟨nd, rfl⟩⟩; refine ⟨_, rfl, ?_⟩))
            go_roundg k1
            case measure => have := HK1.out; omega
            case rel => exact ⟨(wrap64 (x12_1 + 1)), (by first | rfl | (simp; done) | (simp [*]; done)), H', ⟨by have := HK1.out; omega⟩, ⟨by (with_reducible repeat (first | apply Kd.R_alloc | apply Kd.R_drewN | apply Kd.R_drew)); exact Kd.R_mono HO_6.out (fun _ hk => trivial)⟩, ⟨by repeat (first | (with_reducible first | exact HB.out | apply below_alloc | apply pw_below_drewN | apply below_drew1) | exact HB.out)⟩⟩
        · rw [if_neg c7] at H
          have c7b0 : decide (x12_1 < 256) = false := decide_eq_false c7
          clear c7
          simp only [Option.some.injEq, Prod.mk.injEq] at H
          obtain ⟨rfl, rfl⟩ := H
          go_wp2
          go_ret2
          exact ⟨by first | rfl | (simp [errW_none, errW_some] <;> rfl) | (simp [*, errW_none, errW_some] <;> rfl), by repeat (first | (with_reducible first | exact HB.out | apply below_alloc | apply pw_below_drewN | apply below_drew1) | exact HB.out)⟩
  · rw [if_neg c3] at H
    exact absurd H (by simp)

/-! ### pidginlaw06_Isa80Many: function 8 -/
def pidginlaw06_Isa80Many.l0 : Nat → Int → Int → Int → Option (Bool)
  | 0, _, _, _ => none
  | k + 1, x0, x3, x4 => if x4 < 256 then ((isa80_Size.f k ((((x4) % 256) + x0) % 256)).bind fun t516 => (if t516 = 0 then ((isa80_Name.f k ((((x4) % 256) + x0) % 256)).bind fun t517 => (if t517.toList = ([] : List UInt8) then ((isa80_Args.f k ((((x4) % 256) + x0) % 256)).bind fun t518 => (if (t518.length : Int) = 0 then (pidginlaw06_Isa80Many.l0 k x0 x3 (wrap64 (x4 + 1))) else (some false))) else (some false))) else ((isa80_Name.f k ((((x4) % 256) + x0) % 256)).bind fun t521 => ((isa80_Args.f k ((((x4) % 256) + x0) % 256)).bind fun t522 => ((isa80_Find.f k t521 t522).bind fun bt525 => (if bt525.2 = true then (if bt525.1 = ((((x4) % 256) + x0) % 256) then (pidginlaw06_Isa80Many.l0 k x0 (wrap64 (x3 + 1)) (wrap64 (x4 + 1))) else (some false)) else (some false))))))) else (if x3 = 244 then ((pidginlaw06_alive.f k).bind fun t515 => (some t515)) else (some false))
def pidginlaw06_Isa80Many.f (k : Nat) (a0 : Int) : Option (Bool) := pidginlaw06_Isa80Many.l0 k a0 0 0
theorem pidginlaw06_Isa80Many.mono_l : ∀ k, (∀ y0 y1 y2, LeO (pidginlaw06_Isa80Many.l0 k y0 y1 y2) (pidginlaw06_Isa80Many.l0 (k + 1) y0 y1 y2))
  | 0 => fun _ _ _ r h => by simp [pidginlaw06_Isa80Many.l0] at h
  | k + 1 => by
    have ih0 := pidginlaw06_Isa80Many.mono_l k
    · intro y0 y1 y2
      unfold pidginlaw06_Isa80Many.l0
      repeat' first
      | (with_reducible exact ih0 _ _ _)
      | (with_reducible exact isa80_Args.mono _ _)
      | (with_reducible exact isa80_Find.mono _ _ _)
      | (with_reducible exact isa80_Name.mono _ _)
      | (with_reducible exact isa80_Size.mono _ _)
      | (with_reducible exact pidginlaw06_alive.mono _)
      | (with_reducible exact LeO.refl _)
      | (with_reducible exact LeO.none _)
      | (with_reducible refine LeO.ite ?_ ?_)
      | (with_reducible refine LeO.bind ?_ (fun _ => ?_))
      | exact ih0 _ _ _
      | exact isa80_Args.mono _ _
      | exact isa80_Find.mono _ _ _
      | exact isa80_Name.mono _ _
      | exact isa80_Size.mono _ _
      | exact pidginlaw06_alive.mono _
      | exact LeO.none _
      | refine LeO.ite ?_ ?_
      | refine LeO.bind ?_ (fun _ => ?_)
theorem pidginlaw06_Isa80Many.mono : ∀ a0 k, LeO (pidginlaw06_Isa80Many.f k a0) (pidginlaw06_Isa80Many.f (k + 1) a0) := by
  intro a0 k
  have ih0 := pidginlaw06_Isa80Many.mono_l k
  unfold pidginlaw06_Isa80Many.f
  repeat' first
      | (with_reducible exact ih0 _ _ _)
      | (with_reducible exact isa80_Args.mono _ _)
      | (with_reducible exact isa80_Find.mono _ _ _)
      | (with_reducible exact isa80_Name.mono _ _)
      | (with_reducible exact isa80_Size.mono _ _)
      | (with_reducible exact pidginlaw06_alive.mono _)
      | (with_reducible exact LeO.refl _)
      | (with_reducible exact LeO.none _)
      | (with_reducible refine LeO.ite ?_ ?_)
      | (with_reducible refine LeO.bind ?_ (fun _ => ?_))
      | exact ih0 _ _ _
      | exact isa80_Args.mono _ _
      | exact isa80_Find.mono _ _ _
      | exact isa80_Name.mono _ _
      | exact isa80_Size.mono _ _
      | exact pidginlaw06_alive.mono _
      | exact LeO.none _
      | refine LeO.ite ?_ ?_
      | refine LeO.bind ?_ (fun _ => ?_)
set_option maxHeartbeats 8000000 in
set_option maxRecDepth 100000 in
theorem pidginlaw06_Isa80Many.calls (k : Nat) (a0 : Int) (r : Bool) (w : World) (h : pidginlaw06_Isa80Many.f k a0 = some r) (hT_ : r = true) :
    Calls Try.prog 8 #[.int .u8 a0] w fun e w' => e = .returned (.bool r) ∧ Below w.heap.size w w' := by
  have HB := Aside0.mk (Below.refl w.heap.size w)
  have H : (pidginlaw06_Isa80Many.l0 k a0 0 0) = some r := h
  clear h
  have HT := Aside0.mk hT_
  clear hT_
  have H' := Aside0.mk H
  clear H
  go_enter Try.func8, Try.ntmps8
  go_wp2
  go_loopg [3, 4] k (fun kq v3 v4 w' => ∃ (x3_1 : Int) (x4_1 : Int), v3 = .int .i64 x3_1 ∧ v4 = .int .i64 x4_1 ∧ Aside0 (pidginlaw06_Isa80Many.l0 kq a0 x3_1 x4_1 = some r) ∧ Aside0 (kq ≤ k) ∧ Aside0 (Below w.heap.size w w'))
  case atStart => exact ⟨(0), (0), (by first | rfl | (simp; done) | (simp [*]; done)), (by first | rfl | (simp; done) | (simp [*]; done)), H', ⟨Nat.le_refl _⟩, ⟨by repeat (first | (with_reducible first | exact HB.out | apply below_alloc | apply pw_below_drewN | apply below_drew1) | exact HB.out)⟩⟩
  case round =>
    clear H'
    obtain ⟨x3_1, x4_1, rfl, rfl, HA, HK1, HB⟩ := hrel
    cases gk with
    | zero => exact absurd HA.out (by simp [pidginlaw06_Isa80Many.l0])
    | succ k1 =>
      have H := HA.out
      clear HA
      simp only [pidginlaw06_Isa80Many.l0] at H
      by_cases c2 : x4_1 < 256
      · rw [if_pos c2] at H
        have c2b0 : decide (x4_1 < 256) = true := decide_eq_true c2
        clear c2
        replace H := Option.bind_eq_some_iff.mp H
        obtain ⟨t516, A30, H⟩ := H
        replace H : (if t516 = 0 then ((isa80_Name.f k1 ((((x4_1) % 256) + a0) % 256)).bind fun t517 => (if t517.toList = ([] : List UInt8) then ((isa80_Args.f k1 ((((x4_1) % 256) + a0) % 256)).bind fun t518 => (if (t518.length : Int) = 0 then (pidginlaw06_Isa80Many.l0 k1 a0 x3_1 (wrap64 (x4_1 + 1))) else (some false))) else (some false))) else ((isa80_Name.f k1 ((((x4_1) % 256) + a0) % 256)).bind fun t521 => ((isa80_Args.f k1 ((((x4_1) % 256) + a0) % 256)).bind fun t522 => ((isa80_Find.f k1 t521 t522).bind fun bt525 => (if bt525.2 = true then (if bt525.1 = ((((x4_1) % 256) + a0) % 256) then (pidginlaw06_Isa80Many.l0 k1 a0 (wrap64 (x3_1 + 1)) (wrap64 (x4_1 + 1))) else (some false)) else (some false)))))) = some r := H
        have A3 := Aside0.mk A30
        clear A30
        by_cases c4 : t516 = 0
        · rw [if_pos c4] at H
          have c4b0 : (t516 == 0) = true := beq_iff_eq.mpr c4
          have c4b1 : (t516 != 0) = false := bne_eq_false_iff_eq.mpr c4
          clear c4
          replace H := Option.bind_eq_some_iff.mp H
          obtain ⟨t517, A50, H⟩ := H
          replace H : (if t517.toList = ([] : List UInt8) then ((isa80_Args.f k1 ((((x4_1) % 256) + a0) % 256)).bind fun t518 => (if (t518.length : Int) = 0 then (pidginlaw06_Isa80Many.l0 k1 a0 x3_1 (wrap64 (x4_1 + 1))) else (some false))) else (some false)) = some r := H
          have A5 := Aside0.mk A50
          clear A50
          by_cases c6 : t517.toList = ([] : List UInt8)
          · rw [if_pos c6] at H
            have c6b0 : (t517.toList == ([] : List UInt8)) = true := beq_iff_eq.mpr c6
            have c6b1 : (t517.toList != ([] : List UInt8)) = false := bne_eq_false_iff_eq.mpr c6
            clear c6
            replace H := Option.bind_eq_some_iff.mp H
            obtain ⟨t518, A70, H⟩ := H
            replace H : (if (t518.length : Int) = 0 then (pidginlaw06_Isa80Many.l0 k1 a0 x3_1 (wrap64 (x4_1 + 1))) else (some false)) = some r := H
            have A7 := Aside0.mk A70
            clear A70
            by_cases c8 : (t518.length : Int) = 0
            · rw [if_pos c8] at H
              have c8b0 : ((t518.length : Int) == 0) = true := beq_iff_eq.mpr c8
              have c8b1 : ((t518.length : Int) != 0) = false := bne_eq_false_iff_eq.mpr c8
              clear c8
              have H' := Aside0.mk H
              clear H
              go_wp2_with (first | ((with_reducible refine gate_callee (f := 22) rfl ?_); refine goesL_ (some 17) rfl rfl Try.func22 (by kernel_rfl) rfl #[.int .u8 ((((x4_1) % 256) + a0) % 256)] rfl (by (try simp only [List.map_toArray, List.map_cons, List.map_nil]); first | done | rfl | (simp only [List.length_drop, List.length_take]; rfl) | (simp only [IntKind.wrap_u8, IntKind.wrap_u32, Int.emod_add_emod, Int.add_emod_emod] <;> rfl)) ?_; (with_reducible refine (isa80_Size.calls k1 ((((x4_1) % 256) + a0) % 256) t516 _ A3.out).mono ?_); rintro e w9 ⟨rfl, hb⟩; refine ⟨_, rfl, ?_⟩; have n0_ := Aside0.mk (below_step (by repeat (first | (with_reducible first | exact HB.out | apply below_alloc | apply pw_below_drewN | apply below_drew1) | exact HB.out)) hb); clear HB; have HB := n0_; clear n0_; (try clear hb); (try clear hb2); (try clear hk); (try clear hi)) | ((with_reducible refine gate_callee (f := 17) rfl ?_); refine goesL_ (some 20) rfl rfl Try.func17 (by kernel_rfl) rfl #[.int .u8 ((((x4_1) % 256) + a0) % 256)] rfl (by (try simp only [List.map_toArray, List.map_cons, List.map_nil]); first | done | rfl | (simp only [List.length_drop, List.length_take]; rfl) | (simp only [IntKind.wrap_u8, IntKind.wrap_u32, Int.emod_add_emod, Int.add_emod_emod] <;> rfl)) ?_; (with_reducible refine (isa80_Name.calls k1 ((((x4_1) % 256) + a0) % 256) t517 _ A5.out).mono ?_); rintro e w10 ⟨rfl, hb⟩; refine ⟨_, rfl, ?_⟩; have n0_ := Aside0.mk (below_step (by repeat (first | (with_reducible first | exact HB.out | apply below_alloc | apply pw_below_drewN | apply below_drew1) | exact HB.out)) hb); clear HB; have HB := n0_; clear n0_; (try clear hb); (try clear hb2); (try clear hk); (try clear hi)) | (go_at_call 20; refine calls_of_args (args' := #[.int .u8 ((((x4_1) % 256) + a0) % 256)]) ?hargs_ ?_; (case hargs_ => first | rfl | (simp only [IntKind.wrap_u8, IntKind.wrap_u32, Int.emod_add_emod, Int.add_emod_emod] <;> rfl)); (with_reducible refine (isa80_Args.calls k1 ((((x4_1) % 256) + a0) % 256) t518 _ A7.out).mono ?_); rintro e w11 ⟨v519, rfl, ho0, hb⟩; have n0_ := Aside0.mk (Kd.Q_lower ho0 (below_size (by repeat (first | (with_reducible first | exact HB.out | apply below_alloc | apply pw_below_drewN | apply below_drew1) | exact HB.out)))); have n1_ := Aside0.mk (below_step (by repeat (first | (with_reducible first | exact HB.out | apply below_alloc | apply pw_below_drewN | apply below_drew1) | exact HB.out)) hb); clear HB; have HO520 := n0_; have HB := n1_; clear n0_ n1_; (try clear hb); (try clear hb2); (try clear hk); (try clear hi); (try clear ho0); obtain ⟨Ao12, co12, eo12, _⟩ := Kd.Q_slice HO520.out; subst eo12))
              go_roundg k1
              case measure => have := HK1.out; omega
              case rel => exact ⟨(x3_1), (wrap64 (x4_1 + 1)), (by first | rfl | (simp; done) | (simp [*]; done)), (by first | rfl | (simp; done) | (simp [*]; done)), H', ⟨by have := HK1.out; omega⟩, ⟨by repeat (first | (with_reducible first | exact HB.out | apply below_alloc | apply pw_below_drewN | apply below_drew1) | exact HB.out)⟩⟩
            · rw [if_neg c8] at H
              have c8b0 : ((t518.length : Int) == 0) = false := beq_eq_false_iff_ne.mpr c8
              have c8b1 : ((t518.length : Int) != 0) = true := bne_iff_ne.mpr c8
              have c8b2 : ¬ (t518 = []) := fun h_ => c8 (by rw [h_]; rfl)
              exact absurd ((Option.some.inj H).trans HT.out) (by decide)
          · rw [if_neg c6] at H
            have c6b0 : (t517.toList == ([] : List UInt8)) = false := beq_eq_false_iff_ne.mpr c6
            have c6b1 : (t517.toList != ([] : List UInt8)) = true := bne_iff_ne.mpr c6
            exact absurd ((Option.some.inj H).trans HT.out) (by decide)
        · rw [if_neg c4] at H
          have c4b0 : (t516 == 0) = false := beq_eq_false_iff_ne.mpr c4
          have c4b1 : (t516 != 0) = true := bne_iff_ne.mpr c4
          replace H := Option.bind_eq_some_iff.mp H
          obtain ⟨t521, A130, H⟩ := H
          replace H : ((isa80_Args.f k1 ((((x4_1) % 256) + a0) % 256)).bind fun t522 => ((isa80_Find.f k1 t521 t522).bind fun bt525 => (if bt525.2 = true then (if bt525.1 = ((((x4_1) % 256) + a0) % 256) then (pidginlaw06_Isa80Many.l0 k1 a0 (wrap64 (x3_1 + 1)) (wrap64 (x4_1 + 1))) else (some false)) else (some false)))) = some r := H
          have A13 := Aside0.mk A130
          clear A130
          replace H := Option.bind_eq_some_iff.mp H
          obtain ⟨t522, A140, H⟩ := H
          replace H : ((isa80_Find.f k1 t521 t522).bind fun bt525 => (if bt525.2 = true then (if bt525.1 = ((((x4_1) % 256) + a0) % 256) then (pidginlaw06_Isa80Many.l0 k1 a0 (wrap64 (x3_1 + 1)) (wrap64 (x4_1 + 1))) else (some false)) else (some false))) = some r := H
          have A14 := Aside0.mk A140
          clear A140
          replace H := Option.bind_eq_some_iff.mp H
          obtain ⟨⟨t525, t526⟩, A150, H⟩ := H
          replace H : (if t526 = true then (if t525 = ((((x4_1) % 256) + a0) % 256) then (pidginlaw06_Isa80Many.l0 k1 a0 (wrap64 (x3_1 + 1)) (wrap64 (x4_1 + 1))) else (some false)) else (some false)) = some r := H
          have A15 := Aside0.mk A150
          clear A150
          by_cases c16 : t526 = true
          · subst c16
            have H1 : (if t525 = ((((x4_1) % 256) + a0) % 256) then (pidginlaw06_Isa80Many.l0 k1 a0 (wrap64 (x3_1 + 1)) (wrap64 (x4_1 + 1))) else (some false)) = some r := by rw [if_pos rfl] at H; exact H
            clear H
            have H := H1
            clear H1
            by_cases c17 : t525 = ((((x4_1) % 256) + a0) % 256)
            · rw [if_pos c17] at H
              have c17b0 : (t525 == ((((x4_1) % 256) + a0) % 256)) = true := beq_iff_eq.mpr c17
              have c17b1 : (t525 != ((((x4_1) % 256) + a0) % 256)) = false := bne_eq_false_iff_eq.mpr c17
              clear c17
              have H' := Aside0.mk H
              clear H
              go_wp2_with (first | ((with_reducible refine gate_callee (f := 22) rfl ?_); refine goesL_ (some 17) rfl rfl Try.func22 (by kernel_rfl) rfl #[.int .u8 ((((x4_1) % 256) + a0) % 256)] rfl (by (try simp only [List.map_toArray, List.map_cons, List.map_nil]); first | done | rfl | (simp only [List.length_drop, List.length_take]; rfl) | (simp only [IntKind.wrap_u8, IntKind.wrap_u32, Int.emod_add_emod, Int.add_emod_emod] <;> rfl)) ?_; (with_reducible refine (isa80_Size.calls k1 ((((x4_1) % 256) + a0) % 256) t516 _ A3.out).mono ?_); rintro e w18 ⟨rfl, hb⟩; refine ⟨_, rfl, ?_⟩; have n0_ := Aside0.mk (below_step (by repeat (first | (with_reducible first | exact HB.out | apply below_alloc | apply pw_below_drewN | apply below_drew1) | exact HB.out)) hb); clear HB; have HB := n0_; clear n0_; (try clear hb); (try clear hb2); (try clear hk); (try clear hi)) | ((with_reducible refine gate_callee (f := 17) rfl ?_); refine goesL_ (some 32) rfl rfl Try.func17 (by kernel_rfl) rfl #[.int .u8 ((((x4_1) % 256) + a0) % 256)] rfl (by (try simp only [List.map_toArray, List.map_cons, List.map_nil]); first | done | rfl | (simp only [List.length_drop, List.length_take]; rfl) | (simp only [IntKind.wrap_u8, IntKind.wrap_u32, Int.emod_add_emod, Int.add_emod_emod] <;> rfl)) ?_; (with_reducible refine (isa80_Name.calls k1 ((((x4_1) % 256) + a0) % 256) t521 _ A13.out).mono ?_); rintro e w19 ⟨rfl, hb⟩; refine ⟨_, rfl, ?_⟩; have n0_ := Aside0.mk (below_step (by repeat (first | (with_reducible first | exact HB.out | apply below_alloc | apply pw_below_drewN | apply below_drew1) | exact HB.out)) hb); clear HB; have HB := n0_; clear n0_; (try clear hb); (try clear hb2); (try clear hk); (try clear hi)) | ((with_reducible refine gate_callee (f := 20) rfl ?_); refine goesL_ (some 34) rfl rfl Try.func20 (by kernel_rfl) rfl #[.int .u8 ((((x4_1) % 256) + a0) % 256)] rfl (by (try simp only [List.map_toArray, List.map_cons, List.map_nil]); first | done | rfl | (simp only [List.length_drop, List.length_take]; rfl) | (simp only [IntKind.wrap_u8, IntKind.wrap_u32, Int.emod_add_emod, Int.add_emod_emod] <;> rfl)) ?_; (with_reducible refine (isa80_Args.calls k1 ((((x4_1) % 256) + a0) % 256) t522 _ A14.out).mono ?_); rintro e w20 ⟨v523, rfl, ho0, hb⟩; refine ⟨_, rfl, ?_⟩; have n0_ := Aside0.mk (Kd.Q_lower ho0 (below_size (by repeat (first | (with_reducible first | exact HB.out | apply below_alloc | apply pw_below_drewN | apply below_drew1) | exact HB.out)))); have n1_ := Aside0.mk (below_step (by repeat (first | (with_reducible first | exact HB.out | apply below_alloc | apply pw_below_drewN | apply below_drew1) | exact HB.out)) hb); clear HB; have HO524 := n0_; have HB := n1_; clear n0_ n1_; (try clear hb); (try clear hb2); (try clear hk); (try clear hi); (try clear ho0); obtain ⟨Ao21, co21, eo21, _⟩ := Kd.Q_slice HO524.out; subst eo21) | ((with_reducible refine gate_callee (f := 30) rfl ?_); refine goesL_ (some 35) rfl rfl Try.func30 (by kernel_rfl) rfl #[.string t521, .slice Ao21 t522.length co21] rfl (by (try simp only [List.map_toArray, List.map_cons, List.map_nil]); first | done | rfl | (simp only [List.length_drop, List.length_take]; rfl) | (simp only [IntKind.wrap_u8, IntKind.wrap_u32, Int.emod_add_emod, Int.add_emod_emod] <;> rfl)) ?_; (with_reducible refine (isa80_Find.calls k1 t521 _ _ t522 t525 true _ ?side1 ?side2 A15.out).mono ?_); (case side1 => repeat (first | exact (Kd.Q_reads' HO524.out).2.2 | (with_reducible refine Kd.C_alloc ?_ _) | (with_reducible refine Kd.C_drewN ?_ _) | (with_reducible refine Kd.C_drew ?_))); (case side2 => exact (Kd.Q_reads' HO524.out).2.1); rintro e w22 ⟨rfl, hb⟩; refine ⟨_, rfl, ?_⟩; have n0_ := Aside0.mk (Kd.Q_below (by (with_reducible repeat (first | apply Kd.Q_alloc | apply Kd.Q_drewN | apply Kd.Q_drew)); exact HO524.out) hb); have n1_ := Aside0.mk (below_step (by repeat (first | (with_reducible first | exact HB.out | apply below_alloc | apply pw_below_drewN | apply below_drew1) | exact HB.out)) hb); clear HO524; clear HB; have HO524 := n0_; have HB := n1_; clear n0_ n1_; (try clear hb); (try clear hb2); (try clear hk); (try clear hi)))
              go_roundg k1
              case measure => have := HK1.out; omega
              case rel => exact ⟨(wrap64 (x3_1 + 1)), (wrap64 (x4_1 + 1)), (by first | rfl | (simp; done) | (simp [*]; done)), (by first | rfl | (simp; done) | (simp [*]; done)), H', ⟨by have := HK1.out; omega⟩, ⟨by repeat (first | (with_reducible first | exact HB.out | apply below_alloc | apply pw_below_drewN | apply below_drew1) | exact HB.out)⟩⟩
            · rw [if_neg c17] at H
              have c17b0 : (t525 == ((((x4_1) % 256) + a0) % 256)) = false := beq_eq_false_iff_ne.mpr c17
              have c17b1 : (t525 != ((((x4_1) % 256) + a0) % 256)) = true := bne_iff_ne.mpr c17
              exact absurd ((Option.some.inj H).trans HT.out) (by decide)
          · replace c16 := Bool.eq_false_iff.mpr c16
            subst c16
            have H1 : (some false) = some r := by rw [if_neg (show ¬ (false = true) by decide)] at H; exact H
            clear H
            have H := H1
            clear H1
            exact absurd ((Option.some.inj H).trans HT.out) (by decide)
      · rw [if_neg c2] at H
        have c2b0 : decide (x4_1 < 256) = false := decide_eq_false c2
        clear c2
        by_cases c23 : x3_1 = 244
        · rw [if_pos c23] at H
          have c23b0 : (x3_1 == 244) = true := beq_iff_eq.mpr c23
          have c23b1 : (x3_1 != 244) = false := bne_eq_false_iff_eq.mpr c23
          clear c23
          replace H := Option.bind_eq_some_iff.mp H
          obtain ⟨t515, A240, H⟩ := H
          replace H : (some t515) = some r := H
          have A24 := Aside0.mk A240
          clear A240
          obtain rfl := Option.some.inj H
          go_wp2_with (first | (go_at_call 24; (with_reducible refine (pidginlaw06_alive.calls k1  t515 _ A24.out).mono ?_); rintro e w25 ⟨rfl, hb⟩; have n0_ := Aside0.mk (below_step (by repeat (first | (with_reducible first | exact HB.out | apply below_alloc | apply pw_below_drewN | apply below_drew1) | exact HB.out)) hb); clear HB; have HB := n0_; clear n0_; (try clear hb); (try clear hb2); (try clear hk); (try clear hi)))
          go_ret
          exact ⟨by first | rfl | (simp [errW_none, errW_some] <;> rfl) | (simp [*, errW_none, errW_some] <;> rfl), by repeat (first | (with_reducible first | exact HB.out | apply below_alloc | apply pw_below_drewN | apply below_drew1) | exact HB.out)⟩
        · rw [if_neg c23] at H
          have c23b0 : (x3_1 == 244) = false := beq_eq_false_iff_ne.mpr c23
          have c23b1 : (x3_1 != 244) = true := bne_iff_ne.mpr c23
          exact absurd ((Option.some.inj H).trans HT.out) (by decide)

/-- THE ONE PURE STATEMENT of pidginlaw06_Isa80Many: yours. -/
def pidginlaw06_Isa80Many.Pure : Prop := ∀ (a0 : Int), (Lit.int .u8 a0).wf = true → ∃ k, pidginlaw06_Isa80Many.f k a0 = some true
theorem pidginlaw06_Isa80Many.walk (P : pidginlaw06_Isa80Many.Pure) (a0 : Int) (w : World) (w0 : (Lit.int .u8 a0).wf = true) :
    Calls Try.prog 8 #[.int .u8 a0] w fun e w' => e = .returned (.bool true) ∧ Below w.heap.size w w' := by
  obtain ⟨k, h⟩ := P a0 w0
  refine (pidginlaw06_Isa80Many.calls k a0 true w h rfl).mono ?_
  rintro e w' ⟨rfl, hd⟩
  exact ⟨rfl, hd⟩

/-! ### isa80_Cond: function 35 -/
def isa80_Cond.f (a0 : Int) : Option (Int) := if (a0 / 64) = 3 then (if (Go.bits .and .u8 a0 1) = 0 then (if (Go.bits .and .u8 a0 7) = 6 then (some (-1)) else (some (wrap64 (Go.bits .and .u8 (a0 / 8) 7)))) else (some (-1))) else (some (-1))
set_option maxHeartbeats 8000000 in
set_option maxRecDepth 100000 in
theorem isa80_Cond.calls (a0 : Int) (r : Int) (w : World) (h : isa80_Cond.f a0 = some r) :
    Calls Try.prog 35 #[.int .u8 a0] w fun e w' => e = .returned (.int .i64 r) ∧ Drawn0 w w' := by
  have H : (if (a0 / 64) = 3 then (if (Go.bits .and .u8 a0 1) = 0 then (if (Go.bits .and .u8 a0 7) = 6 then (some (-1)) else (some (wrap64 (Go.bits .and .u8 (a0 / 8) 7)))) else (some (-1))) else (some (-1))) = some r := h
  clear h
  by_cases c2 : (a0 / 64) = 3
  · rw [if_pos c2] at H
    have c2b0 : ((a0 / 64) == 3) = true := beq_iff_eq.mpr c2
    have c2b1 : ((a0 / 64) != 3) = false := bne_eq_false_iff_eq.mpr c2
    clear c2
    by_cases c3 : (Go.bits .and .u8 a0 1) = 0
    · rw [if_pos c3] at H
      have c3b0 : ((Go.bits .and .u8 a0 1) == 0) = true := beq_iff_eq.mpr c3
      have c3b1 : ((Go.bits .and .u8 a0 1) != 0) = false := bne_eq_false_iff_eq.mpr c3
      clear c3
      by_cases c4 : (Go.bits .and .u8 a0 7) = 6
      · rw [if_pos c4] at H
        have c4b0 : ((Go.bits .and .u8 a0 7) == 6) = true := beq_iff_eq.mpr c4
        have c4b1 : ((Go.bits .and .u8 a0 7) != 6) = false := bne_eq_false_iff_eq.mpr c4
        clear c4
        obtain rfl := Option.some.inj H
        go_enter Try.func35, Try.ntmps35
        go_wp2
        go_ret
        exact ⟨by first | rfl | (simp; done) | (simp [*]; done), by repeat (first | exact Drawn0.refl _ | apply Drawn0.step)⟩
      · rw [if_neg c4] at H
        have c4b0 : ((Go.bits .and .u8 a0 7) == 6) = false := beq_eq_false_iff_ne.mpr c4
        have c4b1 : ((Go.bits .and .u8 a0 7) != 6) = true := bne_iff_ne.mpr c4
        obtain rfl := Option.some.inj H
        go_enter Try.func35, Try.ntmps35
        go_wp2
        go_ret
        exact ⟨by first | rfl | (simp; done) | (simp [*]; done), by repeat (first | exact Drawn0.refl _ | apply Drawn0.step)⟩
    · rw [if_neg c3] at H
      have c3b0 : ((Go.bits .and .u8 a0 1) == 0) = false := beq_eq_false_iff_ne.mpr c3
      have c3b1 : ((Go.bits .and .u8 a0 1) != 0) = true := bne_iff_ne.mpr c3
      obtain rfl := Option.some.inj H
      go_enter Try.func35, Try.ntmps35
      go_wp2
      go_ret
      exact ⟨by first | rfl | (simp; done) | (simp [*]; done), by repeat (first | exact Drawn0.refl _ | apply Drawn0.step)⟩
  · rw [if_neg c2] at H
    have c2b0 : ((a0 / 64) == 3) = false := beq_eq_false_iff_ne.mpr c2
    have c2b1 : ((a0 / 64) != 3) = true := bne_iff_ne.mpr c2
    obtain rfl := Option.some.inj H
    go_enter Try.func35, Try.ntmps35
    go_wp2
    go_ret
    exact ⟨by first | rfl | (simp; done) | (simp [*]; done), by repeat (first | exact Drawn0.refl _ | apply Drawn0.step)⟩

end Go.Proofs.Ytmecindhgjdbgaa.PIsa
