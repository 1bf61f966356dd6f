/- Own texts of this claim, merged by a program of the claim's own: what the claim's theorem reaches. -/
import Derived.Test.YtaiabehbappdaaaQA5

namespace Go.Proofs.Ytaiabehbappdaaa.PCpu
open Go.RowKit Go.Proofs.YtaiabehbappdaaaW.PrintWords Go.Proofs.YtaiabehbappdaaaW.PrintLast Go.Proofs.YtaiabehbappdaaaW.PrintMore
attribute [local go_sem] max2_int min2_int max_two min_two max_three min_three max_four min_four   -- for this text's walks alone
set_option linter.unusedVariables false
set_option linter.unusedSimpArgs false
def pidginref01_Daa.j0 : Nat → Int → Bool → Bool → Bool → Bool → Bool → Bool → Bool → Option (Int × Bool × Bool × Bool × Bool × Bool)
  | 0, _, _, _, _, _, _, _, _ => none
  | k + 1, x6, x7, x17, x485000, x485001, x485002, x485003, x485004 => if x17 = true then (if (wrap64 (Int.tdiv (wrap64 (x6 + 6)) 16)) > 9 then ((pidginref01_told.f k (wrap64 ((wrap64 (x6 + 6)) + 96)) (decide ((wrap64 ((Int.tmod x6 16) + 6)) > 15)) true).bind fun bt486 => (some (bt486.1, bt486.2.1, bt486.2.2.1, bt486.2.2.2.1, bt486.2.2.2.2.1, bt486.2.2.2.2.2))) else (if x485004 = true then ((pidginref01_told.f k (wrap64 ((wrap64 (x6 + 6)) + 96)) (decide ((wrap64 ((Int.tmod x6 16) + 6)) > 15)) x485004).bind fun bt492 => (some (bt492.1, bt492.2.1, bt492.2.2.1, bt492.2.2.2.1, bt492.2.2.2.2.1, bt492.2.2.2.2.2))) else ((pidginref01_told.f k (wrap64 (x6 + 6)) (decide ((wrap64 ((Int.tmod x6 16) + 6)) > 15)) x485004).bind fun bt498 => (some (bt498.1, bt498.2.1, bt498.2.2.1, bt498.2.2.2.1, bt498.2.2.2.2.1, bt498.2.2.2.2.2))))) else (if (wrap64 (Int.tdiv x6 16)) > 9 then ((pidginref01_told.f k (wrap64 (x6 + 96)) x7 true).bind fun bt504 => (some (bt504.1, bt504.2.1, bt504.2.2.1, bt504.2.2.2.1, bt504.2.2.2.2.1, bt504.2.2.2.2.2))) else (if x485004 = true then ((pidginref01_told.f k (wrap64 (x6 + 96)) x7 x485004).bind fun bt510 => (some (bt510.1, bt510.2.1, bt510.2.2.1, bt510.2.2.2.1, bt510.2.2.2.2.1, bt510.2.2.2.2.2))) else ((pidginref01_told.f k x6 x7 x485004).bind fun bt516 => (some (bt516.1, bt516.2.1, bt516.2.2.1, bt516.2.2.2.1, bt516.2.2.2.2.1, bt516.2.2.2.2.2)))))
def pidginref01_Daa.f (k : Nat) (a0 : Int) (a1_0 : Bool) (a1_1 : Bool) (a1_2 : Bool) (a1_3 : Bool) (a1_4 : Bool) : Option (Int × Bool × Bool × Bool × Bool × Bool) := if (Int.tmod (wrap64 (a0)) 16) > 9 then (pidginref01_Daa.j0 k (wrap64 (a0)) false true a1_0 a1_1 a1_2 a1_3 a1_4) else (pidginref01_Daa.j0 k (wrap64 (a0)) false a1_2 a1_0 a1_1 a1_2 a1_3 a1_4)
theorem pidginref01_Daa.mono_l : ∀ k, (∀ y0 y1 y2 y3 y4 y5 y6 y7, LeO (pidginref01_Daa.j0 k y0 y1 y2 y3 y4 y5 y6 y7) (pidginref01_Daa.j0 (k + 1) y0 y1 y2 y3 y4 y5 y6 y7))
  | 0 => fun _ _ _ _ _ _ _ _ r h => by simp [pidginref01_Daa.j0] at h
  | k + 1 => by
    have ih0 := pidginref01_Daa.mono_l k
    · intro y0 y1 y2 y3 y4 y5 y6 y7
      unfold pidginref01_Daa.j0
      repeat' first
      | (with_reducible exact ih0 _ _ _ _ _ _ _ _)
      | (with_reducible exact pidginref01_told.mono _ _ _ _)
      | (with_reducible exact LeO.refl _)
      | (with_reducible exact LeO.none _)
      | (with_reducible refine LeO.ite ?_ ?_)
      | (with_reducible refine LeO.bind ?_ (fun _ => ?_))
      | exact ih0 _ _ _ _ _ _ _ _
      | exact pidginref01_told.mono _ _ _ _
      | exact LeO.none _
      | refine LeO.ite ?_ ?_
      | refine LeO.bind ?_ (fun _ => ?_)
theorem pidginref01_Daa.mono : ∀ a0 a1 a2 a3 a4 a5 k, LeO (pidginref01_Daa.f k a0 a1 a2 a3 a4 a5) (pidginref01_Daa.f (k + 1) a0 a1 a2 a3 a4 a5) := by
  intro a0 a1 a2 a3 a4 a5 k
  have ih0 := pidginref01_Daa.mono_l k
  unfold pidginref01_Daa.f
  repeat' first
      | (with_reducible exact ih0 _ _ _ _ _ _ _ _)
      | (with_reducible exact pidginref01_told.mono _ _ _ _)
      | (with_reducible exact LeO.refl _)
      | (with_reducible exact LeO.none _)
      | (with_reducible refine LeO.ite ?_ ?_)
      | (with_reducible refine LeO.bind ?_ (fun _ => ?_))
      | exact ih0 _ _ _ _ _ _ _ _
      | exact pidginref01_told.mono _ _ _ _
      | exact LeO.none _
      | refine LeO.ite ?_ ?_
      | refine LeO.bind ?_ (fun _ => ?_)
set_option maxHeartbeats 8000000 in
set_option maxRecDepth 100000 in
theorem pidginref01_Daa.calls (k : Nat) (a0 : Int) (a1_0 : Bool) (a1_1 : Bool) (a1_2 : Bool) (a1_3 : Bool) (a1_4 : Bool) (r1 : Int) (r2 : Bool) (r3 : Bool) (r4 : Bool) (r5 : Bool) (r6 : Bool) (w : World) (h : pidginref01_Daa.f k a0 a1_0 a1_1 a1_2 a1_3 a1_4 = some (r1, r2, r3, r4, r5, r6)) :
    Calls Try.prog 91 #[.int .u8 a0, .agg #[.bool a1_0, .bool a1_1, .bool a1_2, .bool a1_3, .bool a1_4]] w fun e w' => e = .returned (.tuple #[.int .u8 r1, .agg #[.bool r2, .bool r3, .bool r4, .bool r5, .bool r6]]) ∧ Below w.heap.size w w' := by
  have hu24 := Try.underlying24
  have HB := Aside0.mk (Below.refl w.heap.size w)
  have H : (if (Int.tmod (wrap64 (a0)) 16) > 9 then (pidginref01_Daa.j0 k (wrap64 (a0)) false true a1_0 a1_1 a1_2 a1_3 a1_4) else (pidginref01_Daa.j0 k (wrap64 (a0)) false a1_2 a1_0 a1_1 a1_2 a1_3 a1_4)) = some (r1, r2, r3, r4, r5, r6) := h
  clear h
  have HC3 := Aside0.mk H
  clear H
  go_enter Try.func91, Try.ntmps91
  go_upto_region 3 with (first | ((with_reducible refine gate_dst (N := 3) rfl ?_); refine box_event ?hg (N := 3) ?hd (cs := #[.bool a1_0, .bool a1_1, .bool a1_2, .bool a1_3, .bool a1_4]) (t := 24) ?hr ?_; (case hd => rfl); (case hg => rfl); (case hr => first | (go_simp; done) | (go_simp; rfl)); intro gb484 hg w4 hbox hb; have n0_ := Aside0.mk (below_step (by repeat (first | (with_reducible first | exact HB.out | apply below_alloc | apply pw_below_drewN | apply below_drew1) | exact HB.out)) hb); have n1_ := Aside0.mk (hbox); have n2_ := Aside0.mk ((by rw [hg]; exact (below_size (by repeat (first | (with_reducible first | exact HB.out | apply below_alloc | apply pw_below_drewN | apply below_drew1) | exact HB.out))) : w.heap.size ≤ gb484)); have n3_ := Aside0.mk ((by rw [hg]; exact (below_size (by repeat (first | (with_reducible first | exact HB.out | apply below_alloc | apply pw_below_drewN | apply below_drew1) | exact HB.out))) : w.heap.size ≤ gb484)); clear HB; have HB := n0_; have BK484 := n1_; have GW484 := n2_; have GE484 := n3_; clear n0_ n1_ n2_ n3_; clear hb hbox hg) | ((with_reducible refine gate_dst (N := 5) rfl ?_); refine box_event ?hg (N := 5) ?hd (cs := #[.bool false, .bool false, .bool false, .bool false, .bool false]) (t := 24) ?hr ?_; (case hd => rfl); (case hg => rfl); (case hr => first | (go_simp; done) | (go_simp; rfl)); intro gb485 hg w5 hbox hb; have n0_ := Aside0.mk (blk_below (g := gb484) (o := .cells #[.bool a1_0, .bool a1_1, .bool a1_2, .bool a1_3, .bool a1_4] 24 (0, 0)) (by (with_reducible repeat (first | refine blk_drewN ?_ _ | refine blk_drew ?_ | refine blk_alloc ?_ _)); exact BK484.out) hb); have n1_ := Aside0.mk (below_step (by repeat (first | (with_reducible first | exact HB.out | apply below_alloc | apply pw_below_drewN | apply below_drew1 | refine below_set ?_ GE484.out) | exact HB.out)) hb); have n2_ := Aside0.mk (hbox); have n3_ := Aside0.mk ((by rw [hg]; exact (below_size (by repeat (first | (with_reducible first | exact HB.out | apply below_alloc | apply pw_below_drewN | apply below_drew1 | refine below_set ?_ GE484.out) | exact HB.out))) : w.heap.size ≤ gb485)); have n4_ := Aside0.mk ((by rw [hg]; exact (below_size (by repeat (first | (with_reducible first | exact HB.out | apply below_alloc | apply pw_below_drewN | apply below_drew1 | refine below_set ?_ GE484.out) | exact HB.out))) : w.heap.size ≤ gb485)); have n5_ := Aside0.mk ((by rw [hg]; exact Nat.ne_of_lt (blk_lt (g := gb484) (o := .cells #[.bool a1_0, .bool a1_1, .bool a1_2, .bool a1_3, .bool a1_4] 24 (0, 0)) (by (with_reducible repeat (first | refine blk_drewN ?_ _ | refine blk_drew ?_ | refine blk_alloc ?_ _)); exact BK484.out)) : gb484 ≠ gb485)); have n6_ := Aside0.mk ((by rw [hg]; exact Nat.ne_of_gt (blk_lt (g := gb484) (o := .cells #[.bool a1_0, .bool a1_1, .bool a1_2, .bool a1_3, .bool a1_4] 24 (0, 0)) (by (with_reducible repeat (first | refine blk_drewN ?_ _ | refine blk_drew ?_ | refine blk_alloc ?_ _)); exact BK484.out)) : gb485 ≠ gb484)); clear BK484; clear HB; have BK484 := n0_; have HB := n1_; have BK485 := n2_; have GW485 := n3_; have GE485 := n4_; have NB484_485 := n5_; have NB485_484 := n6_; clear n0_ n1_ n2_ n3_ n4_ n5_ n6_; clear hb hbox hg))
  (try simp only [Act.put, List.setIfInBounds_toArray, List.set_cons_zero, List.set_cons_succ])
  go_cut [17] (fun v17 wc => ∃ (kq : Nat) (x17_2 : Bool), v17 = .bool x17_2 ∧ Aside0 (pidginref01_Daa.j0 kq (wrap64 (a0)) false x17_2 a1_0 a1_1 a1_2 a1_3 a1_4 = some (r1, r2, r3, r4, r5, r6)) ∧ Aside0 (kq ≤ k) ∧ Aside0 (wc.heap[gb484]? = some (.cells #[.bool a1_0, .bool a1_1, .bool a1_2, .bool a1_3, .bool a1_4] 24 (0, 0))) ∧ Aside0 (wc.heap[gb485]? = some (.cells #[.bool false, .bool false, .bool false, .bool false, .bool false] 24 (0, 0))) ∧ Aside0 (Below w.heap.size w wc))
  case first =>
    have H := HC3.out
    clear HC3
    by_cases c6 : (Int.tmod (wrap64 (a0)) 16) > 9
    · rw [if_pos c6] at H
      have c6b0 : decide (9 < (Int.tmod (wrap64 (a0)) 16)) = true := decide_eq_true c6
      clear c6
      (first | rw [c6b0] | (simp only [i64_w, i32_w]; rw [c6b0]) | skip)
      have H' := Aside0.mk H
      clear H
      go_wp2
      go_meet
      case rel => exact ⟨_, (true), (by first | rfl | (simp; done) | (simp [*]; done)), H', ⟨by first | omega | exact Nat.le_refl _⟩, ⟨by (with_reducible repeat (first | refine blk_drewN ?_ _ | refine blk_drew ?_ | refine blk_alloc ?_ _)); exact BK484.out⟩, ⟨by (with_reducible repeat (first | refine blk_drewN ?_ _ | refine blk_drew ?_ | refine blk_alloc ?_ _)); exact BK485.out⟩, ⟨by repeat (first | (with_reducible first | exact HB.out | apply below_alloc | apply pw_below_drewN | apply below_drew1 | refine below_set ?_ GE484.out | refine below_set ?_ GE485.out) | exact HB.out)⟩⟩
    · rw [if_neg c6] at H
      have c6b0 : decide (9 < (Int.tmod (wrap64 (a0)) 16)) = false := decide_eq_false c6
      clear c6
      (first | rw [c6b0] | (simp only [i64_w, i32_w]; rw [c6b0]) | skip)
      have H' := Aside0.mk H
      clear H
      have hnb7 := NB484_485.out
      have hnc7 := NB485_484.out
      have hcz8_0 : w5.cell? ⟨gb484, 0, none⟩ = some (.bool a1_0) := (blk_cell BK484.out 0).trans rfl
      have hcz8_1 : w5.cell? ⟨gb484, 1, none⟩ = some (.bool a1_1) := (blk_cell BK484.out 1).trans rfl
      have hcz8_2 : w5.cell? ⟨gb484, 2, none⟩ = some (.bool a1_2) := (blk_cell BK484.out 2).trans rfl
      have hcz8_3 : w5.cell? ⟨gb484, 3, none⟩ = some (.bool a1_3) := (blk_cell BK484.out 3).trans rfl
      have hcz8_4 : w5.cell? ⟨gb484, 4, none⟩ = some (.bool a1_4) := (blk_cell BK484.out 4).trans rfl
      have hfz8_0 := blk_frozen BK484.out 0
      have hfz8_1 := blk_frozen BK484.out 1
      have hfz8_2 := blk_frozen BK484.out 2
      have hfz8_3 := blk_frozen BK484.out 3
      have hfz8_4 := blk_frozen BK484.out 4
      go_wp2
      go_meet
      case rel => exact ⟨_, (a1_2), (by first | rfl | (simp; done) | (simp [*]; done)), H', ⟨by first | omega | exact Nat.le_refl _⟩, ⟨by (with_reducible repeat (first | refine blk_drewN ?_ _ | refine blk_drew ?_ | refine blk_alloc ?_ _)); exact BK484.out⟩, ⟨by (with_reducible repeat (first | refine blk_drewN ?_ _ | refine blk_drew ?_ | refine blk_alloc ?_ _)); exact BK485.out⟩, ⟨by repeat (first | (with_reducible first | exact HB.out | apply below_alloc | apply pw_below_drewN | apply below_drew1 | refine below_set ?_ GE484.out | refine below_set ?_ GE485.out) | exact HB.out)⟩⟩
  case rest =>
    clear HC3
    try clear p2
    try clear c6
    try clear c6b0
    try clear p6
    try clear c7
    try clear hcz8_0
    try clear hcz8_1
    try clear hcz8_2
    try clear hcz8_3
    try clear hcz8_4
    try clear hfz8_0
    try clear hfz8_1
    try clear hfz8_2
    try clear hfz8_3
    try clear hfz8_4
    obtain ⟨kq, x17_2, rfl, HA, HJ2, BK484, BK485, HB⟩ := hcut
    cases kq with
    | zero => exact absurd HA.out (by simp [pidginref01_Daa.j0])
    | succ kj2 =>
      have H := HA.out
      clear HA
      simp only [pidginref01_Daa.j0] at H
      by_cases c9 : x17_2 = true
      · subst c9
        have H1 : (if (wrap64 (Int.tdiv (wrap64 ((wrap64 (a0)) + 6)) 16)) > 9 then ((pidginref01_told.f kj2 (wrap64 ((wrap64 ((wrap64 (a0)) + 6)) + 96)) (decide ((wrap64 ((Int.tmod (wrap64 (a0)) 16) + 6)) > 15)) true).bind fun bt486 => (some (bt486.1, bt486.2.1, bt486.2.2.1, bt486.2.2.2.1, bt486.2.2.2.2.1, bt486.2.2.2.2.2))) else (if a1_4 = true then ((pidginref01_told.f kj2 (wrap64 ((wrap64 ((wrap64 (a0)) + 6)) + 96)) (decide ((wrap64 ((Int.tmod (wrap64 (a0)) 16) + 6)) > 15)) a1_4).bind fun bt492 => (some (bt492.1, bt492.2.1, bt492.2.2.1, bt492.2.2.2.1, bt492.2.2.2.2.1, bt492.2.2.2.2.2))) else ((pidginref01_told.f kj2 (wrap64 ((wrap64 (a0)) + 6)) (decide ((wrap64 ((Int.tmod (wrap64 (a0)) 16) + 6)) > 15)) a1_4).bind fun bt498 => (some (bt498.1, bt498.2.1, bt498.2.2.1, bt498.2.2.2.1, bt498.2.2.2.2.1, bt498.2.2.2.2.2))))) = some (r1, r2, r3, r4, r5, r6) := by rw [if_pos rfl] at H; exact H
        clear H
        have H := H1
        clear H1
        by_cases c10 : (wrap64 (Int.tdiv (wrap64 ((wrap64 (a0)) + 6)) 16)) > 9
        · rw [if_pos c10] at H
          have c10b0 : decide (9 < (wrap64 (Int.tdiv (wrap64 ((wrap64 (a0)) + 6)) 16))) = true := decide_eq_true c10
          clear c10
          replace H := Option.bind_eq_some_iff.mp H
          obtain ⟨⟨t486, t487, t488, t489, t490, t491⟩, A110, H⟩ := H
          replace H : (some (t486, t487, t488, t489, t490, t491)) = some (r1, r2, r3, r4, r5, r6) := H
          have A11 := Aside0.mk A110
          clear A110
          simp only [Option.some.injEq, Prod.mk.injEq] at H
          obtain ⟨rfl, rfl, rfl, rfl, rfl, rfl⟩ := H
          go_wp2_with (first | ((with_reducible refine gate_callee (f := 94) rfl ?_); refine goesL_ (some 37) rfl rfl Try.func94 (by kernel_rfl) rfl #[.int .i64 (wrap64 ((wrap64 ((wrap64 (a0)) + 6)) + 96)), .bool (decide ((wrap64 ((Int.tmod (wrap64 (a0)) 16) + 6)) > 15)), .bool true] rfl (by (try simp only [List.map_toArray, List.map_cons, List.map_nil]); first | done | rfl | (simp only [List.length_drop, List.length_take]; rfl) | (simp only [IntKind.wrap_u8, IntKind.wrap_u32, Int.emod_add_emod, Int.add_emod_emod] <;> rfl)) ?_; (with_reducible refine (pidginref01_told.calls kj2 (wrap64 ((wrap64 ((wrap64 (a0)) + 6)) + 96)) (decide ((wrap64 ((Int.tmod (wrap64 (a0)) 16) + 6)) > 15)) true t486 t487 t488 t489 t490 t491 _ A11.out).mono ?_); rintro e w12 ⟨rfl, hb⟩; refine ⟨_, rfl, ?_⟩; have n0_ := Aside0.mk (blk_below (g := gb484) (o := .cells #[.bool a1_0, .bool a1_1, .bool a1_2, .bool a1_3, .bool a1_4] 24 (0, 0)) (by (with_reducible repeat (first | refine blk_drewN ?_ _ | refine blk_drew ?_ | refine blk_alloc ?_ _)); exact BK484.out) hb); have n1_ := Aside0.mk (blk_below (g := gb485) (o := .cells #[.bool false, .bool false, .bool false, .bool false, .bool false] 24 (0, 0)) (by (with_reducible repeat (first | refine blk_drewN ?_ _ | refine blk_drew ?_ | refine blk_alloc ?_ _)); exact BK485.out) hb); have n2_ := Aside0.mk (below_step (by repeat (first | (with_reducible first | exact HB.out | apply below_alloc | apply pw_below_drewN | apply below_drew1 | refine below_set ?_ GE484.out | refine below_set ?_ GE485.out) | exact HB.out)) hb); clear BK484; clear BK485; clear HB; have BK484 := n0_; have BK485 := n1_; have HB := n2_; clear n0_ n1_ n2_; (try clear hb); (try clear hb2); (try clear hk); (try clear hi); have hnb13 := NB485_484.out; have hnc13 := NB484_485.out; have hcz14_0 : w12.cell? ⟨gb485, 0, none⟩ = some (.bool false) := (blk_cell BK485.out 0).trans rfl; have hcz14_1 : w12.cell? ⟨gb485, 1, none⟩ = some (.bool false) := (blk_cell BK485.out 1).trans rfl; have hcz14_2 : w12.cell? ⟨gb485, 2, none⟩ = some (.bool false) := (blk_cell BK485.out 2).trans rfl; have hcz14_3 : w12.cell? ⟨gb485, 3, none⟩ = some (.bool false) := (blk_cell BK485.out 3).trans rfl; have hcz14_4 : w12.cell? ⟨gb485, 4, none⟩ = some (.bool false) := (blk_cell BK485.out 4).trans rfl; have hfz14_0 := blk_frozen BK485.out 0; have hfz14_1 := blk_frozen BK485.out 1; have hfz14_2 := blk_frozen BK485.out 2; have hfz14_3 := blk_frozen BK485.out 3; have hfz14_4 := blk_frozen BK485.out 4))
          refine bodyPost_ret (results_tc rfl _ _ gb485 24 #[.bool t487, .bool t488, .bool t489, .bool t490, .bool t491] (0, 0) _ rfl (by (with_reducible repeat (first | refine blk_drewN ?_ _ | refine blk_drew ?_ | refine blk_alloc ?_ _)); refine blk_put (cs := #[.bool t487, .bool t488, .bool t489, .bool t490, .bool false]) ?_ 4 _ rfl; (with_reducible repeat (first | refine blk_drewN ?_ _ | refine blk_drew ?_ | refine blk_alloc ?_ _)); refine blk_put (cs := #[.bool t487, .bool t488, .bool t489, .bool false, .bool false]) ?_ 3 _ rfl; (with_reducible repeat (first | refine blk_drewN ?_ _ | refine blk_drew ?_ | refine blk_alloc ?_ _)); refine blk_put (cs := #[.bool t487, .bool t488, .bool false, .bool false, .bool false]) ?_ 2 _ rfl; (with_reducible repeat (first | refine blk_drewN ?_ _ | refine blk_drew ?_ | refine blk_alloc ?_ _)); refine blk_put (cs := #[.bool t487, .bool false, .bool false, .bool false, .bool false]) ?_ 1 _ rfl; (with_reducible repeat (first | refine blk_drewN ?_ _ | refine blk_drew ?_ | refine blk_alloc ?_ _)); refine blk_put (cs := #[.bool false, .bool false, .bool false, .bool false, .bool false]) ?_ 0 _ rfl; (with_reducible repeat (first | refine blk_drewN ?_ _ | refine blk_drew ?_ | refine blk_alloc ?_ _)); exact BK485.out) Try.underlying24 rfl (by kernel_rfl)) rfl ?_
          exact ⟨by first | rfl | (simp [errW_none, errW_some] <;> rfl) | (simp [*, errW_none, errW_some] <;> rfl), by repeat (first | (with_reducible first | exact HB.out | apply below_alloc | apply pw_below_drewN | apply below_drew1 | refine below_set ?_ GE484.out | refine below_set ?_ GE485.out) | exact HB.out)⟩
        · rw [if_neg c10] at H
          have c10b0 : decide (9 < (wrap64 (Int.tdiv (wrap64 ((wrap64 (a0)) + 6)) 16))) = false := decide_eq_false c10
          clear c10
          by_cases c15 : a1_4 = true
          · subst c15
            have H1 : ((pidginref01_told.f kj2 (wrap64 ((wrap64 ((wrap64 (a0)) + 6)) + 96)) (decide ((wrap64 ((Int.tmod (wrap64 (a0)) 16) + 6)) > 15)) true).bind fun bt492 => (some (bt492.1, bt492.2.1, bt492.2.2.1, bt492.2.2.2.1, bt492.2.2.2.2.1, bt492.2.2.2.2.2))) = some (r1, r2, r3, r4, r5, r6) := by rw [if_pos rfl] at H; exact H
            clear H
            have H := H1
            clear H1
            replace H := Option.bind_eq_some_iff.mp H
            obtain ⟨⟨t492, t493, t494, t495, t496, t497⟩, A160, H⟩ := H
            replace H : (some (t492, t493, t494, t495, t496, t497)) = some (r1, r2, r3, r4, r5, r6) := H
            have A16 := Aside0.mk A160
            clear A160
            simp only [Option.some.injEq, Prod.mk.injEq] at H
            obtain ⟨rfl, rfl, rfl, rfl, rfl, rfl⟩ := H
            have hnb17 := NB484_485.out
            have hnc17 := NB485_484.out
            have hcz18_0 : wc.cell? ⟨gb484, 0, none⟩ = some (.bool a1_0) := (blk_cell BK484.out 0).trans rfl
            have hcz18_1 : wc.cell? ⟨gb484, 1, none⟩ = some (.bool a1_1) := (blk_cell BK484.out 1).trans rfl
            have hcz18_2 : wc.cell? ⟨gb484, 2, none⟩ = some (.bool a1_2) := (blk_cell BK484.out 2).trans rfl
            have hcz18_3 : wc.cell? ⟨gb484, 3, none⟩ = some (.bool a1_3) := (blk_cell BK484.out 3).trans rfl
            have hcz18_4 : wc.cell? ⟨gb484, 4, none⟩ = some (.bool true) := (blk_cell BK484.out 4).trans rfl
            have hfz18_0 := blk_frozen BK484.out 0
            have hfz18_1 := blk_frozen BK484.out 1
            have hfz18_2 := blk_frozen BK484.out 2
            have hfz18_3 := blk_frozen BK484.out 3
            have hfz18_4 := blk_frozen BK484.out 4
            go_wp2_with (first | ((with_reducible refine gate_callee (f := 94) rfl ?_); refine goesL_ (some 37) rfl rfl Try.func94 (by kernel_rfl) rfl #[.int .i64 (wrap64 ((wrap64 ((wrap64 (a0)) + 6)) + 96)), .bool (decide ((wrap64 ((Int.tmod (wrap64 (a0)) 16) + 6)) > 15)), .bool true] rfl (by (try simp only [List.map_toArray, List.map_cons, List.map_nil]); first | done | rfl | (simp only [List.length_drop, List.length_take]; rfl) | (simp only [IntKind.wrap_u8, IntKind.wrap_u32, Int.emod_add_emod, Int.add_emod_emod] <;> rfl)) ?_; (with_reducible refine (pidginref01_told.calls kj2 (wrap64 ((wrap64 ((wrap64 (a0)) + 6)) + 96)) (decide ((wrap64 ((Int.tmod (wrap64 (a0)) 16) + 6)) > 15)) true t492 t493 t494 t495 t496 t497 _ A16.out).mono ?_); rintro e w19 ⟨rfl, hb⟩; refine ⟨_, rfl, ?_⟩; have n0_ := Aside0.mk (blk_below (g := gb484) (o := .cells #[.bool a1_0, .bool a1_1, .bool a1_2, .bool a1_3, .bool true] 24 (0, 0)) (by (with_reducible repeat (first | refine blk_drewN ?_ _ | refine blk_drew ?_ | refine blk_alloc ?_ _)); exact BK484.out) hb); have n1_ := Aside0.mk (blk_below (g := gb485) (o := .cells #[.bool false, .bool false, .bool false, .bool false, .bool false] 24 (0, 0)) (by (with_reducible repeat (first | refine blk_drewN ?_ _ | refine blk_drew ?_ | refine blk_alloc ?_ _)); exact BK485.out) hb); have n2_ := Aside0.mk (below_step (by repeat (first | (with_reducible first | exact HB.out | apply below_alloc | apply pw_below_drewN | apply below_drew1 | refine below_set ?_ GE484.out | refine below_set ?_ GE485.out) | exact HB.out)) hb); clear BK484; clear BK485; clear HB; have BK484 := n0_; have BK485 := n1_; have HB := n2_; clear n0_ n1_ n2_; (try clear hb); (try clear hb2); (try clear hk); (try clear hi); have hcz20_0 : w19.cell? ⟨gb485, 0, none⟩ = some (.bool false) := (blk_cell BK485.out 0).trans rfl; have hcz20_1 : w19.cell? ⟨gb485, 1, none⟩ = some (.bool false) := (blk_cell BK485.out 1).trans rfl; have hcz20_2 : w19.cell? ⟨gb485, 2, none⟩ = some (.bool false) := (blk_cell BK485.out 2).trans rfl; have hcz20_3 : w19.cell? ⟨gb485, 3, none⟩ = some (.bool false) := (blk_cell BK485.out 3).trans rfl; have hcz20_4 : w19.cell? ⟨gb485, 4, none⟩ = some (.bool false) := (blk_cell BK485.out 4).trans rfl; have hfz20_0 := blk_frozen BK485.out 0; have hfz20_1 := blk_frozen BK485.out 1; have hfz20_2 := blk_frozen BK485.out 2; have hfz20_3 := blk_frozen BK485.out 3; have hfz20_4 := blk_frozen BK485.out 4))
            refine bodyPost_ret (results_tc rfl _ _ gb485 24 #[.bool t493, .bool t494, .bool t495, .bool t496, .bool t497] (0, 0) _ rfl (by (with_reducible repeat (first | refine blk_drewN ?_ _ | refine blk_drew ?_ | refine blk_alloc ?_ _)); refine blk_put (cs := #[.bool t493, .bool t494, .bool t495, .bool t496, .bool false]) ?_ 4 _ rfl; (with_reducible repeat (first | refine blk_drewN ?_ _ | refine blk_drew ?_ | refine blk_alloc ?_ _)); refine blk_put (cs := #[.bool t493, .bool t494, .bool t495, .bool false, .bool false]) ?_ 3 _ rfl; (with_reducible repeat (first | refine blk_drewN ?_ _ | refine blk_drew ?_ | refine blk_alloc ?_ _)); refine blk_put (cs := #[.bool t493, .bool t494, .bool false, .bool false, .bool false]) ?_ 2 _ rfl; (with_reducible repeat (first | refine blk_drewN ?_ _ | refine blk_drew ?_ | refine blk_alloc ?_ _)); refine blk_put (cs := #[.bool t493, .bool false, .bool false, .bool false, .bool false]) ?_ 1 _ rfl; (with_reducible repeat (first | refine blk_drewN ?_ _ | refine blk_drew ?_ | refine blk_alloc ?_ _)); refine blk_put (cs := #[.bool false, .bool false, .bool false, .bool false, .bool false]) ?_ 0 _ rfl; (with_reducible repeat (first | refine blk_drewN ?_ _ | refine blk_drew ?_ | refine blk_alloc ?_ _)); exact BK485.out) Try.underlying24 rfl (by kernel_rfl)) rfl ?_
            exact ⟨by first | rfl | (simp [errW_none, errW_some] <;> rfl) | (simp [*, errW_none, errW_some] <;> rfl), by repeat (first | (with_reducible first | exact HB.out | apply below_alloc | apply pw_below_drewN | apply below_drew1 | refine below_set ?_ GE484.out | refine below_set ?_ GE485.out) | exact HB.out)⟩
          · replace c15 := Bool.eq_false_iff.mpr c15
            subst c15
            have H1 : ((pidginref01_told.f kj2 (wrap64 ((wrap64 (a0)) + 6)) (decide ((wrap64 ((Int.tmod (wrap64 (a0)) 16) + 6)) > 15)) false).bind fun bt498 => (some (bt498.1, bt498.2.1, bt498.2.2.1, bt498.2.2.2.1, bt498.2.2.2.2.1, bt498.2.2.2.2.2))) = some (r1, r2, r3, r4, r5, r6) := by rw [if_neg (show ¬ (false = true) by decide)] at H; exact H
            clear H
            have H := H1
            clear H1
            replace H := Option.bind_eq_some_iff.mp H
            obtain ⟨⟨t498, t499, t500, t501, t502, t503⟩, A210, H⟩ := H
            replace H : (some (t498, t499, t500, t501, t502, t503)) = some (r1, r2, r3, r4, r5, r6) := H
            have A21 := Aside0.mk A210
            clear A210
            simp only [Option.some.injEq, Prod.mk.injEq] at H
            obtain ⟨rfl, rfl, rfl, rfl, rfl, rfl⟩ := H
            have hnb22 := NB484_485.out
            have hnc22 := NB485_484.out
            have hcz23_0 : wc.cell? ⟨gb484, 0, none⟩ = some (.bool a1_0) := (blk_cell BK484.out 0).trans rfl
            have hcz23_1 : wc.cell? ⟨gb484, 1, none⟩ = some (.bool a1_1) := (blk_cell BK484.out 1).trans rfl
            have hcz23_2 : wc.cell? ⟨gb484, 2, none⟩ = some (.bool a1_2) := (blk_cell BK484.out 2).trans rfl
            have hcz23_3 : wc.cell? ⟨gb484, 3, none⟩ = some (.bool a1_3) := (blk_cell BK484.out 3).trans rfl
            have hcz23_4 : wc.cell? ⟨gb484, 4, none⟩ = some (.bool false) := (blk_cell BK484.out 4).trans rfl
            have hfz23_0 := blk_frozen BK484.out 0
            have hfz23_1 := blk_frozen BK484.out 1
            have hfz23_2 := blk_frozen BK484.out 2
            have hfz23_3 := blk_frozen BK484.out 3
            have hfz23_4 := blk_frozen BK484.out 4
            go_wp2_with (first | ((with_reducible refine gate_callee (f := 94) rfl ?_); refine goesL_ (some 37) rfl rfl Try.func94 (by kernel_rfl) rfl #[.int .i64 (wrap64 ((wrap64 (a0)) + 6)), .bool (decide ((wrap64 ((Int.tmod (wrap64 (a0)) 16) + 6)) > 15)), .bool false] rfl (by (try simp only [List.map_toArray, List.map_cons, List.map_nil]); first | done | rfl | (simp only [List.length_drop, List.length_take]; rfl) | (simp only [IntKind.wrap_u8, IntKind.wrap_u32, Int.emod_add_emod, Int.add_emod_emod] <;> rfl)) ?_; (with_reducible refine (pidginref01_told.calls kj2 (wrap64 ((wrap64 (a0)) + 6)) (decide ((wrap64 ((Int.tmod (wrap64 (a0)) 16) + 6)) > 15)) false t498 t499 t500 t501 t502 t503 _ A21.out).mono ?_); rintro e w24 ⟨rfl, hb⟩; refine ⟨_, rfl, ?_⟩; have n0_ := Aside0.mk (blk_below (g := gb484) (o := .cells #[.bool a1_0, .bool a1_1, .bool a1_2, .bool a1_3, .bool false] 24 (0, 0)) (by (with_reducible repeat (first | refine blk_drewN ?_ _ | refine blk_drew ?_ | refine blk_alloc ?_ _)); exact BK484.out) hb); have n1_ := Aside0.mk (blk_below (g := gb485) (o := .cells #[.bool false, .bool false, .bool false, .bool false, .bool false] 24 (0, 0)) (by (with_reducible repeat (first | refine blk_drewN ?_ _ | refine blk_drew ?_ | refine blk_alloc ?_ _)); exact BK485.out) hb); have n2_ := Aside0.mk (below_step (by repeat (first | (with_reducible first | exact HB.out | apply below_alloc | apply pw_below_drewN | apply below_drew1 | refine below_set ?_ GE484.out | refine below_set ?_ GE485.out) | exact HB.out)) hb); clear BK484; clear BK485; clear HB; have BK484 := n0_; have BK485 := n1_; have HB := n2_; clear n0_ n1_ n2_; (try clear hb); (try clear hb2); (try clear hk); (try clear hi); have hcz25_0 : w24.cell? ⟨gb485, 0, none⟩ = some (.bool false) := (blk_cell BK485.out 0).trans rfl; have hcz25_1 : w24.cell? ⟨gb485, 1, none⟩ = some (.bool false) := (blk_cell BK485.out 1).trans rfl; have hcz25_2 : w24.cell? ⟨gb485, 2, none⟩ = some (.bool false) := (blk_cell BK485.out 2).trans rfl; have hcz25_3 : w24.cell? ⟨gb485, 3, none⟩ = some (.bool false) := (blk_cell BK485.out 3).trans rfl; have hcz25_4 : w24.cell? ⟨gb485, 4, none⟩ = some (.bool false) := (blk_cell BK485.out 4).trans rfl; have hfz25_0 := blk_frozen BK485.out 0; have hfz25_1 := blk_frozen BK485.out 1; have hfz25_2 := blk_frozen BK485.out 2; have hfz25_3 := blk_frozen BK485.out 3; have hfz25_4 := blk_frozen BK485.out 4))
            refine bodyPost_ret (results_tc rfl _ _ gb485 24 #[.bool t499, .bool t500, .bool t501, .bool t502, .bool t503] (0, 0) _ rfl (by (with_reducible repeat (first | refine blk_drewN ?_ _ | refine blk_drew ?_ | refine blk_alloc ?_ _)); refine blk_put (cs := #[.bool t499, .bool t500, .bool t501, .bool t502, .bool false]) ?_ 4 _ rfl; (with_reducible repeat (first | refine blk_drewN ?_ _ | refine blk_drew ?_ | refine blk_alloc ?_ _)); refine blk_put (cs := #[.bool t499, .bool t500, .bool t501, .bool false, .bool false]) ?_ 3 _ rfl; (with_reducible repeat (first | refine blk_drewN ?_ _ | refine blk_drew ?_ | refine blk_alloc ?_ _)); refine blk_put (cs := #[.bool t499, .bool t500, .bool false, .bool false, .bool false]) ?_ 2 _ rfl; (with_reducible repeat (first | refine blk_drewN ?_ _ | refine blk_drew ?_ | refine blk_alloc ?_ _)); refine blk_put (cs := #[.bool t499, .bool false, .bool false, .bool false, .bool false]) ?_ 1 _ rfl; (with_reducible repeat (first | refine blk_drewN ?_ _ | refine blk_drew ?_ | refine blk_alloc ?_ _)); refine blk_put (cs := #[.bool false, .bool false, .bool false, .bool false, .bool false]) ?_ 0 _ rfl; (with_reducible repeat (first | refine blk_drewN ?_ _ | refine blk_drew ?_ | refine blk_alloc ?_ _)); exact BK485.out) Try.underlying24 rfl (by kernel_rfl)) rfl ?_
            exact ⟨by first | rfl | (simp [errW_none, errW_some] <;> rfl) | (simp [*, errW_none, errW_some] <;> rfl), by repeat (first | (with_reducible first | exact HB.out | apply below_alloc | apply pw_below_drewN | apply below_drew1 | refine below_set ?_ GE484.out | refine below_set ?_ GE485.out) | exact HB.out)⟩
      · replace c9 := Bool.eq_false_iff.mpr c9
        subst c9
        have H1 : (if (wrap64 (Int.tdiv (wrap64 (a0)) 16)) > 9 then ((pidginref01_told.f kj2 (wrap64 ((wrap64 (a0)) + 96)) false true).bind fun bt504 => (some (bt504.1, bt504.2.1, bt504.2.2.1, bt504.2.2.2.1, bt504.2.2.2.2.1, bt504.2.2.2.2.2))) else (if a1_4 = true then ((pidginref01_told.f kj2 (wrap64 ((wrap64 (a0)) + 96)) false a1_4).bind fun bt510 => (some (bt510.1, bt510.2.1, bt510.2.2.1, bt510.2.2.2.1, bt510.2.2.2.2.1, bt510.2.2.2.2.2))) else ((pidginref01_told.f kj2 (wrap64 (a0)) false a1_4).bind fun bt516 => (some (bt516.1, bt516.2.1, bt516.2.2.1, bt516.2.2.2.1, bt516.2.2.2.2.1, bt516.2.2.2.2.2))))) = some (r1, r2, r3, r4, r5, r6) := by rw [if_neg (show ¬ (false = true) by decide)] at H; exact H
        clear H
        have H := H1
        clear H1
        by_cases c26 : (wrap64 (Int.tdiv (wrap64 (a0)) 16)) > 9
        · rw [if_pos c26] at H
          have c26b0 : decide (9 < (wrap64 (Int.tdiv (wrap64 (a0)) 16))) = true := decide_eq_true c26
          clear c26
          replace H := Option.bind_eq_some_iff.mp H
          obtain ⟨⟨t504, t505, t506, t507, t508, t509⟩, A270, H⟩ := H
          replace H : (some (t504, t505, t506, t507, t508, t509)) = some (r1, r2, r3, r4, r5, r6) := H
          have A27 := Aside0.mk A270
          clear A270
          simp only [Option.some.injEq, Prod.mk.injEq] at H
          obtain ⟨rfl, rfl, rfl, rfl, rfl, rfl⟩ := H
          go_wp2_with (first | ((with_reducible refine gate_callee (f := 94) rfl ?_); refine goesL_ (some 37) rfl rfl Try.func94 (by kernel_rfl) rfl #[.int .i64 (wrap64 ((wrap64 (a0)) + 96)), .bool false, .bool true] rfl (by (try simp only [List.map_toArray, List.map_cons, List.map_nil]); first | done | rfl | (simp only [List.length_drop, List.length_take]; rfl) | (simp only [IntKind.wrap_u8, IntKind.wrap_u32, Int.emod_add_emod, Int.add_emod_emod] <;> rfl)) ?_; (with_reducible refine (pidginref01_told.calls kj2 (wrap64 ((wrap64 (a0)) + 96)) false true t504 t505 t506 t507 t508 t509 _ A27.out).mono ?_); rintro e w28 ⟨rfl, hb⟩; refine ⟨_, rfl, ?_⟩; have n0_ := Aside0.mk (blk_below (g := gb484) (o := .cells #[.bool a1_0, .bool a1_1, .bool a1_2, .bool a1_3, .bool a1_4] 24 (0, 0)) (by (with_reducible repeat (first | refine blk_drewN ?_ _ | refine blk_drew ?_ | refine blk_alloc ?_ _)); exact BK484.out) hb); have n1_ := Aside0.mk (blk_below (g := gb485) (o := .cells #[.bool false, .bool false, .bool false, .bool false, .bool false] 24 (0, 0)) (by (with_reducible repeat (first | refine blk_drewN ?_ _ | refine blk_drew ?_ | refine blk_alloc ?_ _)); exact BK485.out) hb); have n2_ := Aside0.mk (below_step (by repeat (first | (with_reducible first | exact HB.out | apply below_alloc | apply pw_below_drewN | apply below_drew1 | refine below_set ?_ GE484.out | refine below_set ?_ GE485.out) | exact HB.out)) hb); clear BK484; clear BK485; clear HB; have BK484 := n0_; have BK485 := n1_; have HB := n2_; clear n0_ n1_ n2_; (try clear hb); (try clear hb2); (try clear hk); (try clear hi); have hnb29 := NB485_484.out; have hnc29 := NB484_485.out; have hcz30_0 : w28.cell? ⟨gb485, 0, none⟩ = some (.bool false) := (blk_cell BK485.out 0).trans rfl; have hcz30_1 : w28.cell? ⟨gb485, 1, none⟩ = some (.bool false) := (blk_cell BK485.out 1).trans rfl; have hcz30_2 : w28.cell? ⟨gb485, 2, none⟩ = some (.bool false) := (blk_cell BK485.out 2).trans rfl; have hcz30_3 : w28.cell? ⟨gb485, 3, none⟩ = some (.bool false) := (blk_cell BK485.out 3).trans rfl; have hcz30_4 : w28.cell? ⟨gb485, 4, none⟩ = some (.bool false) := (blk_cell BK485.out 4).trans rfl; have hfz30_0 := blk_frozen BK485.out 0; have hfz30_1 := blk_frozen BK485.out 1; have hfz30_2 := blk_frozen BK485.out 2; have hfz30_3 := blk_frozen BK485.out 3; have hfz30_4 := blk_frozen BK485.out 4))
          refine bodyPost_ret (results_tc rfl _ _ gb485 24 #[.bool t505, .bool t506, .bool t507, .bool t508, .bool t509] (0, 0) _ rfl (by (with_reducible repeat (first | refine blk_drewN ?_ _ | refine blk_drew ?_ | refine blk_alloc ?_ _)); refine blk_put (cs := #[.bool t505, .bool t506, .bool t507, .bool t508, .bool false]) ?_ 4 _ rfl; (with_reducible repeat (first | refine blk_drewN ?_ _ | refine blk_drew ?_ | refine blk_alloc ?_ _)); refine blk_put (cs := #[.bool t505, .bool t506, .bool t507, .bool false, .bool false]) ?_ 3 _ rfl; (with_reducible repeat (first | refine blk_drewN ?_ _ | refine blk_drew ?_ | refine blk_alloc ?_ _)); refine blk_put (cs := #[.bool t505, .bool t506, .bool false, .bool false, .bool false]) ?_ 2 _ rfl; (with_reducible repeat (first | refine blk_drewN ?_ _ | refine blk_drew ?_ | refine blk_alloc ?_ _)); refine blk_put (cs := #[.bool t505, .bool false, .bool false, .bool false, .bool false]) ?_ 1 _ rfl; (with_reducible repeat (first | refine blk_drewN ?_ _ | refine blk_drew ?_ | refine blk_alloc ?_ _)); refine blk_put (cs := #[.bool false, .bool false, .bool false, .bool false, .bool false]) ?_ 0 _ rfl; (with_reducible repeat (first | refine blk_drewN ?_ _ | refine blk_drew ?_ | refine blk_alloc ?_ _)); exact BK485.out) Try.underlying24 rfl (by kernel_rfl)) rfl ?_
          exact ⟨by first | rfl | (simp [errW_none, errW_some] <;> rfl) | (simp [*, errW_none, errW_some] <;> rfl), by repeat (first | (with_reducible first | exact HB.out | apply below_alloc | apply pw_below_drewN | apply below_drew1 | refine below_set ?_ GE484.out | refine below_set ?_ GE485.out) | exact HB.out)⟩
        · rw [if_neg c26] at H
          have c26b0 : decide (9 < (wrap64 (Int.tdiv (wrap64 (a0)) 16))) = false := decide_eq_false c26
          clear c26
          by_cases c31 : a1_4 = true
          · subst c31
            have H1 : ((pidginref01_told.f kj2 (wrap64 ((wrap64 (a0)) + 96)) false true).bind fun bt510 => (some (bt510.1, bt510.2.1, bt510.2.2.1, bt510.2.2.2.1, bt510.2.2.2.2.1, bt510.2.2.2.2.2))) = some (r1, r2, r3, r4, r5, r6) := by rw [if_pos rfl] at H; exact H
            clear H
            have H := H1
            clear H1
            replace H := Option.bind_eq_some_iff.mp H
            obtain ⟨⟨t510, t511, t512, t513, t514, t515⟩, A320, H⟩ := H
            replace H : (some (t510, t511, t512, t513, t514, t515)) = some (r1, r2, r3, r4, r5, r6) := H
            have A32 := Aside0.mk A320
            clear A320
            simp only [Option.some.injEq, Prod.mk.injEq] at H
            obtain ⟨rfl, rfl, rfl, rfl, rfl, rfl⟩ := H
            have hnb33 := NB484_485.out
            have hnc33 := NB485_484.out
            have hcz34_0 : wc.cell? ⟨gb484, 0, none⟩ = some (.bool a1_0) := (blk_cell BK484.out 0).trans rfl
            have hcz34_1 : wc.cell? ⟨gb484, 1, none⟩ = some (.bool a1_1) := (blk_cell BK484.out 1).trans rfl
            have hcz34_2 : wc.cell? ⟨gb484, 2, none⟩ = some (.bool a1_2) := (blk_cell BK484.out 2).trans rfl
            have hcz34_3 : wc.cell? ⟨gb484, 3, none⟩ = some (.bool a1_3) := (blk_cell BK484.out 3).trans rfl
            have hcz34_4 : wc.cell? ⟨gb484, 4, none⟩ = some (.bool true) := (blk_cell BK484.out 4).trans rfl
            have hfz34_0 := blk_frozen BK484.out 0
            have hfz34_1 := blk_frozen BK484.out 1
            have hfz34_2 := blk_frozen BK484.out 2
            have hfz34_3 := blk_frozen BK484.out 3
            have hfz34_4 := blk_frozen BK484.out 4
            go_wp2_with (first | ((with_reducible refine gate_callee (f := 94) rfl ?_); refine goesL_ (some 37) rfl rfl Try.func94 (by kernel_rfl) rfl #[.int .i64 (wrap64 ((wrap64 (a0)) + 96)), .bool false, .bool true] rfl (by (try simp only [List.map_toArray, List.map_cons, List.map_nil]); first | done | rfl | (simp only [List.length_drop, List.length_take]; rfl) | (simp only [IntKind.wrap_u8, IntKind.wrap_u32, Int.emod_add_emod, Int.add_emod_emod] <;> rfl)) ?_; (with_reducible refine (pidginref01_told.calls kj2 (wrap64 ((wrap64 (a0)) + 96)) false true t510 t511 t512 t513 t514 t515 _ A32.out).mono ?_); rintro e w35 ⟨rfl, hb⟩; refine ⟨_, rfl, ?_⟩; have n0_ := Aside0.mk (blk_below (g := gb484) (o := .cells #[.bool a1_0, .bool a1_1, .bool a1_2, .bool a1_3, .bool true] 24 (0, 0)) (by (with_reducible repeat (first | refine blk_drewN ?_ _ | refine blk_drew ?_ | refine blk_alloc ?_ _)); exact BK484.out) hb); have n1_ := Aside0.mk (blk_below (g := gb485) (o := .cells #[.bool false, .bool false, .bool false, .bool false, .bool false] 24 (0, 0)) (by (with_reducible repeat (first | refine blk_drewN ?_ _ | refine blk_drew ?_ | refine blk_alloc ?_ _)); exact BK485.out) hb); have n2_ := Aside0.mk (below_step (by repeat (first | (with_reducible first | exact HB.out | apply below_alloc | apply pw_below_drewN | apply below_drew1 | refine below_set ?_ GE484.out | refine below_set ?_ GE485.out) | exact HB.out)) hb); clear BK484; clear BK485; clear HB; have BK484 := n0_; have BK485 := n1_; have HB := n2_; clear n0_ n1_ n2_; (try clear hb); (try clear hb2); (try clear hk); (try clear hi); have hcz36_0 : w35.cell? ⟨gb485, 0, none⟩ = some (.bool false) := (blk_cell BK485.out 0).trans rfl; have hcz36_1 : w35.cell? ⟨gb485, 1, none⟩ = some (.bool false) := (blk_cell BK485.out 1).trans rfl; have hcz36_2 : w35.cell? ⟨gb485, 2, none⟩ = some (.bool false) := (blk_cell BK485.out 2).trans rfl; have hcz36_3 : w35.cell? ⟨gb485, 3, none⟩ = some (.bool false) := (blk_cell BK485.out 3).trans rfl; have hcz36_4 : w35.cell? ⟨gb485, 4, none⟩ = some (.bool false) := (blk_cell BK485.out 4).trans rfl; have hfz36_0 := blk_frozen BK485.out 0; have hfz36_1 := blk_frozen BK485.out 1; have hfz36_2 := blk_frozen BK485.out 2; have hfz36_3 := blk_frozen BK485.out 3; have hfz36_4 := blk_frozen BK485.out 4))
            refine bodyPost_ret (results_tc rfl _ _ gb485 24 #[.bool t511, .bool t512, .bool t513, .bool t514, .bool t515] (0, 0) _ rfl (by (with_reducible repeat (first | refine blk_drewN ?_ _ | refine blk_drew ?_ | refine blk_alloc ?_ _)); refine blk_put (cs := #[.bool t511, .bool t512, .bool t513, .bool t514, .bool false]) ?_ 4 _ rfl; (with_reducible repeat (first | refine blk_drewN ?_ _ | refine blk_drew ?_ | refine blk_alloc ?_ _)); refine blk_put (cs := #[.bool t511, .bool t512, .bool t513, .bool false, .bool false]) ?_ 3 _ rfl; (with_reducible repeat (first | refine blk_drewN ?_ _ | refine blk_drew ?_ | refine blk_alloc ?_ _)); refine blk_put (cs := #[.bool t511, .bool t512, .bool false, .bool false, .bool false]) ?_ 2 _ rfl; (with_reducible repeat (first | refine blk_drewN ?_ _ | refine blk_drew ?_ | refine blk_alloc ?_ _)); refine blk_put (cs := #[.bool t511, .bool false, .bool false, .bool false, .bool false]) ?_ 1 _ rfl; (with_reducible repeat (first | refine blk_drewN ?_ _ | refine blk_drew ?_ | refine blk_alloc ?_ _)); refine blk_put (cs := #[.bool false, .bool false, .bool false, .bool false, .bool false]) ?_ 0 _ rfl; (with_reducible repeat (first | refine blk_drewN ?_ _ | refine blk_drew ?_ | refine blk_alloc ?_ _)); exact BK485.out) Try.underlying24 rfl (by kernel_rfl)) rfl ?_
            exact ⟨by first | rfl | (simp [errW_none, errW_some] <;> rfl) | (simp [*, errW_none, errW_some] <;> rfl), by repeat (first | (with_reducible first | exact HB.out | apply below_alloc | apply pw_below_drewN | apply below_drew1 | refine below_set ?_ GE484.out | refine below_set ?_ GE485.out) | exact HB.out)⟩
          · replace c31 := Bool.eq_false_iff.mpr c31
            subst c31
            have H1 : ((pidginref01_told.f kj2 (wrap64 (a0)) false false).bind fun bt516 => (some (bt516.1, bt516.2.1, bt516.2.2.1, bt516.2.2.2.1, bt516.2.2.2.2.1, bt516.2.2.2.2.2))) = some (r1, r2, r3, r4, r5, r6) := by rw [if_neg (show ¬ (false = true) by decide)] at H; exact H
            clear H
            have H := H1
            clear H1
            replace H := Option.bind_eq_some_iff.mp H
            obtain ⟨⟨t516, t517, t518, t519, t520, t521⟩, A370, H⟩ := H
            replace H : (some (t516, t517, t518, t519, t520, t521)) = some (r1, r2, r3, r4, r5, r6) := H
            have A37 := Aside0.mk A370
            clear A370
            simp only [Option.some.injEq, Prod.mk.injEq] at H
            obtain ⟨rfl, rfl, rfl, rfl, rfl, rfl⟩ := H
            have hnb38 := NB484_485.out
            have hnc38 := NB485_484.out
            have hcz39_0 : wc.cell? ⟨gb484, 0, none⟩ = some (.bool a1_0) := (blk_cell BK484.out 0).trans rfl
            have hcz39_1 : wc.cell? ⟨gb484, 1, none⟩ = some (.bool a1_1) := (blk_cell BK484.out 1).trans rfl
            have hcz39_2 : wc.cell? ⟨gb484, 2, none⟩ = some (.bool a1_2) := (blk_cell BK484.out 2).trans rfl
            have hcz39_3 : wc.cell? ⟨gb484, 3, none⟩ = some (.bool a1_3) := (blk_cell BK484.out 3).trans rfl
            have hcz39_4 : wc.cell? ⟨gb484, 4, none⟩ = some (.bool false) := (blk_cell BK484.out 4).trans rfl
            have hfz39_0 := blk_frozen BK484.out 0
            have hfz39_1 := blk_frozen BK484.out 1
            have hfz39_2 := blk_frozen BK484.out 2
            have hfz39_3 := blk_frozen BK484.out 3
            have hfz39_4 := blk_frozen BK484.out 4
            go_wp2_with (first | ((with_reducible refine gate_callee (f := 94) rfl ?_); refine goesL_ (some 37) rfl rfl Try.func94 (by kernel_rfl) rfl #[.int .i64 (wrap64 (a0)), .bool false, .bool false] rfl (by (try simp only [List.map_toArray, List.map_cons, List.map_nil]); first | done | rfl | (simp only [List.length_drop, List.length_take]; rfl) | (simp only [IntKind.wrap_u8, IntKind.wrap_u32, Int.emod_add_emod, Int.add_emod_emod] <;> rfl)) ?_; (with_reducible refine (pidginref01_told.calls kj2 (wrap64 (a0)) false false t516 t517 t518 t519 t520 t521 _ A37.out).mono ?_); rintro e w40 ⟨rfl, hb⟩; refine ⟨_, rfl, ?_⟩; have n0_ := Aside0.mk (blk_below (g := gb484) (o := .cells #[.bool a1_0, .bool a1_1, .bool a1_2, .bool a1_3, .bool false] 24 (0, 0)) (by (with_reducible repeat (first | refine blk_drewN ?_ _ | refine blk_drew ?_ | refine blk_alloc ?_ _)); exact BK484.out) hb); have n1_ := Aside0.mk (blk_below (g := gb485) (o := .cells #[.bool false, .bool false, .bool false, .bool false, .bool false] 24 (0, 0)) (by (with_reducible repeat (first | refine blk_drewN ?_ _ | refine blk_drew ?_ | refine blk_alloc ?_ _)); exact BK485.out) hb); have n2_ := Aside0.mk (below_step (by repeat (first | (with_reducible first | exact HB.out | apply below_alloc | apply pw_below_drewN | apply below_drew1 | refine below_set ?_ GE484.out | refine below_set ?_ GE485.out) | exact HB.out)) hb); clear BK484; clear BK485; clear HB; have BK484 := n0_; have BK485 := n1_; have HB := n2_; clear n0_ n1_ n2_; (try clear hb); (try clear hb2); (try clear hk); (try clear hi); have hcz41_0 : w40.cell? ⟨gb485, 0, none⟩ = some (.bool false) := (blk_cell BK485.out 0).trans rfl; have hcz41_1 : w40.cell? ⟨gb485, 1, none⟩ = some (.bool false) := (blk_cell BK485.out 1).trans rfl; have hcz41_2 : w40.cell? ⟨gb485, 2, none⟩ = some (.bool false) := (blk_cell BK485.out 2).trans rfl; have hcz41_3 : w40.cell? ⟨gb485, 3, none⟩ = some (.bool false) := (blk_cell BK485.out 3).trans rfl; have hcz41_4 : w40.cell? ⟨gb485, 4, none⟩ = some (.bool false) := (blk_cell BK485.out 4).trans rfl; have hfz41_0 := blk_frozen BK485.out 0; have hfz41_1 := blk_frozen BK485.out 1; have hfz41_2 := blk_frozen BK485.out 2; have hfz41_3 := blk_frozen BK485.out 3; have hfz41_4 := blk_frozen BK485.out 4))
            refine bodyPost_ret (results_tc rfl _ _ gb485 24 #[.bool t517, .bool t518, .bool t519, .bool t520, .bool t521] (0, 0) _ rfl (by (with_reducible repeat (first | refine blk_drewN ?_ _ | refine blk_drew ?_ | refine blk_alloc ?_ _)); refine blk_put (cs := #[.bool t517, .bool t518, .bool t519, .bool t520, .bool false]) ?_ 4 _ rfl; (with_reducible repeat (first | refine blk_drewN ?_ _ | refine blk_drew ?_ | refine blk_alloc ?_ _)); refine blk_put (cs := #[.bool t517, .bool t518, .bool t519, .bool false, .bool false]) ?_ 3 _ rfl; (with_reducible repeat (first | refine blk_drewN ?_ _ | refine blk_drew ?_ | refine blk_alloc ?_ _)); refine blk_put (cs := #[.bool t517, .bool t518, .bool false, .bool false, .bool false]) ?_ 2 _ rfl; (with_reducible repeat (first | refine blk_drewN ?_ _ | refine blk_drew ?_ | refine blk_alloc ?_ _)); refine blk_put (cs := #[.bool t517, .bool false, .bool false, .bool false, .bool false]) ?_ 1 _ rfl; (with_reducible repeat (first | refine blk_drewN ?_ _ | refine blk_drew ?_ | refine blk_alloc ?_ _)); refine blk_put (cs := #[.bool false, .bool false, .bool false, .bool false, .bool false]) ?_ 0 _ rfl; (with_reducible repeat (first | refine blk_drewN ?_ _ | refine blk_drew ?_ | refine blk_alloc ?_ _)); exact BK485.out) Try.underlying24 rfl (by kernel_rfl)) rfl ?_
            exact ⟨by first | rfl | (simp [errW_none, errW_some] <;> rfl) | (simp [*, errW_none, errW_some] <;> rfl), by repeat (first | (with_reducible first | exact HB.out | apply below_alloc | apply pw_below_drewN | apply below_drew1 | refine below_set ?_ GE484.out | refine below_set ?_ GE485.out) | exact HB.out)⟩
def pidginref01_Turn.f (a0 : Int) (a1 : Int) (a2 : Bool) : Option (Int × Bool) := if a0 = 0 then (some ((Go.bits .and .i64 (wrap64 ((wrap64 ((wrap64 (a1)) * 2)) + (wrap64 (Int.tdiv (wrap64 (a1)) 128)))) 255) % 256, decide ((wrap64 (a1)) ≥ 128))) else (if a0 = 1 then (some ((wrap64 ((wrap64 (Int.tdiv (wrap64 (a1)) 2)) + (wrap64 ((Int.tmod (wrap64 (a1)) 2) * 128)))) % 256, ((Int.tmod (wrap64 (a1)) 2) == 1))) else (if a0 = 2 then ((pidginref01_bit.f a2 1).bind fun t522 => (some ((Go.bits .and .i64 (wrap64 ((wrap64 ((wrap64 (a1)) * 2)) + t522)) 255) % 256, decide ((wrap64 (a1)) ≥ 128)))) else (if a0 = 3 then ((pidginref01_bit.f a2 128).bind fun t523 => (some ((wrap64 ((wrap64 (Int.tdiv (wrap64 (a1)) 2)) + t523)) % 256, ((Int.tmod (wrap64 (a1)) 2) == 1)))) else (some (a1, a2)))))
set_option maxHeartbeats 8000000 in
set_option maxRecDepth 100000 in
theorem pidginref01_Turn.calls (a0 : Int) (a1 : Int) (a2 : Bool) (r1 : Int) (r2 : Bool) (w : World) (h : pidginref01_Turn.f a0 a1 a2 = some (r1, r2)) :
    Calls Try.prog 92 #[.int .i64 a0, .int .u8 a1, .bool a2] w fun e w' => e = .returned (.tuple #[.int .u8 r1, .bool r2]) ∧ Drawn0 w w' := by
  have H : (if a0 = 0 then (some ((Go.bits .and .i64 (wrap64 ((wrap64 ((wrap64 (a1)) * 2)) + (wrap64 (Int.tdiv (wrap64 (a1)) 128)))) 255) % 256, decide ((wrap64 (a1)) ≥ 128))) else (if a0 = 1 then (some ((wrap64 ((wrap64 (Int.tdiv (wrap64 (a1)) 2)) + (wrap64 ((Int.tmod (wrap64 (a1)) 2) * 128)))) % 256, ((Int.tmod (wrap64 (a1)) 2) == 1))) else (if a0 = 2 then ((pidginref01_bit.f a2 1).bind fun t522 => (some ((Go.bits .and .i64 (wrap64 ((wrap64 ((wrap64 (a1)) * 2)) + t522)) 255) % 256, decide ((wrap64 (a1)) ≥ 128)))) else (if a0 = 3 then ((pidginref01_bit.f a2 128).bind fun t523 => (some ((wrap64 ((wrap64 (Int.tdiv (wrap64 (a1)) 2)) + t523)) % 256, ((Int.tmod (wrap64 (a1)) 2) == 1)))) else (some (a1, a2)))))) = some (r1, r2) := h
  clear h
  by_cases c4 : a0 = 0
  · rw [if_pos c4] at H
    have c4b0 : (a0 == 0) = true := beq_iff_eq.mpr c4
    have c4b1 : (a0 != 0) = false := bne_eq_false_iff_eq.mpr c4
    clear c4
    simp only [Option.some.injEq, Prod.mk.injEq] at H
    obtain ⟨rfl, rfl⟩ := H
    go_enter Try.func92, Try.ntmps92
    go_wp2
    go_ret2
    exact ⟨by first | rfl | (simp; done) | (simp [*]; done), by repeat (first | exact Drawn0.refl _ | apply Drawn0.step)⟩
  · rw [if_neg c4] at H
    have c4b0 : (a0 == 0) = false := beq_eq_false_iff_ne.mpr c4
    have c4b1 : (a0 != 0) = true := bne_iff_ne.mpr c4
    by_cases c5 : a0 = 1
    · rw [if_pos c5] at H
      have c5b0 : (a0 == 1) = true := beq_iff_eq.mpr c5
      have c5b1 : (a0 != 1) = false := bne_eq_false_iff_eq.mpr c5
      clear c5
      simp only [Option.some.injEq, Prod.mk.injEq] at H
      obtain ⟨rfl, rfl⟩ := H
      go_enter Try.func92, Try.ntmps92
      go_wp2
      go_ret2
      exact ⟨by first | rfl | (simp; done) | (simp [*]; done), by repeat (first | exact Drawn0.refl _ | apply Drawn0.step)⟩
    · rw [if_neg c5] at H
      have c5b0 : (a0 == 1) = false := beq_eq_false_iff_ne.mpr c5
      have c5b1 : (a0 != 1) = true := bne_iff_ne.mpr c5
      by_cases c6 : a0 = 2
      · rw [if_pos c6] at H
        have c6b0 : (a0 == 2) = true := beq_iff_eq.mpr c6
        have c6b1 : (a0 != 2) = false := bne_eq_false_iff_eq.mpr c6
        clear c6
        replace H := Option.bind_eq_some_iff.mp H
        obtain ⟨t522, A70, H⟩ := H
        replace H : (some ((Go.bits .and .i64 (wrap64 ((wrap64 ((wrap64 (a1)) * 2)) + t522)) 255) % 256, decide ((wrap64 (a1)) ≥ 128))) = some (r1, r2) := H
        have A7 := Aside0.mk A70
        clear A70
        simp only [Option.some.injEq, Prod.mk.injEq] at H
        obtain ⟨rfl, rfl⟩ := H
        go_enter Try.func92, Try.ntmps92
        go_wp2_with (first | ((with_reducible refine gate_callee (f := 93) rfl ?_); refine goesL_ (some 40) rfl rfl Try.func93 (by kernel_rfl) rfl #[.bool a2, .int .i64 1] rfl (by (try simp only [List.map_toArray, List.map_cons, List.map_nil]); first | done | rfl | (simp only [List.length_drop, List.length_take]; rfl) | (simp only [IntKind.wrap_u8, IntKind.wrap_u32, Int.emod_add_emod, Int.add_emod_emod] <;> rfl)) ?_; (with_reducible refine (pidginref01_bit.calls a2 1 t522 _ A7.out).mono ?_); rintro e w' ⟨rfl, ⟨nd, rfl⟩⟩; refine ⟨_, rfl, ?_⟩))
        go_ret2
        exact ⟨by first | rfl | (simp; done) | (simp [*]; done), by repeat (first | exact Drawn0.refl _ | apply Drawn0.step)⟩
      · rw [if_neg c6] at H
        have c6b0 : (a0 == 2) = false := beq_eq_false_iff_ne.mpr c6
        have c6b1 : (a0 != 2) = true := bne_iff_ne.mpr c6
        by_cases c8 : a0 = 3
        · rw [if_pos c8] at H
          have c8b0 : (a0 == 3) = true := beq_iff_eq.mpr c8
          have c8b1 : (a0 != 3) = false := bne_eq_false_iff_eq.mpr c8
          clear c8
          replace H := Option.bind_eq_some_iff.mp H
          obtain ⟨t523, A90, H⟩ := H
          replace H : (some ((wrap64 ((wrap64 (Int.tdiv (wrap64 (a1)) 2)) + t523)) % 256, ((Int.tmod (wrap64 (a1)) 2) == 1))) = some (r1, r2) := H
          have A9 := Aside0.mk A90
          clear A90
          simp only [Option.some.injEq, Prod.mk.injEq] at H
          obtain ⟨rfl, rfl⟩ := H
          go_enter Try.func92, Try.ntmps92
          go_wp2_with (first | ((with_reducible refine gate_callee (f := 93) rfl ?_); refine goesL_ (some 51) rfl rfl Try.func93 (by kernel_rfl) rfl #[.bool a2, .int .i64 128] rfl (by (try simp only [List.map_toArray, List.map_cons, List.map_nil]); first | done | rfl | (simp only [List.length_drop, List.length_take]; rfl) | (simp only [IntKind.wrap_u8, IntKind.wrap_u32, Int.emod_add_emod, Int.add_emod_emod] <;> rfl)) ?_; (with_reducible refine (pidginref01_bit.calls a2 128 t523 _ A9.out).mono ?_); rintro e w' ⟨rfl, ⟨nd, rfl⟩⟩; refine ⟨_, rfl, ?_⟩))
          go_ret2
          exact ⟨by first | rfl | (simp; done) | (simp [*]; done), by repeat (first | exact Drawn0.refl _ | apply Drawn0.step)⟩
        · rw [if_neg c8] at H
          have c8b0 : (a0 == 3) = false := beq_eq_false_iff_ne.mpr c8
          have c8b1 : (a0 != 3) = true := bne_iff_ne.mpr c8
          simp only [Option.some.injEq, Prod.mk.injEq] at H
          obtain ⟨rfl, rfl⟩ := H
          go_enter Try.func92, Try.ntmps92
          go_wp2
          go_ret2
          exact ⟨by first | rfl | (simp; done) | (simp [*]; done), by repeat (first | exact Drawn0.refl _ | apply Drawn0.step)⟩
def pidginref01_Xor.f (k : Nat) (a0 : Int) (a1 : Int) : Option (Int × Bool × Bool × Bool × Bool × Bool) := (pidginref01_told.f k (wrap64 (Go.bits .xor .u8 a0 a1)) false false).bind fun bt533 => (some (bt533.1, bt533.2.1, bt533.2.2.1, bt533.2.2.2.1, bt533.2.2.2.2.1, bt533.2.2.2.2.2))
theorem pidginref01_Xor.mono : ∀ a0 a1 k, LeO (pidginref01_Xor.f k a0 a1) (pidginref01_Xor.f (k + 1) a0 a1) := by
  intro a0 a1 k
  unfold pidginref01_Xor.f
  repeat' first
      | (with_reducible exact pidginref01_told.mono _ _ _ _)
      | (with_reducible exact LeO.refl _)
      | (with_reducible exact LeO.none _)
      | (with_reducible refine LeO.ite ?_ ?_)
      | (with_reducible refine LeO.bind ?_ (fun _ => ?_))
      | exact pidginref01_told.mono _ _ _ _
      | exact LeO.none _
      | refine LeO.ite ?_ ?_
      | refine LeO.bind ?_ (fun _ => ?_)
set_option maxHeartbeats 8000000 in
set_option maxRecDepth 100000 in
theorem pidginref01_Xor.calls (k : Nat) (a0 : Int) (a1 : Int) (r1 : Int) (r2 : Bool) (r3 : Bool) (r4 : Bool) (r5 : Bool) (r6 : Bool) (w : World) (h : pidginref01_Xor.f k a0 a1 = some (r1, r2, r3, r4, r5, r6)) :
    Calls Try.prog 70 #[.int .u8 a0, .int .u8 a1] w fun e w' => e = .returned (.tuple #[.int .u8 r1, .agg #[.bool r2, .bool r3, .bool r4, .bool r5, .bool r6]]) ∧ Below w.heap.size w w' := by
  have hu24 := Try.underlying24
  have HB := Aside0.mk (Below.refl w.heap.size w)
  have H : ((pidginref01_told.f k (wrap64 (Go.bits .xor .u8 a0 a1)) false false).bind fun bt533 => (some (bt533.1, bt533.2.1, bt533.2.2.1, bt533.2.2.2.1, bt533.2.2.2.2.1, bt533.2.2.2.2.2))) = some (r1, r2, r3, r4, r5, r6) := h
  clear h
  replace H := Option.bind_eq_some_iff.mp H
  obtain ⟨⟨t533, t534, t535, t536, t537, t538⟩, A30, H⟩ := H
  replace H : (some (t533, t534, t535, t536, t537, t538)) = some (r1, r2, r3, r4, r5, r6) := H
  have A3 := Aside0.mk A30
  clear A30
  simp only [Option.some.injEq, Prod.mk.injEq] at H
  obtain ⟨rfl, rfl, rfl, rfl, rfl, rfl⟩ := H
  go_enter Try.func70, Try.ntmps70
  go_wp2_with (first | ((with_reducible refine gate_dst (N := 5) rfl ?_); refine box_event ?hg (N := 5) ?hd (cs := #[.bool false, .bool false, .bool false, .bool false, .bool false]) (t := 24) ?hr ?_; (case hd => rfl); (case hg => rfl); (case hr => first | (go_simp; done) | (go_simp; rfl)); intro gb532 hg w4 hbox hb; have n0_ := Aside0.mk (below_step (by repeat (first | (with_reducible first | exact HB.out | apply below_alloc | apply pw_below_drewN | apply below_drew1) | exact HB.out)) hb); have n1_ := Aside0.mk (hbox); have n2_ := Aside0.mk ((by rw [hg]; exact (below_size (by repeat (first | (with_reducible first | exact HB.out | apply below_alloc | apply pw_below_drewN | apply below_drew1) | exact HB.out))) : w.heap.size ≤ gb532)); have n3_ := Aside0.mk ((by rw [hg]; exact (below_size (by repeat (first | (with_reducible first | exact HB.out | apply below_alloc | apply pw_below_drewN | apply below_drew1) | exact HB.out))) : w.heap.size ≤ gb532)); clear HB; have HB := n0_; have BK532 := n1_; have GW532 := n2_; have GE532 := n3_; clear n0_ n1_ n2_ n3_; clear hb hbox hg) | ((with_reducible refine gate_callee (f := 94) rfl ?_); refine goesL_ (some 10) rfl rfl Try.func94 (by kernel_rfl) rfl #[.int .i64 (wrap64 (Go.bits .xor .u8 a0 a1)), .bool false, .bool false] rfl (by (try simp only [List.map_toArray, List.map_cons, List.map_nil]); first | done | rfl | (simp only [List.length_drop, List.length_take]; rfl) | (simp only [IntKind.wrap_u8, IntKind.wrap_u32, Int.emod_add_emod, Int.add_emod_emod] <;> rfl)) ?_; (with_reducible refine (pidginref01_told.calls k (wrap64 (Go.bits .xor .u8 a0 a1)) false false t533 t534 t535 t536 t537 t538 _ A3.out).mono ?_); rintro e w5 ⟨rfl, hb⟩; refine ⟨_, rfl, ?_⟩; have n0_ := Aside0.mk (blk_below (g := gb532) (o := .cells #[.bool false, .bool false, .bool false, .bool false, .bool false] 24 (0, 0)) (by (with_reducible repeat (first | refine blk_drewN ?_ _ | refine blk_drew ?_ | refine blk_alloc ?_ _)); exact BK532.out) hb); have n1_ := Aside0.mk (below_step (by repeat (first | (with_reducible first | exact HB.out | apply below_alloc | apply pw_below_drewN | apply below_drew1 | refine below_set ?_ GE532.out) | exact HB.out)) hb); clear BK532; clear HB; have BK532 := n0_; have HB := n1_; clear n0_ n1_; (try clear hb); (try clear hb2); (try clear hk); (try clear hi); have hcz6_0 : w5.cell? ⟨gb532, 0, none⟩ = some (.bool false) := (blk_cell BK532.out 0).trans rfl; have hcz6_1 : w5.cell? ⟨gb532, 1, none⟩ = some (.bool false) := (blk_cell BK532.out 1).trans rfl; have hcz6_2 : w5.cell? ⟨gb532, 2, none⟩ = some (.bool false) := (blk_cell BK532.out 2).trans rfl; have hcz6_3 : w5.cell? ⟨gb532, 3, none⟩ = some (.bool false) := (blk_cell BK532.out 3).trans rfl; have hcz6_4 : w5.cell? ⟨gb532, 4, none⟩ = some (.bool false) := (blk_cell BK532.out 4).trans rfl; have hfz6_0 := blk_frozen BK532.out 0; have hfz6_1 := blk_frozen BK532.out 1; have hfz6_2 := blk_frozen BK532.out 2; have hfz6_3 := blk_frozen BK532.out 3; have hfz6_4 := blk_frozen BK532.out 4))
  refine bodyPost_ret (results_tc rfl _ _ gb532 24 #[.bool t534, .bool t535, .bool t536, .bool t537, .bool t538] (0, 0) _ rfl (by (with_reducible repeat (first | refine blk_drewN ?_ _ | refine blk_drew ?_ | refine blk_alloc ?_ _)); refine blk_put (cs := #[.bool t534, .bool t535, .bool t536, .bool t537, .bool false]) ?_ 4 _ rfl; (with_reducible repeat (first | refine blk_drewN ?_ _ | refine blk_drew ?_ | refine blk_alloc ?_ _)); refine blk_put (cs := #[.bool t534, .bool t535, .bool t536, .bool false, .bool false]) ?_ 3 _ rfl; (with_reducible repeat (first | refine blk_drewN ?_ _ | refine blk_drew ?_ | refine blk_alloc ?_ _)); refine blk_put (cs := #[.bool t534, .bool t535, .bool false, .bool false, .bool false]) ?_ 2 _ rfl; (with_reducible repeat (first | refine blk_drewN ?_ _ | refine blk_drew ?_ | refine blk_alloc ?_ _)); refine blk_put (cs := #[.bool t534, .bool false, .bool false, .bool false, .bool false]) ?_ 1 _ rfl; (with_reducible repeat (first | refine blk_drewN ?_ _ | refine blk_drew ?_ | refine blk_alloc ?_ _)); refine blk_put (cs := #[.bool false, .bool false, .bool false, .bool false, .bool false]) ?_ 0 _ rfl; (with_reducible repeat (first | refine blk_drewN ?_ _ | refine blk_drew ?_ | refine blk_alloc ?_ _)); exact BK532.out) Try.underlying24 rfl (by kernel_rfl)) rfl ?_
  exact ⟨by first | rfl | (simp [errW_none, errW_some] <;> rfl) | (simp [*, errW_none, errW_some] <;> rfl), by repeat (first | (with_reducible first | exact HB.out | apply below_alloc | apply pw_below_drewN | apply below_drew1 | refine below_set ?_ GE532.out) | exact HB.out)⟩
def pidginref01_Or.f (k : Nat) (a0 : Int) (a1 : Int) : Option (Int × Bool × Bool × Bool × Bool × Bool) := (pidginref01_told.f k (wrap64 (Go.bits .or .u8 a0 a1)) false false).bind fun bt540 => (some (bt540.1, bt540.2.1, bt540.2.2.1, bt540.2.2.2.1, bt540.2.2.2.2.1, bt540.2.2.2.2.2))
theorem pidginref01_Or.mono : ∀ a0 a1 k, LeO (pidginref01_Or.f k a0 a1) (pidginref01_Or.f (k + 1) a0 a1) := by
  intro a0 a1 k
  unfold pidginref01_Or.f
  repeat' first
      | (with_reducible exact pidginref01_told.mono _ _ _ _)
      | (with_reducible exact LeO.refl _)
      | (with_reducible exact LeO.none _)
      | (with_reducible refine LeO.ite ?_ ?_)
      | (with_reducible refine LeO.bind ?_ (fun _ => ?_))
      | exact pidginref01_told.mono _ _ _ _
      | exact LeO.none _
      | refine LeO.ite ?_ ?_
      | refine LeO.bind ?_ (fun _ => ?_)
set_option maxHeartbeats 8000000 in
set_option maxRecDepth 100000 in
theorem pidginref01_Or.calls (k : Nat) (a0 : Int) (a1 : Int) (r1 : Int) (r2 : Bool) (r3 : Bool) (r4 : Bool) (r5 : Bool) (r6 : Bool) (w : World) (h : pidginref01_Or.f k a0 a1 = some (r1, r2, r3, r4, r5, r6)) :
    Calls Try.prog 71 #[.int .u8 a0, .int .u8 a1] w fun e w' => e = .returned (.tuple #[.int .u8 r1, .agg #[.bool r2, .bool r3, .bool r4, .bool r5, .bool r6]]) ∧ Below w.heap.size w w' := by
  have hu24 := Try.underlying24
  have HB := Aside0.mk (Below.refl w.heap.size w)
  have H : ((pidginref01_told.f k (wrap64 (Go.bits .or .u8 a0 a1)) false false).bind fun bt540 => (some (bt540.1, bt540.2.1, bt540.2.2.1, bt540.2.2.2.1, bt540.2.2.2.2.1, bt540.2.2.2.2.2))) = some (r1, r2, r3, r4, r5, r6) := h
  clear h
  replace H := Option.bind_eq_some_iff.mp H
  obtain ⟨⟨t540, t541, t542, t543, t544, t545⟩, A30, H⟩ := H
  replace H : (some (t540, t541, t542, t543, t544, t545)) = some (r1, r2, r3, r4, r5, r6) := H
  have A3 := Aside0.mk A30
  clear A30
  simp only [Option.some.injEq, Prod.mk.injEq] at H
  obtain ⟨rfl, rfl, rfl, rfl, rfl, rfl⟩ := H
  go_enter Try.func71, Try.ntmps71
  go_wp2_with (first | ((with_reducible refine gate_dst (N := 5) rfl ?_); refine box_event ?hg (N := 5) ?hd (cs := #[.bool false, .bool false, .bool false, .bool false, .bool false]) (t := 24) ?hr ?_; (case hd => rfl); (case hg => rfl); (case hr => first | (go_simp; done) | (go_simp; rfl)); intro gb539 hg w4 hbox hb; have n0_ := Aside0.mk (below_step (by repeat (first | (with_reducible first | exact HB.out | apply below_alloc | apply pw_below_drewN | apply below_drew1) | exact HB.out)) hb); have n1_ := Aside0.mk (hbox); have n2_ := Aside0.mk ((by rw [hg]; exact (below_size (by repeat (first | (with_reducible first | exact HB.out | apply below_alloc | apply pw_below_drewN | apply below_drew1) | exact HB.out))) : w.heap.size ≤ gb539)); have n3_ := Aside0.mk ((by rw [hg]; exact (below_size (by repeat (first | (with_reducible first | exact HB.out | apply below_alloc | apply pw_below_drewN | apply below_drew1) | exact HB.out))) : w.heap.size ≤ gb539)); clear HB; have HB := n0_; have BK539 := n1_; have GW539 := n2_; have GE539 := n3_; clear n0_ n1_ n2_ n3_; clear hb hbox hg) | ((with_reducible refine gate_callee (f := 94) rfl ?_); refine goesL_ (some 10) rfl rfl Try.func94 (by kernel_rfl) rfl #[.int .i64 (wrap64 (Go.bits .or .u8 a0 a1)), .bool false, .bool false] rfl (by (try simp only [List.map_toArray, List.map_cons, List.map_nil]); first | done | rfl | (simp only [List.length_drop, List.length_take]; rfl) | (simp only [IntKind.wrap_u8, IntKind.wrap_u32, Int.emod_add_emod, Int.add_emod_emod] <;> rfl)) ?_; (with_reducible refine (pidginref01_told.calls k (wrap64 (Go.bits .or .u8 a0 a1)) false false t540 t541 t542 t543 t544 t545 _ A3.out).mono ?_); rintro e w5 ⟨rfl, hb⟩; refine ⟨_, rfl, ?_⟩; have n0_ := Aside0.mk (blk_below (g := gb539) (o := .cells #[.bool false, .bool false, .bool false, .bool false, .bool false] 24 (0, 0)) (by (with_reducible repeat (first | refine blk_drewN ?_ _ | refine blk_drew ?_ | refine blk_alloc ?_ _)); exact BK539.out) hb); have n1_ := Aside0.mk (below_step (by repeat (first | (with_reducible first | exact HB.out | apply below_alloc | apply pw_below_drewN | apply below_drew1 | refine below_set ?_ GE539.out) | exact HB.out)) hb); clear BK539; clear HB; have BK539 := n0_; have HB := n1_; clear n0_ n1_; (try clear hb); (try clear hb2); (try clear hk); (try clear hi); have hcz6_0 : w5.cell? ⟨gb539, 0, none⟩ = some (.bool false) := (blk_cell BK539.out 0).trans rfl; have hcz6_1 : w5.cell? ⟨gb539, 1, none⟩ = some (.bool false) := (blk_cell BK539.out 1).trans rfl; have hcz6_2 : w5.cell? ⟨gb539, 2, none⟩ = some (.bool false) := (blk_cell BK539.out 2).trans rfl; have hcz6_3 : w5.cell? ⟨gb539, 3, none⟩ = some (.bool false) := (blk_cell BK539.out 3).trans rfl; have hcz6_4 : w5.cell? ⟨gb539, 4, none⟩ = some (.bool false) := (blk_cell BK539.out 4).trans rfl; have hfz6_0 := blk_frozen BK539.out 0; have hfz6_1 := blk_frozen BK539.out 1; have hfz6_2 := blk_frozen BK539.out 2; have hfz6_3 := blk_frozen BK539.out 3; have hfz6_4 := blk_frozen BK539.out 4))
  refine bodyPost_ret (results_tc rfl _ _ gb539 24 #[.bool t541, .bool t542, .bool t543, .bool t544, .bool t545] (0, 0) _ rfl (by (with_reducible repeat (first | refine blk_drewN ?_ _ | refine blk_drew ?_ | refine blk_alloc ?_ _)); refine blk_put (cs := #[.bool t541, .bool t542, .bool t543, .bool t544, .bool false]) ?_ 4 _ rfl; (with_reducible repeat (first | refine blk_drewN ?_ _ | refine blk_drew ?_ | refine blk_alloc ?_ _)); refine blk_put (cs := #[.bool t541, .bool t542, .bool t543, .bool false, .bool false]) ?_ 3 _ rfl; (with_reducible repeat (first | refine blk_drewN ?_ _ | refine blk_drew ?_ | refine blk_alloc ?_ _)); refine blk_put (cs := #[.bool t541, .bool t542, .bool false, .bool false, .bool false]) ?_ 2 _ rfl; (with_reducible repeat (first | refine blk_drewN ?_ _ | refine blk_drew ?_ | refine blk_alloc ?_ _)); refine blk_put (cs := #[.bool t541, .bool false, .bool false, .bool false, .bool false]) ?_ 1 _ rfl; (with_reducible repeat (first | refine blk_drewN ?_ _ | refine blk_drew ?_ | refine blk_alloc ?_ _)); refine blk_put (cs := #[.bool false, .bool false, .bool false, .bool false, .bool false]) ?_ 0 _ rfl; (with_reducible repeat (first | refine blk_drewN ?_ _ | refine blk_drew ?_ | refine blk_alloc ?_ _)); exact BK539.out) Try.underlying24 rfl (by kernel_rfl)) rfl ?_
  exact ⟨by first | rfl | (simp [errW_none, errW_some] <;> rfl) | (simp [*, errW_none, errW_some] <;> rfl), by repeat (first | (with_reducible first | exact HB.out | apply below_alloc | apply pw_below_drewN | apply below_drew1 | refine below_set ?_ GE539.out) | exact HB.out)⟩
def pidginref10_Holds.f (a0 : Int) (a1_0 : Bool) (a1_1 : Bool) (a1_2 : Bool) (a1_3 : Bool) (a1_4 : Bool) : Option (Bool) := if a0 = 0 then (some (!a1_1)) else (if a0 = 1 then (some a1_1) else (if a0 = 2 then (some (!a1_4)) else (if a0 = 3 then (some a1_4) else (if a0 = 4 then (some (!a1_3)) else (if a0 = 5 then (some a1_3) else (if a0 = 6 then (some (!a1_0)) else (if a0 = 7 then (some a1_0) else (some false))))))))
set_option maxHeartbeats 8000000 in
set_option maxRecDepth 100000 in
theorem pidginref10_Holds.calls (a0 : Int) (a1_0 : Bool) (a1_1 : Bool) (a1_2 : Bool) (a1_3 : Bool) (a1_4 : Bool) (r : Bool) (w : World) (h : pidginref10_Holds.f a0 a1_0 a1_1 a1_2 a1_3 a1_4 = some r) :
    Calls Try.prog 21 #[.int .i64 a0, .agg #[.bool a1_0, .bool a1_1, .bool a1_2, .bool a1_3, .bool a1_4]] w fun e w' => e = .returned (.bool r) ∧ Below w.heap.size w w' := by
  have hu24 := Try.underlying24
  have HB := Aside0.mk (Below.refl w.heap.size w)
  have H : (if a0 = 0 then (some (!a1_1)) else (if a0 = 1 then (some a1_1) else (if a0 = 2 then (some (!a1_4)) else (if a0 = 3 then (some a1_4) else (if a0 = 4 then (some (!a1_3)) else (if a0 = 5 then (some a1_3) else (if a0 = 6 then (some (!a1_0)) else (if a0 = 7 then (some a1_0) else (some false))))))))) = some r := h
  clear h
  by_cases c3 : a0 = 0
  · rw [if_pos c3] at H
    have c3b0 : (a0 == 0) = true := beq_iff_eq.mpr c3
    have c3b1 : (a0 != 0) = false := bne_eq_false_iff_eq.mpr c3
    clear c3
    obtain rfl := Option.some.inj H
    go_enter Try.func21, Try.ntmps21
    go_wp2_with (first | ((with_reducible refine gate_dst (N := 3) rfl ?_); refine box_event ?hg (N := 3) ?hd (cs := #[.bool a1_0, .bool a1_1, .bool a1_2, .bool a1_3, .bool a1_4]) (t := 24) ?hr ?_; (case hd => rfl); (case hg => rfl); (case hr => first | (go_simp; done) | (go_simp; rfl)); intro gb554 hg w4 hbox hb; have n0_ := Aside0.mk (below_step (by repeat (first | (with_reducible first | exact HB.out | apply below_alloc | apply pw_below_drewN | apply below_drew1) | exact HB.out)) hb); have n1_ := Aside0.mk (hbox); have n2_ := Aside0.mk ((by rw [hg]; exact (below_size (by repeat (first | (with_reducible first | exact HB.out | apply below_alloc | apply pw_below_drewN | apply below_drew1) | exact HB.out))) : w.heap.size ≤ gb554)); have n3_ := Aside0.mk ((by rw [hg]; exact (below_size (by repeat (first | (with_reducible first | exact HB.out | apply below_alloc | apply pw_below_drewN | apply below_drew1) | exact HB.out))) : w.heap.size ≤ gb554)); clear HB; have HB := n0_; have BK554 := n1_; have GW554 := n2_; have GE554 := n3_; clear n0_ n1_ n2_ n3_; clear hb hbox hg; have hcz5_0 : w4.cell? ⟨gb554, 0, none⟩ = some (.bool a1_0) := (blk_cell BK554.out 0).trans rfl; have hcz5_1 : w4.cell? ⟨gb554, 1, none⟩ = some (.bool a1_1) := (blk_cell BK554.out 1).trans rfl; have hcz5_2 : w4.cell? ⟨gb554, 2, none⟩ = some (.bool a1_2) := (blk_cell BK554.out 2).trans rfl; have hcz5_3 : w4.cell? ⟨gb554, 3, none⟩ = some (.bool a1_3) := (blk_cell BK554.out 3).trans rfl; have hcz5_4 : w4.cell? ⟨gb554, 4, none⟩ = some (.bool a1_4) := (blk_cell BK554.out 4).trans rfl; have hfz5_0 := blk_frozen BK554.out 0; have hfz5_1 := blk_frozen BK554.out 1; have hfz5_2 := blk_frozen BK554.out 2; have hfz5_3 := blk_frozen BK554.out 3; have hfz5_4 := blk_frozen BK554.out 4))
    go_ret
    exact ⟨by first | rfl | (simp [errW_none, errW_some] <;> rfl) | (simp [*, errW_none, errW_some] <;> rfl), by repeat (first | (with_reducible first | exact HB.out | apply below_alloc | apply pw_below_drewN | apply below_drew1 | refine below_set ?_ GE554.out) | exact HB.out)⟩
  · rw [if_neg c3] at H
    have c3b0 : (a0 == 0) = false := beq_eq_false_iff_ne.mpr c3
    have c3b1 : (a0 != 0) = true := bne_iff_ne.mpr c3
    by_cases c6 : a0 = 1
    · rw [if_pos c6] at H
      have c6b0 : (a0 == 1) = true := beq_iff_eq.mpr c6
      have c6b1 : (a0 != 1) = false := bne_eq_false_iff_eq.mpr c6
      clear c6
      obtain rfl := Option.some.inj H
      go_enter Try.func21, Try.ntmps21
      go_wp2_with (first | ((with_reducible refine gate_dst (N := 3) rfl ?_); refine box_event ?hg (N := 3) ?hd (cs := #[.bool a1_0, .bool a1_1, .bool a1_2, .bool a1_3, .bool a1_4]) (t := 24) ?hr ?_; (case hd => rfl); (case hg => rfl); (case hr => first | (go_simp; done) | (go_simp; rfl)); intro gb554 hg w7 hbox hb; have n0_ := Aside0.mk (below_step (by repeat (first | (with_reducible first | exact HB.out | apply below_alloc | apply pw_below_drewN | apply below_drew1) | exact HB.out)) hb); have n1_ := Aside0.mk (hbox); have n2_ := Aside0.mk ((by rw [hg]; exact (below_size (by repeat (first | (with_reducible first | exact HB.out | apply below_alloc | apply pw_below_drewN | apply below_drew1) | exact HB.out))) : w.heap.size ≤ gb554)); have n3_ := Aside0.mk ((by rw [hg]; exact (below_size (by repeat (first | (with_reducible first | exact HB.out | apply below_alloc | apply pw_below_drewN | apply below_drew1) | exact HB.out))) : w.heap.size ≤ gb554)); clear HB; have HB := n0_; have BK554 := n1_; have GW554 := n2_; have GE554 := n3_; clear n0_ n1_ n2_ n3_; clear hb hbox hg; have hcz8_0 : w7.cell? ⟨gb554, 0, none⟩ = some (.bool a1_0) := (blk_cell BK554.out 0).trans rfl; have hcz8_1 : w7.cell? ⟨gb554, 1, none⟩ = some (.bool a1_1) := (blk_cell BK554.out 1).trans rfl; have hcz8_2 : w7.cell? ⟨gb554, 2, none⟩ = some (.bool a1_2) := (blk_cell BK554.out 2).trans rfl; have hcz8_3 : w7.cell? ⟨gb554, 3, none⟩ = some (.bool a1_3) := (blk_cell BK554.out 3).trans rfl; have hcz8_4 : w7.cell? ⟨gb554, 4, none⟩ = some (.bool a1_4) := (blk_cell BK554.out 4).trans rfl; have hfz8_0 := blk_frozen BK554.out 0; have hfz8_1 := blk_frozen BK554.out 1; have hfz8_2 := blk_frozen BK554.out 2; have hfz8_3 := blk_frozen BK554.out 3; have hfz8_4 := blk_frozen BK554.out 4))
      go_ret
      exact ⟨by first | rfl | (simp [errW_none, errW_some] <;> rfl) | (simp [*, errW_none, errW_some] <;> rfl), by repeat (first | (with_reducible first | exact HB.out | apply below_alloc | apply pw_below_drewN | apply below_drew1 | refine below_set ?_ GE554.out) | exact HB.out)⟩
    · rw [if_neg c6] at H
      have c6b0 : (a0 == 1) = false := beq_eq_false_iff_ne.mpr c6
      have c6b1 : (a0 != 1) = true := bne_iff_ne.mpr c6
      by_cases c9 : a0 = 2
      · rw [if_pos c9] at H
        have c9b0 : (a0 == 2) = true := beq_iff_eq.mpr c9
        have c9b1 : (a0 != 2) = false := bne_eq_false_iff_eq.mpr c9
        clear c9
        obtain rfl := Option.some.inj H
        go_enter Try.func21, Try.ntmps21
        go_wp2_with (first | ((with_reducible refine gate_dst (N := 3) rfl ?_); refine box_event ?hg (N := 3) ?hd (cs := #[.bool a1_0, .bool a1_1, .bool a1_2, .bool a1_3, .bool a1_4]) (t := 24) ?hr ?_; (case hd => rfl); (case hg => rfl); (case hr => first | (go_simp; done) | (go_simp; rfl)); intro gb554 hg w10 hbox hb; have n0_ := Aside0.mk (below_step (by repeat (first | (with_reducible first | exact HB.out | apply below_alloc | apply pw_below_drewN | apply below_drew1) | exact HB.out)) hb); have n1_ := Aside0.mk (hbox); have n2_ := Aside0.mk ((by rw [hg]; exact (below_size (by repeat (first | (with_reducible first | exact HB.out | apply below_alloc | apply pw_below_drewN | apply below_drew1) | exact HB.out))) : w.heap.size ≤ gb554)); have n3_ := Aside0.mk ((by rw [hg]; exact (below_size (by repeat (first | (with_reducible first | exact HB.out | apply below_alloc | apply pw_below_drewN | apply below_drew1) | exact HB.out))) : w.heap.size ≤ gb554)); clear HB; have HB := n0_; have BK554 := n1_; have GW554 := n2_; have GE554 := n3_; clear n0_ n1_ n2_ n3_; clear hb hbox hg; have hcz11_0 : w10.cell? ⟨gb554, 0, none⟩ = some (.bool a1_0) := (blk_cell BK554.out 0).trans rfl; have hcz11_1 : w10.cell? ⟨gb554, 1, none⟩ = some (.bool a1_1) := (blk_cell BK554.out 1).trans rfl; have hcz11_2 : w10.cell? ⟨gb554, 2, none⟩ = some (.bool a1_2) := (blk_cell BK554.out 2).trans rfl; have hcz11_3 : w10.cell? ⟨gb554, 3, none⟩ = some (.bool a1_3) := (blk_cell BK554.out 3).trans rfl; have hcz11_4 : w10.cell? ⟨gb554, 4, none⟩ = some (.bool a1_4) := (blk_cell BK554.out 4).trans rfl; have hfz11_0 := blk_frozen BK554.out 0; have hfz11_1 := blk_frozen BK554.out 1; have hfz11_2 := blk_frozen BK554.out 2; have hfz11_3 := blk_frozen BK554.out 3; have hfz11_4 := blk_frozen BK554.out 4))
        go_ret
        exact ⟨by first | rfl | (simp [errW_none, errW_some] <;> rfl) | (simp [*, errW_none, errW_some] <;> rfl), by repeat (first | (with_reducible first | exact HB.out | apply below_alloc | apply pw_below_drewN | apply below_drew1 | refine below_set ?_ GE554.out) | exact HB.out)⟩
      · rw [if_neg c9] at H
        have c9b0 : (a0 == 2) = false := beq_eq_false_iff_ne.mpr c9
        have c9b1 : (a0 != 2) = true := bne_iff_ne.mpr c9
        by_cases c12 : a0 = 3
        · rw [if_pos c12] at H
          have c12b0 : (a0 == 3) = true := beq_iff_eq.mpr c12
          have c12b1 : (a0 != 3) = false := bne_eq_false_iff_eq.mpr c12
          clear c12
          obtain rfl := Option.some.inj H
          go_enter Try.func21, Try.ntmps21
          go_wp2_with (first | ((with_reducible refine gate_dst (N := 3) rfl ?_); refine box_event ?hg (N := 3) ?hd (cs := #[.bool a1_0, .bool a1_1, .bool a1_2, .bool a1_3, .bool a1_4]) (t := 24) ?hr ?_; (case hd => rfl); (case hg => rfl); (case hr => first | (go_simp; done) | (go_simp; rfl)); intro gb554 hg w13 hbox hb; have n0_ := Aside0.mk (below_step (by repeat (first | (with_reducible first | exact HB.out | apply below_alloc | apply pw_below_drewN | apply below_drew1) | exact HB.out)) hb); have n1_ := Aside0.mk (hbox); have n2_ := Aside0.mk ((by rw [hg]; exact (below_size (by repeat (first | (with_reducible first | exact HB.out | apply below_alloc | apply pw_below_drewN | apply below_drew1) | exact HB.out))) : w.heap.size ≤ gb554)); have n3_ := Aside0.mk ((by rw [hg]; exact (below_size (by repeat (first | (with_reducible first | exact HB.out | apply below_alloc | apply pw_below_drewN | apply below_drew1) | exact HB.out))) : w.heap.size ≤ gb554)); clear HB; have HB := n0_; have BK554 := n1_; have GW554 := n2_; have GE554 := n3_; clear n0_ n1_ n2_ n3_; clear hb hbox hg; have hcz14_0 : w13.cell? ⟨gb554, 0, none⟩ = some (.bool a1_0) := (blk_cell BK554.out 0).trans rfl; have hcz14_1 : w13.cell? ⟨gb554, 1, none⟩ = some (.bool a1_1) := (blk_cell BK554.out 1).trans rfl; have hcz14_2 : w13.cell? ⟨gb554, 2, none⟩ = some (.bool a1_2) := (blk_cell BK554.out 2).trans rfl; have hcz14_3 : w13.cell? ⟨gb554, 3, none⟩ = some (.bool a1_3) := (blk_cell BK554.out 3).trans rfl; have hcz14_4 : w13.cell? ⟨gb554, 4, none⟩ = some (.bool a1_4) := (blk_cell BK554.out 4).trans rfl; have hfz14_0 := blk_frozen BK554.out 0; have hfz14_1 := blk_frozen BK554.out 1; have hfz14_2 := blk_frozen BK554.out 2; have hfz14_3 := blk_frozen BK554.out 3; have hfz14_4 := blk_frozen BK554.out 4))
          go_ret
          exact ⟨by first | rfl | (simp [errW_none, errW_some] <;> rfl) | (simp [*, errW_none, errW_some] <;> rfl), by repeat (first | (with_reducible first | exact HB.out | apply below_alloc | apply pw_below_drewN | apply below_drew1 | refine below_set ?_ GE554.out) | exact HB.out)⟩
        · rw [if_neg c12] at H
          have c12b0 : (a0 == 3) = false := beq_eq_false_iff_ne.mpr c12
          have c12b1 : (a0 != 3) = true := bne_iff_ne.mpr c12
          by_cases c15 : a0 = 4
          · rw [if_pos c15] at H
            have c15b0 : (a0 == 4) = true := beq_iff_eq.mpr c15
            have c15b1 : (a0 != 4) = false := bne_eq_false_iff_eq.mpr c15
            clear c15
            obtain rfl := Option.some.inj H
            go_enter Try.func21, Try.ntmps21
            go_wp2_with (first | ((with_reducible refine gate_dst (N := 3) rfl ?_); refine box_event ?hg (N := 3) ?hd (cs := #[.bool a1_0, .bool a1_1, .bool a1_2, .bool a1_3, .bool a1_4]) (t := 24) ?hr ?_; (case hd => rfl); (case hg => rfl); (case hr => first | (go_simp; done) | (go_simp; rfl)); intro gb554 hg w16 hbox hb; have n0_ := Aside0.mk (below_step (by repeat (first | (with_reducible first | exact HB.out | apply below_alloc | apply pw_below_drewN | apply below_drew1) | exact HB.out)) hb); have n1_ := Aside0.mk (hbox); have n2_ := Aside0.mk ((by rw [hg]; exact (below_size (by repeat (first | (with_reducible first | exact HB.out | apply below_alloc | apply pw_below_drewN | apply below_drew1) | exact HB.out))) : w.heap.size ≤ gb554)); have n3_ := Aside0.mk ((by rw [hg]; exact (below_size (by repeat (first | (with_reducible first | exact HB.out | apply below_alloc | apply pw_below_drewN | apply below_drew1) | exact HB.out))) : w.heap.size ≤ gb554)); clear HB; have HB := n0_; have BK554 := n1_; have GW554 := n2_; have GE554 := n3_; clear n0_ n1_ n2_ n3_; clear hb hbox hg; have hcz17_0 : w16.cell? ⟨gb554, 0, none⟩ = some (.bool a1_0) := (blk_cell BK554.out 0).trans rfl; have hcz17_1 : w16.cell? ⟨gb554, 1, none⟩ = some (.bool a1_1) := (blk_cell BK554.out 1).trans rfl; have hcz17_2 : w16.cell? ⟨gb554, 2, none⟩ = some (.bool a1_2) := (blk_cell BK554.out 2).trans rfl; have hcz17_3 : w16.cell? ⟨gb554, 3, none⟩ = some (.bool a1_3) := (blk_cell BK554.out 3).trans rfl; have hcz17_4 : w16.cell? ⟨gb554, 4, none⟩ = some (.bool a1_4) := (blk_cell BK554.out 4).trans rfl; have hfz17_0 := blk_frozen BK554.out 0; have hfz17_1 := blk_frozen BK554.out 1; have hfz17_2 := blk_frozen BK554.out 2; have hfz17_3 := blk_frozen BK554.out 3; have hfz17_4 := blk_frozen BK554.out 4))
            go_ret
            exact ⟨by first | rfl | (simp [errW_none, errW_some] <;> rfl) | (simp [*, errW_none, errW_some] <;> rfl), by repeat (first | (with_reducible first | exact HB.out | apply below_alloc | apply pw_below_drewN | apply below_drew1 | refine below_set ?_ GE554.out) | exact HB.out)⟩
          · rw [if_neg c15] at H
            have c15b0 : (a0 == 4) = false := beq_eq_false_iff_ne.mpr c15
            have c15b1 : (a0 != 4) = true := bne_iff_ne.mpr c15
            by_cases c18 : a0 = 5
            · rw [if_pos c18] at H
              have c18b0 : (a0 == 5) = true := beq_iff_eq.mpr c18
              have c18b1 : (a0 != 5) = false := bne_eq_false_iff_eq.mpr c18
              clear c18
              obtain rfl := Option.some.inj H
              go_enter Try.func21, Try.ntmps21
              go_wp2_with (first | ((with_reducible refine gate_dst (N := 3) rfl ?_); refine box_event ?hg (N := 3) ?hd (cs := #[.bool a1_0, .bool a1_1, .bool a1_2, .bool a1_3, .bool a1_4]) (t := 24) ?hr ?_; (case hd => rfl); (case hg => rfl); (case hr => first | (go_simp; done) | (go_simp; rfl)); intro gb554 hg w19 hbox hb; have n0_ := Aside0.mk (below_step (by repeat (first | (with_reducible first | exact HB.out | apply below_alloc | apply pw_below_drewN | apply below_drew1) | exact HB.out)) hb); have n1_ := Aside0.mk (hbox); have n2_ := Aside0.mk ((by rw [hg]; exact (below_size (by repeat (first | (with_reducible first | exact HB.out | apply below_alloc | apply pw_below_drewN | apply below_drew1) | exact HB.out))) : w.heap.size ≤ gb554)); have n3_ := Aside0.mk ((by rw [hg]; exact (below_size (by repeat (first | (with_reducible first | exact HB.out | apply below_alloc | apply pw_below_drewN | apply below_drew1) | exact HB.out))) : w.heap.size ≤ gb554)); clear HB; have HB := n0_; have BK554 := n1_; have GW554 := n2_; have GE554 := n3_; clear n0_ n1_ n2_ n3_; clear hb hbox hg; have hcz20_0 : w19.cell? ⟨gb554, 0, none⟩ = some (.bool a1_0) := (blk_cell BK554.out 0).trans rfl; have hcz20_1 : w19.cell? ⟨gb554, 1, none⟩ = some (.bool a1_1) := (blk_cell BK554.out 1).trans rfl; have hcz20_2 : w19.cell? ⟨gb554, 2, none⟩ = some (.bool a1_2) := (blk_cell BK554.out 2).trans rfl; have hcz20_3 : w19.cell? ⟨gb554, 3, none⟩ = some (.bool a1_3) := (blk_cell BK554.out 3).trans rfl; have hcz20_4 : w19.cell? ⟨gb554, 4, none⟩ = some (.bool a1_4) := (blk_cell BK554.out 4).trans rfl; have hfz20_0 := blk_frozen BK554.out 0; have hfz20_1 := blk_frozen BK554.out 1; have hfz20_2 := blk_frozen BK554.out 2; have hfz20_3 := blk_frozen BK554.out 3; have hfz20_4 := blk_frozen BK554.out 4))
              go_ret
              exact ⟨by first | rfl | (simp [errW_none, errW_some] <;> rfl) | (simp [*, errW_none, errW_some] <;> rfl), by repeat (first | (with_reducible first | exact HB.out | apply below_alloc | apply pw_below_drewN | apply below_drew1 | refine below_set ?_ GE554.out) | exact HB.out)⟩
            · rw [if_neg c18] at H
              have c18b0 : (a0 == 5) = false := beq_eq_false_iff_ne.mpr c18
              have c18b1 : (a0 != 5) = true := bne_iff_ne.mpr c18
              by_cases c21 : a0 = 6
              · rw [if_pos c21] at H
                have c21b0 : (a0 == 6) = true := beq_iff_eq.mpr c21
                have c21b1 : (a0 != 6) = false := bne_eq_false_iff_eq.mpr c21
                clear c21
                obtain rfl := Option.some.inj H
                go_enter Try.func21, Try.ntmps21
                go_wp2_with (first | ((with_reducible refine gate_dst (N := 3) rfl ?_); refine box_event ?hg (N := 3) ?hd (cs := #[.bool a1_0, .bool a1_1, .bool a1_2, .bool a1_3, .bool a1_4]) (t := 24) ?hr ?_; (case hd => rfl); (case hg => rfl); (case hr => first | (go_simp; done) | (go_simp; rfl)); intro gb554 hg w22 hbox hb; have n0_ := Aside0.mk (below_step (by repeat (first | (with_reducible first | exact HB.out | apply below_alloc | apply pw_below_drewN | apply below_drew1) | exact HB.out)) hb); have n1_ := Aside0.mk (hbox); have n2_ := Aside0.mk ((by rw [hg]; exact (below_size (by repeat (first | (with_reducible first | exact HB.out | apply below_alloc | apply pw_below_drewN | apply below_drew1) | exact HB.out))) : w.heap.size ≤ gb554)); have n3_ := Aside0.mk ((by rw [hg]; exact (below_size (by repeat (first | (with_reducible first | exact HB.out | apply below_alloc | apply pw_below_drewN | apply below_drew1) | exact HB.out))) : w.heap.size ≤ gb554)); clear HB; have HB := n0_; have BK554 := n1_; have GW554 := n2_; have GE554 := n3_; clear n0_ n1_ n2_ n3_; clear hb hbox hg; have hcz23_0 : w22.cell? ⟨gb554, 0, none⟩ = some (.bool a1_0) := (blk_cell BK554.out 0).trans rfl; have hcz23_1 : w22.cell? ⟨gb554, 1, none⟩ = some (.bool a1_1) := (blk_cell BK554.out 1).trans rfl; have hcz23_2 : w22.cell? ⟨gb554, 2, none⟩ = some (.bool a1_2) := (blk_cell BK554.out 2).trans rfl; have hcz23_3 : w22.cell? ⟨gb554, 3, none⟩ = some (.bool a1_3) := (blk_cell BK554.out 3).trans rfl; have hcz23_4 : w22.cell? ⟨gb554, 4, none⟩ = some (.bool a1_4) := (blk_cell BK554.out 4).trans rfl; have hfz23_0 := blk_frozen BK554.out 0; have hfz23_1 := blk_frozen BK554.out 1; have hfz23_2 := blk_frozen BK554.out 2; have hfz23_3 := blk_frozen BK554.out 3; have hfz23_4 := blk_frozen BK554.out 4))
                go_ret
                exact ⟨by first | rfl | (simp [errW_none, errW_some] <;> rfl) | (simp [*, errW_none, errW_some] <;> rfl), by repeat (first | (with_reducible first | exact HB.out | apply below_alloc | apply pw_below_drewN | apply below_drew1 | refine below_set ?_ GE554.out) | exact HB.out)⟩
              · rw [if_neg c21] at H
                have c21b0 : (a0 == 6) = false := beq_eq_false_iff_ne.mpr c21
                have c21b1 : (a0 != 6) = true := bne_iff_ne.mpr c21
                by_cases c24 : a0 = 7
                · rw [if_pos c24] at H
                  have c24b0 : (a0 == 7) = true := beq_iff_eq.mpr c24
                  have c24b1 : (a0 != 7) = false := bne_eq_false_iff_eq.mpr c24
                  clear c24
                  obtain rfl := Option.some.inj H
                  go_enter Try.func21, Try.ntmps21
                  go_wp2_with (first | ((with_reducible refine gate_dst (N := 3) rfl ?_); refine box_event ?hg (N := 3) ?hd (cs := #[.bool a1_0, .bool a1_1, .bool a1_2, .bool a1_3, .bool a1_4]) (t := 24) ?hr ?_; (case hd => rfl); (case hg => rfl); (case hr => first | (go_simp; done) | (go_simp; rfl)); intro gb554 hg w25 hbox hb; have n0_ := Aside0.mk (below_step (by repeat (first | (with_reducible first | exact HB.out | apply below_alloc | apply pw_below_drewN | apply below_drew1) | exact HB.out)) hb); have n1_ := Aside0.mk (hbox); have n2_ := Aside0.mk ((by rw [hg]; exact (below_size (by repeat (first | (with_reducible first | exact HB.out | apply below_alloc | apply pw_below_drewN | apply below_drew1) | exact HB.out))) : w.heap.size ≤ gb554)); have n3_ := Aside0.mk ((by rw [hg]; exact (below_size (by repeat (first | (with_reducible first | exact HB.out | apply below_alloc | apply pw_below_drewN | apply below_drew1) | exact HB.out))) : w.heap.size ≤ gb554)); clear HB; have HB := n0_; have BK554 := n1_; have GW554 := n2_; have GE554 := n3_; clear n0_ n1_ n2_ n3_; clear hb hbox hg; have hcz26_0 : w25.cell? ⟨gb554, 0, none⟩ = some (.bool a1_0) := (blk_cell BK554.out 0).trans rfl; have hcz26_1 : w25.cell? ⟨gb554, 1, none⟩ = some (.bool a1_1) := (blk_cell BK554.out 1).trans rfl; have hcz26_2 : w25.cell? ⟨gb554, 2, none⟩ = some (.bool a1_2) := (blk_cell BK554.out 2).trans rfl; have hcz26_3 : w25.cell? ⟨gb554, 3, none⟩ = some (.bool a1_3) := (blk_cell BK554.out 3).trans rfl; have hcz26_4 : w25.cell? ⟨gb554, 4, none⟩ = some (.bool a1_4) := (blk_cell BK554.out 4).trans rfl; have hfz26_0 := blk_frozen BK554.out 0; have hfz26_1 := blk_frozen BK554.out 1; have hfz26_2 := blk_frozen BK554.out 2; have hfz26_3 := blk_frozen BK554.out 3; have hfz26_4 := blk_frozen BK554.out 4))
                  go_ret
                  exact ⟨by first | rfl | (simp [errW_none, errW_some] <;> rfl) | (simp [*, errW_none, errW_some] <;> rfl), by repeat (first | (with_reducible first | exact HB.out | apply below_alloc | apply pw_below_drewN | apply below_drew1 | refine below_set ?_ GE554.out) | exact HB.out)⟩
                · rw [if_neg c24] at H
                  have c24b0 : (a0 == 7) = false := beq_eq_false_iff_ne.mpr c24
                  have c24b1 : (a0 != 7) = true := bne_iff_ne.mpr c24
                  obtain rfl := Option.some.inj H
                  go_enter Try.func21, Try.ntmps21
                  go_wp2_with (first | ((with_reducible refine gate_dst (N := 3) rfl ?_); refine box_event ?hg (N := 3) ?hd (cs := #[.bool a1_0, .bool a1_1, .bool a1_2, .bool a1_3, .bool a1_4]) (t := 24) ?hr ?_; (case hd => rfl); (case hg => rfl); (case hr => first | (go_simp; done) | (go_simp; rfl)); intro gb554 hg w27 hbox hb; have n0_ := Aside0.mk (below_step (by repeat (first | (with_reducible first | exact HB.out | apply below_alloc | apply pw_below_drewN | apply below_drew1) | exact HB.out)) hb); have n1_ := Aside0.mk (hbox); have n2_ := Aside0.mk ((by rw [hg]; exact (below_size (by repeat (first | (with_reducible first | exact HB.out | apply below_alloc | apply pw_below_drewN | apply below_drew1) | exact HB.out))) : w.heap.size ≤ gb554)); have n3_ := Aside0.mk ((by rw [hg]; exact (below_size (by repeat (first | (with_reducible first | exact HB.out | apply below_alloc | apply pw_below_drewN | apply below_drew1) | exact HB.out))) : w.heap.size ≤ gb554)); clear HB; have HB := n0_; have BK554 := n1_; have GW554 := n2_; have GE554 := n3_; clear n0_ n1_ n2_ n3_; clear hb hbox hg))
                  go_ret
                  exact ⟨by first | rfl | (simp [errW_none, errW_some] <;> rfl) | (simp [*, errW_none, errW_some] <;> rfl), by repeat (first | (with_reducible first | exact HB.out | apply below_alloc | apply pw_below_drewN | apply below_drew1 | refine below_set ?_ GE554.out) | exact HB.out)⟩
def pidginref06_Cond.f (a0 : Int) : Option (Int) := if a0 < 192 then (some (-1)) else (if (Go.bits .and .u8 a0 7) = 0 then (some (wrap64 (Go.bits .and .u8 (a0 / 8) 7))) else (if (Go.bits .and .u8 a0 7) = 2 then (some (wrap64 (Go.bits .and .u8 (a0 / 8) 7))) else (if (Go.bits .and .u8 a0 7) = 4 then (some (wrap64 (Go.bits .and .u8 (a0 / 8) 7))) else (some (-1)))))
set_option maxHeartbeats 8000000 in
set_option maxRecDepth 100000 in
theorem pidginref06_Cond.calls (a0 : Int) (r : Int) (w : World) (h : pidginref06_Cond.f a0 = some r) :
    Calls Try.prog 72 #[.int .u8 a0] w fun e w' => e = .returned (.int .i64 r) ∧ Drawn0 w w' := by
  have H : (if a0 < 192 then (some (-1)) else (if (Go.bits .and .u8 a0 7) = 0 then (some (wrap64 (Go.bits .and .u8 (a0 / 8) 7))) else (if (Go.bits .and .u8 a0 7) = 2 then (some (wrap64 (Go.bits .and .u8 (a0 / 8) 7))) else (if (Go.bits .and .u8 a0 7) = 4 then (some (wrap64 (Go.bits .and .u8 (a0 / 8) 7))) else (some (-1)))))) = some r := h
  clear h
  by_cases c2 : a0 < 192
  · rw [if_pos c2] at H
    have c2b0 : decide (a0 < 192) = true := decide_eq_true c2
    clear c2
    obtain rfl := Option.some.inj H
    go_enter Try.func72, Try.ntmps72
    go_wp2
    go_ret
    exact ⟨by first | rfl | (simp; done) | (simp [*]; done), by repeat (first | exact Drawn0.refl _ | apply Drawn0.step)⟩
  · rw [if_neg c2] at H
    have c2b0 : decide (a0 < 192) = false := decide_eq_false c2
    clear c2
    by_cases c3 : (Go.bits .and .u8 a0 7) = 0
    · rw [if_pos c3] at H
      have c3b0 : ((Go.bits .and .u8 a0 7) == 0) = true := beq_iff_eq.mpr c3
      have c3b1 : ((Go.bits .and .u8 a0 7) != 0) = false := bne_eq_false_iff_eq.mpr c3
      clear c3
      obtain rfl := Option.some.inj H
      go_enter Try.func72, Try.ntmps72
      go_wp2
      go_ret
      exact ⟨by first | rfl | (simp; done) | (simp [*]; done), by repeat (first | exact Drawn0.refl _ | apply Drawn0.step)⟩
    · rw [if_neg c3] at H
      have c3b0 : ((Go.bits .and .u8 a0 7) == 0) = false := beq_eq_false_iff_ne.mpr c3
      have c3b1 : ((Go.bits .and .u8 a0 7) != 0) = true := bne_iff_ne.mpr c3
      by_cases c4 : (Go.bits .and .u8 a0 7) = 2
      · rw [if_pos c4] at H
        have c4b0 : ((Go.bits .and .u8 a0 7) == 2) = true := beq_iff_eq.mpr c4
        have c4b1 : ((Go.bits .and .u8 a0 7) != 2) = false := bne_eq_false_iff_eq.mpr c4
        clear c4
        obtain rfl := Option.some.inj H
        go_enter Try.func72, Try.ntmps72
        go_wp2
        go_ret
        exact ⟨by first | rfl | (simp; done) | (simp [*]; done), by repeat (first | exact Drawn0.refl _ | apply Drawn0.step)⟩
      · rw [if_neg c4] at H
        have c4b0 : ((Go.bits .and .u8 a0 7) == 2) = false := beq_eq_false_iff_ne.mpr c4
        have c4b1 : ((Go.bits .and .u8 a0 7) != 2) = true := bne_iff_ne.mpr c4
        by_cases c5 : (Go.bits .and .u8 a0 7) = 4
        · rw [if_pos c5] at H
          have c5b0 : ((Go.bits .and .u8 a0 7) == 4) = true := beq_iff_eq.mpr c5
          have c5b1 : ((Go.bits .and .u8 a0 7) != 4) = false := bne_eq_false_iff_eq.mpr c5
          clear c5
          obtain rfl := Option.some.inj H
          go_enter Try.func72, Try.ntmps72
          go_wp2
          go_ret
          exact ⟨by first | rfl | (simp; done) | (simp [*]; done), by repeat (first | exact Drawn0.refl _ | apply Drawn0.step)⟩
        · rw [if_neg c5] at H
          have c5b0 : ((Go.bits .and .u8 a0 7) == 4) = false := beq_eq_false_iff_ne.mpr c5
          have c5b1 : ((Go.bits .and .u8 a0 7) != 4) = true := bne_iff_ne.mpr c5
          obtain rfl := Option.some.inj H
          go_enter Try.func72, Try.ntmps72
          go_wp2
          go_ret
          exact ⟨by first | rfl | (simp; done) | (simp [*]; done), by repeat (first | exact Drawn0.refl _ | apply Drawn0.step)⟩
def pidginref06_Name.f (k : Nat) (a0 : Int) : Option (ByteArray) := (pidginref06_Forms.f).bind fun t555 => (if 0 ≤ a0 then (if a0 < (t555.length : Int) then ((pidginref06_Words.f k (rdOf ByteArray.empty t555 a0)).bind fun t559 => (if (t559.length : Int) = 0 then (some (⟨#[]⟩ : ByteArray)) else (if 0 < (t559.length : Int) then (some (rdOf ByteArray.empty t559 0)) else (none)))) else (none)) else (none))
theorem pidginref06_Name.mono : ∀ a0 k, LeO (pidginref06_Name.f k a0) (pidginref06_Name.f (k + 1) a0) := by
  intro a0 k
  unfold pidginref06_Name.f
  repeat' first
      | (with_reducible exact pidginref06_Words.mono _ _)
      | (with_reducible exact LeO.refl _)
      | (with_reducible exact LeO.none _)
      | (with_reducible refine LeO.ite ?_ ?_)
      | (with_reducible refine LeO.bind ?_ (fun _ => ?_))
      | exact pidginref06_Words.mono _ _
      | exact LeO.none _
      | refine LeO.ite ?_ ?_
      | refine LeO.bind ?_ (fun _ => ?_)
set_option maxHeartbeats 8000000 in
set_option maxRecDepth 100000 in
theorem pidginref06_Name.calls (k : Nat) (a0 : Int) (r : ByteArray) (w : World) (h : pidginref06_Name.f k a0 = some r) :
    Calls Try.prog 73 #[.int .u8 a0] w fun e w' => e = .returned (.string r) ∧ Below w.heap.size w w' := by
  have HB := Aside0.mk (Below.refl w.heap.size w)
  have H : ((pidginref06_Forms.f).bind fun t555 => (if 0 ≤ a0 then (if a0 < (t555.length : Int) then ((pidginref06_Words.f k (rdOf ByteArray.empty t555 a0)).bind fun t559 => (if (t559.length : Int) = 0 then (some (⟨#[]⟩ : ByteArray)) else (if 0 < (t559.length : Int) then (some (rdOf ByteArray.empty t559 0)) else (none)))) else (none)) else (none))) = some r := h
  clear h
  replace H := Option.bind_eq_some_iff.mp H
  obtain ⟨t555, A20, H⟩ := H
  replace H : (if 0 ≤ a0 then (if a0 < (t555.length : Int) then ((pidginref06_Words.f k (rdOf ByteArray.empty t555 a0)).bind fun t559 => (if (t559.length : Int) = 0 then (some (⟨#[]⟩ : ByteArray)) else (if 0 < (t559.length : Int) then (some (rdOf ByteArray.empty t559 0)) else (none)))) else (none)) else (none)) = some r := H
  have A2 := Aside0.mk A20
  clear A20
  by_cases c3 : 0 ≤ a0
  · rw [if_pos c3] at H
    have c3b0 : decide (0 ≤ a0) = true := decide_eq_true c3
    clear c3
    by_cases c4 : a0 < (t555.length : Int)
    · rw [if_pos c4] at H
      have c4b0 : decide (a0 < (t555.length : Int)) = true := decide_eq_true c4
      clear c4
      replace H := Option.bind_eq_some_iff.mp H
      obtain ⟨t559, A50, H⟩ := H
      replace H : (if (t559.length : Int) = 0 then (some (⟨#[]⟩ : ByteArray)) else (if 0 < (t559.length : Int) then (some (rdOf ByteArray.empty t559 0)) else (none))) = some r := H
      have A5 := Aside0.mk A50
      clear A50
      by_cases c6 : (t559.length : Int) = 0
      · rw [if_pos c6] at H
        have c6b0 : ((t559.length : Int) == 0) = true := beq_iff_eq.mpr c6
        have c6b1 : ((t559.length : Int) != 0) = false := bne_eq_false_iff_eq.mpr c6
        clear c6
        obtain rfl := Option.some.inj H
        go_enter Try.func73, Try.ntmps73
        go_wp2_with (first | ((with_reducible refine gate_callee (f := 60) rfl ?_); refine goesL_ (some 4) rfl rfl Try.func60 (by kernel_rfl) rfl #[] rfl (by (try simp only [List.map_toArray, List.map_cons, List.map_nil]); first | done | rfl | (simp only [List.length_drop, List.length_take]; rfl) | (simp only [IntKind.wrap_u8, IntKind.wrap_u32, Int.emod_add_emod, Int.add_emod_emod] <;> rfl)) ?_; (with_reducible refine (pidginref06_Forms.calls  t555 _ A2.out).mono ?_); rintro e w7 ⟨v556, rfl, ho0, hb⟩; refine ⟨_, rfl, ?_⟩; have n0_ := Aside0.mk (Kd.R_lower ho0 (below_size (by repeat (first | (with_reducible first | exact HB.out | apply below_alloc | apply pw_below_drewN | apply below_drew1) | exact HB.out)))); have n1_ := Aside0.mk (below_step (by repeat (first | (with_reducible first | exact HB.out | apply below_alloc | apply pw_below_drewN | apply below_drew1) | exact HB.out)) hb); clear HB; have HO557 := n0_; have HB := n1_; clear n0_ n1_; (try clear hb); (try clear hb2); (try clear hk); (try clear hi); (try clear ho0); obtain ⟨Ao8, co8, eo8⟩ := Kd.R_slice HO557.out; subst eo8; have p558 : 0 ≤ (a0 : Int) := of_decide_eq_true (by first | (with_reducible assumption) | assumption); have q558 : a0 < (t555.length : Int) := of_decide_eq_true (by first | (with_reducible assumption) | assumption); obtain ⟨ad558, e558, hx558_0⟩ := Kd.at_string (Kd.R_reads' HO557.out).2.2 a0 p558 q558; cases e558; replace p558 := eq_true p558; replace q558 := eq_true q558) | ((with_reducible refine gate_callee (f := 59) rfl ?_); refine goesL_ (some 8) rfl rfl Try.func59 (by kernel_rfl) rfl #[.string (rdOf ByteArray.empty t555 a0)] rfl (by (try simp only [List.map_toArray, List.map_cons, List.map_nil]); first | done | rfl | (simp only [List.length_drop, List.length_take]; rfl) | (simp only [IntKind.wrap_u8, IntKind.wrap_u32, Int.emod_add_emod, Int.add_emod_emod] <;> rfl)) ?_; (with_reducible refine (pidginref06_Words.calls k (rdOf ByteArray.empty t555 a0) t559 _ A5.out).mono ?_); rintro e w9 ⟨v560, rfl, ho0, hb⟩; refine ⟨_, rfl, ?_⟩; have n0_ := Aside0.mk (Kd.R_elder' (by (with_reducible repeat (first | apply Kd.R_alloc | apply Kd.R_drewN | apply Kd.R_drew)); exact HO557.out) (Kd.R_base ho0) hb); have n1_ := Aside0.mk (Kd.R_lower (Kd.R_new' ho0 (Kd.R_lt (by (with_reducible repeat (first | apply Kd.R_alloc | apply Kd.R_drewN | apply Kd.R_drew)); exact HO557.out))) (below_size (by repeat (first | (with_reducible first | exact HB.out | apply below_alloc | apply pw_below_drewN | apply below_drew1) | exact HB.out)))); have n2_ := Aside0.mk (below_step (by repeat (first | (with_reducible first | exact HB.out | apply below_alloc | apply pw_below_drewN | apply below_drew1) | exact HB.out)) hb); clear HO557; clear HB; have HO557 := n0_; have HO561 := n1_; have HB := n2_; clear n0_ n1_ n2_; (try clear hb); (try clear hb2); (try clear hk); (try clear hi); (try clear ho0); obtain ⟨Ao10, co10, eo10⟩ := Kd.R_slice HO561.out; subst eo10))
        go_ret
        exact ⟨by first | rfl | (simp [errW_none, errW_some] <;> rfl) | (simp [*, errW_none, errW_some] <;> rfl), by repeat (first | (with_reducible first | exact HB.out | apply below_alloc | apply pw_below_drewN | apply below_drew1) | exact HB.out)⟩
      · rw [if_neg c6] at H
        have c6b0 : ((t559.length : Int) == 0) = false := beq_eq_false_iff_ne.mpr c6
        have c6b1 : ((t559.length : Int) != 0) = true := bne_iff_ne.mpr c6
        have c6b2 : ¬ (t559 = []) := fun h_ => c6 (by rw [h_]; rfl)
        by_cases c11 : 0 < (t559.length : Int)
        · rw [if_pos c11] at H
          have c11b0 : decide (0 < (t559.length : Int)) = true := decide_eq_true c11
          have c11b1 : decide (0 < t559.length) = true := decide_eq_true (by omega)
          clear c11
          obtain rfl := Option.some.inj H
          go_enter Try.func73, Try.ntmps73
          go_wp2_with (first | ((with_reducible refine gate_callee (f := 60) rfl ?_); refine goesL_ (some 4) rfl rfl Try.func60 (by kernel_rfl) rfl #[] rfl (by (try simp only [List.map_toArray, List.map_cons, List.map_nil]); first | done | rfl | (simp only [List.length_drop, List.length_take]; rfl) | (simp only [IntKind.wrap_u8, IntKind.wrap_u32, Int.emod_add_emod, Int.add_emod_emod] <;> rfl)) ?_; (with_reducible refine (pidginref06_Forms.calls  t555 _ A2.out).mono ?_); rintro e w12 ⟨v556, rfl, ho0, hb⟩; refine ⟨_, rfl, ?_⟩; have n0_ := Aside0.mk (Kd.R_lower ho0 (below_size (by repeat (first | (with_reducible first | exact HB.out | apply below_alloc | apply pw_below_drewN | apply below_drew1) | exact HB.out)))); have n1_ := Aside0.mk (below_step (by repeat (first | (with_reducible first | exact HB.out | apply below_alloc | apply pw_below_drewN | apply below_drew1) | exact HB.out)) hb); clear HB; have HO557 := n0_; have HB := n1_; clear n0_ n1_; (try clear hb); (try clear hb2); (try clear hk); (try clear hi); (try clear ho0); obtain ⟨Ao13, co13, eo13⟩ := Kd.R_slice HO557.out; subst eo13; have p558 : 0 ≤ (a0 : Int) := of_decide_eq_true (by first | (with_reducible assumption) | assumption); have q558 : a0 < (t555.length : Int) := of_decide_eq_true (by first | (with_reducible assumption) | assumption); obtain ⟨ad558, e558, hx558_0⟩ := Kd.at_string (Kd.R_reads' HO557.out).2.2 a0 p558 q558; cases e558; replace p558 := eq_true p558; replace q558 := eq_true q558) | ((with_reducible refine gate_callee (f := 59) rfl ?_); refine goesL_ (some 8) rfl rfl Try.func59 (by kernel_rfl) rfl #[.string (rdOf ByteArray.empty t555 a0)] rfl (by (try simp only [List.map_toArray, List.map_cons, List.map_nil]); first | done | rfl | (simp only [List.length_drop, List.length_take]; rfl) | (simp only [IntKind.wrap_u8, IntKind.wrap_u32, Int.emod_add_emod, Int.add_emod_emod] <;> rfl)) ?_; (with_reducible refine (pidginref06_Words.calls k (rdOf ByteArray.empty t555 a0) t559 _ A5.out).mono ?_); rintro e w14 ⟨v560, rfl, ho0, hb⟩; refine ⟨_, rfl, ?_⟩; have n0_ := Aside0.mk (Kd.R_elder' (by (with_reducible repeat (first | apply Kd.R_alloc | apply Kd.R_drewN | apply Kd.R_drew)); exact HO557.out) (Kd.R_base ho0) hb); have n1_ := Aside0.mk (Kd.R_lower (Kd.R_new' ho0 (Kd.R_lt (by (with_reducible repeat (first | apply Kd.R_alloc | apply Kd.R_drewN | apply Kd.R_drew)); exact HO557.out))) (below_size (by repeat (first | (with_reducible first | exact HB.out | apply below_alloc | apply pw_below_drewN | apply below_drew1) | exact HB.out)))); have n2_ := Aside0.mk (below_step (by repeat (first | (with_reducible first | exact HB.out | apply below_alloc | apply pw_below_drewN | apply below_drew1) | exact HB.out)) hb); clear HO557; clear HB; have HO557 := n0_; have HO561 := n1_; have HB := n2_; clear n0_ n1_ n2_; (try clear hb); (try clear hb2); (try clear hk); (try clear hi); (try clear ho0); obtain ⟨Ao15, co15, eo15⟩ := Kd.R_slice HO561.out; subst eo15; have p562 : 0 ≤ (0 : Int) := (by omega); have q562 : 0 < (t559.length : Int) := of_decide_eq_true (by first | (with_reducible assumption) | assumption); obtain ⟨ad562, e562, hx562_0⟩ := Kd.at_string (Kd.R_reads' HO561.out).2.2 0 p562 q562; cases e562; have qi562 : (0 < t559.length) = True := eq_true (by omega); (try rw [show ((0 : Int)).toNat = 0 from rfl] at hx562_0); (try rw [Addr.add_zero'] at hx562_0); replace p562 := eq_true p562; replace q562 := eq_true q562))
          go_ret
          exact ⟨by first | rfl | (simp [errW_none, errW_some] <;> rfl) | (simp [*, errW_none, errW_some] <;> rfl), by repeat (first | (with_reducible first | exact HB.out | apply below_alloc | apply pw_below_drewN | apply below_drew1) | exact HB.out)⟩
        · rw [if_neg c11] at H
          exact absurd H (by simp)
    · rw [if_neg c4] at H
      exact absurd H (by simp)
  · rw [if_neg c3] at H
    exact absurd H (by simp)
def pidginref01_Psw.f (a0_0 : Bool) (a0_1 : Bool) (a0_2 : Bool) (a0_3 : Bool) (a0_4 : Bool) : Option (Int) := (pidginref01_bit.f a0_0 128).bind fun t566 => ((pidginref01_bit.f a0_1 64).bind fun t567 => ((pidginref01_bit.f a0_2 16).bind fun t568 => ((pidginref01_bit.f a0_3 4).bind fun t569 => ((pidginref01_bit.f a0_4 1).bind fun t570 => (some ((wrap64 ((wrap64 ((wrap64 ((wrap64 ((wrap64 (t566 + t567)) + t568)) + t569)) + 2)) + t570)) % 256))))))
set_option maxHeartbeats 8000000 in
set_option maxRecDepth 100000 in
theorem pidginref01_Psw.calls (a0_0 : Bool) (a0_1 : Bool) (a0_2 : Bool) (a0_3 : Bool) (a0_4 : Bool) (r : Int) (w : World) (h : pidginref01_Psw.f a0_0 a0_1 a0_2 a0_3 a0_4 = some r) :
    Calls Try.prog 75 #[.agg #[.bool a0_0, .bool a0_1, .bool a0_2, .bool a0_3, .bool a0_4]] w fun e w' => e = .returned (.int .u8 r) ∧ Below w.heap.size w w' := by
  have hu24 := Try.underlying24
  have HB := Aside0.mk (Below.refl w.heap.size w)
  have H : ((pidginref01_bit.f a0_0 128).bind fun t566 => ((pidginref01_bit.f a0_1 64).bind fun t567 => ((pidginref01_bit.f a0_2 16).bind fun t568 => ((pidginref01_bit.f a0_3 4).bind fun t569 => ((pidginref01_bit.f a0_4 1).bind fun t570 => (some ((wrap64 ((wrap64 ((wrap64 ((wrap64 ((wrap64 (t566 + t567)) + t568)) + t569)) + 2)) + t570)) % 256))))))) = some r := h
  clear h
  replace H := Option.bind_eq_some_iff.mp H
  obtain ⟨t566, A20, H⟩ := H
  replace H : ((pidginref01_bit.f a0_1 64).bind fun t567 => ((pidginref01_bit.f a0_2 16).bind fun t568 => ((pidginref01_bit.f a0_3 4).bind fun t569 => ((pidginref01_bit.f a0_4 1).bind fun t570 => (some ((wrap64 ((wrap64 ((wrap64 ((wrap64 ((wrap64 (t566 + t567)) + t568)) + t569)) + 2)) + t570)) % 256)))))) = some r := H
  have A2 := Aside0.mk A20
  clear A20
  replace H := Option.bind_eq_some_iff.mp H
  obtain ⟨t567, A30, H⟩ := H
  replace H : ((pidginref01_bit.f a0_2 16).bind fun t568 => ((pidginref01_bit.f a0_3 4).bind fun t569 => ((pidginref01_bit.f a0_4 1).bind fun t570 => (some ((wrap64 ((wrap64 ((wrap64 ((wrap64 ((wrap64 (t566 + t567)) + t568)) + t569)) + 2)) + t570)) % 256))))) = some r := H
  have A3 := Aside0.mk A30
  clear A30
  replace H := Option.bind_eq_some_iff.mp H
  obtain ⟨t568, A40, H⟩ := H
  replace H : ((pidginref01_bit.f a0_3 4).bind fun t569 => ((pidginref01_bit.f a0_4 1).bind fun t570 => (some ((wrap64 ((wrap64 ((wrap64 ((wrap64 ((wrap64 (t566 + t567)) + t568)) + t569)) + 2)) + t570)) % 256)))) = some r := H
  have A4 := Aside0.mk A40
  clear A40
  replace H := Option.bind_eq_some_iff.mp H
  obtain ⟨t569, A50, H⟩ := H
  replace H : ((pidginref01_bit.f a0_4 1).bind fun t570 => (some ((wrap64 ((wrap64 ((wrap64 ((wrap64 ((wrap64 (t566 + t567)) + t568)) + t569)) + 2)) + t570)) % 256))) = some r := H
  have A5 := Aside0.mk A50
  clear A50
  replace H := Option.bind_eq_some_iff.mp H
  obtain ⟨t570, A60, H⟩ := H
  replace H : (some ((wrap64 ((wrap64 ((wrap64 ((wrap64 ((wrap64 (t566 + t567)) + t568)) + t569)) + 2)) + t570)) % 256)) = some r := H
  have A6 := Aside0.mk A60
  clear A60
  obtain rfl := Option.some.inj H
  go_enter Try.func75, Try.ntmps75
  go_wp2_with (first | ((with_reducible refine gate_dst (N := 1) rfl ?_); refine box_event ?hg (N := 1) ?hd (cs := #[.bool a0_0, .bool a0_1, .bool a0_2, .bool a0_3, .bool a0_4]) (t := 24) ?hr ?_; (case hd => rfl); (case hg => rfl); (case hr => first | (go_simp; done) | (go_simp; rfl)); intro gb565 hg w7 hbox hb; have n0_ := Aside0.mk (below_step (by repeat (first | (with_reducible first | exact HB.out | apply below_alloc | apply pw_below_drewN | apply below_drew1) | exact HB.out)) hb); have n1_ := Aside0.mk (hbox); have n2_ := Aside0.mk ((by rw [hg]; exact (below_size (by repeat (first | (with_reducible first | exact HB.out | apply below_alloc | apply pw_below_drewN | apply below_drew1) | exact HB.out))) : w.heap.size ≤ gb565)); have n3_ := Aside0.mk ((by rw [hg]; exact (below_size (by repeat (first | (with_reducible first | exact HB.out | apply below_alloc | apply pw_below_drewN | apply below_drew1) | exact HB.out))) : w.heap.size ≤ gb565)); clear HB; have HB := n0_; have BK565 := n1_; have GW565 := n2_; have GE565 := n3_; clear n0_ n1_ n2_ n3_; clear hb hbox hg; have hcz8_0 : w7.cell? ⟨gb565, 0, none⟩ = some (.bool a0_0) := (blk_cell BK565.out 0).trans rfl; have hcz8_1 : w7.cell? ⟨gb565, 1, none⟩ = some (.bool a0_1) := (blk_cell BK565.out 1).trans rfl; have hcz8_2 : w7.cell? ⟨gb565, 2, none⟩ = some (.bool a0_2) := (blk_cell BK565.out 2).trans rfl; have hcz8_3 : w7.cell? ⟨gb565, 3, none⟩ = some (.bool a0_3) := (blk_cell BK565.out 3).trans rfl; have hcz8_4 : w7.cell? ⟨gb565, 4, none⟩ = some (.bool a0_4) := (blk_cell BK565.out 4).trans rfl; have hfz8_0 := blk_frozen BK565.out 0; have hfz8_1 := blk_frozen BK565.out 1; have hfz8_2 := blk_frozen BK565.out 2; have hfz8_3 := blk_frozen BK565.out 3; have hfz8_4 := blk_frozen BK565.out 4) | (go_at_call 93; (with_reducible refine (pidginref01_bit.calls a0_0 128 t566 _ A2.out).mono ?_); rintro e w' ⟨rfl, ⟨nd, rfl⟩⟩; (try first | exact ⟨rfl, _, World.drewN_drewN _ _ _⟩ | exact ⟨rfl, _, Eq.trans (World.drewN_drewN _ _ _) (congrArg (World.drewN _) (Nat.add_assoc _ _ _))⟩)) | (go_at_call 93; (with_reducible refine (pidginref01_bit.calls a0_1 64 t567 _ A3.out).mono ?_); rintro e w' ⟨rfl, ⟨nd, rfl⟩⟩; (try first | exact ⟨rfl, _, World.drewN_drewN _ _ _⟩ | exact ⟨rfl, _, Eq.trans (World.drewN_drewN _ _ _) (congrArg (World.drewN _) (Nat.add_assoc _ _ _))⟩)) | (go_at_call 93; (with_reducible refine (pidginref01_bit.calls a0_2 16 t568 _ A4.out).mono ?_); rintro e w' ⟨rfl, ⟨nd, rfl⟩⟩; (try first | exact ⟨rfl, _, World.drewN_drewN _ _ _⟩ | exact ⟨rfl, _, Eq.trans (World.drewN_drewN _ _ _) (congrArg (World.drewN _) (Nat.add_assoc _ _ _))⟩)) | (go_at_call 93; (with_reducible refine (pidginref01_bit.calls a0_3 4 t569 _ A5.out).mono ?_); rintro e w' ⟨rfl, ⟨nd, rfl⟩⟩; (try first | exact ⟨rfl, _, World.drewN_drewN _ _ _⟩ | exact ⟨rfl, _, Eq.trans (World.drewN_drewN _ _ _) (congrArg (World.drewN _) (Nat.add_assoc _ _ _))⟩)) | (go_at_call 93; (with_reducible refine (pidginref01_bit.calls a0_4 1 t570 _ A6.out).mono ?_); rintro e w' ⟨rfl, ⟨nd, rfl⟩⟩; (try first | exact ⟨rfl, _, World.drewN_drewN _ _ _⟩ | exact ⟨rfl, _, Eq.trans (World.drewN_drewN _ _ _) (congrArg (World.drewN _) (Nat.add_assoc _ _ _))⟩)))
  repeat (go_quiet (first | ((with_reducible refine gate_dst (N := 1) rfl ?_); refine box_event ?hg (N := 1) ?hd (cs := #[.bool a0_0, .bool a0_1, .bool a0_2, .bool a0_3, .bool a0_4]) (t := 24) ?hr ?_; (case hd => rfl); (case hg => rfl); (case hr => first | (go_simp; done) | (go_simp; rfl)); intro gb565 hg w7 hbox hb; have n0_ := Aside0.mk (below_step (by repeat (first | (with_reducible first | exact HB.out | apply below_alloc | apply pw_below_drewN | apply below_drew1) | exact HB.out)) hb); have n1_ := Aside0.mk (hbox); have n2_ := Aside0.mk ((by rw [hg]; exact (below_size (by repeat (first | (with_reducible first | exact HB.out | apply below_alloc | apply pw_below_drewN | apply below_drew1) | exact HB.out))) : w.heap.size ≤ gb565)); have n3_ := Aside0.mk ((by rw [hg]; exact (below_size (by repeat (first | (with_reducible first | exact HB.out | apply below_alloc | apply pw_below_drewN | apply below_drew1) | exact HB.out))) : w.heap.size ≤ gb565)); clear HB; have HB := n0_; have BK565 := n1_; have GW565 := n2_; have GE565 := n3_; clear n0_ n1_ n2_ n3_; clear hb hbox hg; have hcz8_0 : w7.cell? ⟨gb565, 0, none⟩ = some (.bool a0_0) := (blk_cell BK565.out 0).trans rfl; have hcz8_1 : w7.cell? ⟨gb565, 1, none⟩ = some (.bool a0_1) := (blk_cell BK565.out 1).trans rfl; have hcz8_2 : w7.cell? ⟨gb565, 2, none⟩ = some (.bool a0_2) := (blk_cell BK565.out 2).trans rfl; have hcz8_3 : w7.cell? ⟨gb565, 3, none⟩ = some (.bool a0_3) := (blk_cell BK565.out 3).trans rfl; have hcz8_4 : w7.cell? ⟨gb565, 4, none⟩ = some (.bool a0_4) := (blk_cell BK565.out 4).trans rfl; have hfz8_0 := blk_frozen BK565.out 0; have hfz8_1 := blk_frozen BK565.out 1; have hfz8_2 := blk_frozen BK565.out 2; have hfz8_3 := blk_frozen BK565.out 3; have hfz8_4 := blk_frozen BK565.out 4) | (go_at_call 93; (with_reducible refine (pidginref01_bit.calls a0_0 128 t566 _ A2.out).mono ?_); rintro e w' ⟨rfl, ⟨nd, rfl⟩⟩; (try first | exact ⟨rfl, _, World.drewN_drewN _ _ _⟩ | exact ⟨rfl, _, Eq.trans (World.drewN_drewN _ _ _) (congrArg (World.drewN _) (Nat.add_assoc _ _ _))⟩)) | (go_at_call 93; (with_reducible refine (pidginref01_bit.calls a0_1 64 t567 _ A3.out).mono ?_); rintro e w' ⟨rfl, ⟨nd, rfl⟩⟩; (try first | exact ⟨rfl, _, World.drewN_drewN _ _ _⟩ | exact ⟨rfl, _, Eq.trans (World.drewN_drewN _ _ _) (congrArg (World.drewN _) (Nat.add_assoc _ _ _))⟩)) | (go_at_call 93; (with_reducible refine (pidginref01_bit.calls a0_2 16 t568 _ A4.out).mono ?_); rintro e w' ⟨rfl, ⟨nd, rfl⟩⟩; (try first | exact ⟨rfl, _, World.drewN_drewN _ _ _⟩ | exact ⟨rfl, _, Eq.trans (World.drewN_drewN _ _ _) (congrArg (World.drewN _) (Nat.add_assoc _ _ _))⟩)) | (go_at_call 93; (with_reducible refine (pidginref01_bit.calls a0_3 4 t569 _ A5.out).mono ?_); rintro e w' ⟨rfl, ⟨nd, rfl⟩⟩; (try first | exact ⟨rfl, _, World.drewN_drewN _ _ _⟩ | exact ⟨rfl, _, Eq.trans (World.drewN_drewN _ _ _) (congrArg (World.drewN _) (Nat.add_assoc _ _ _))⟩)) | (go_at_call 93; (with_reducible refine (pidginref01_bit.calls a0_4 1 t570 _ A6.out).mono ?_); rintro e w' ⟨rfl, ⟨nd, rfl⟩⟩; (try first | exact ⟨rfl, _, World.drewN_drewN _ _ _⟩ | exact ⟨rfl, _, Eq.trans (World.drewN_drewN _ _ _) (congrArg (World.drewN _) (Nat.add_assoc _ _ _))⟩))); try go_wp2_with (first | ((with_reducible refine gate_dst (N := 1) rfl ?_); refine box_event ?hg (N := 1) ?hd (cs := #[.bool a0_0, .bool a0_1, .bool a0_2, .bool a0_3, .bool a0_4]) (t := 24) ?hr ?_; (case hd => rfl); (case hg => rfl); (case hr => first | (go_simp; done) | (go_simp; rfl)); intro gb565 hg w7 hbox hb; have n0_ := Aside0.mk (below_step (by repeat (first | (with_reducible first | exact HB.out | apply below_alloc | apply pw_below_drewN | apply below_drew1) | exact HB.out)) hb); have n1_ := Aside0.mk (hbox); have n2_ := Aside0.mk ((by rw [hg]; exact (below_size (by repeat (first | (with_reducible first | exact HB.out | apply below_alloc | apply pw_below_drewN | apply below_drew1) | exact HB.out))) : w.heap.size ≤ gb565)); have n3_ := Aside0.mk ((by rw [hg]; exact (below_size (by repeat (first | (with_reducible first | exact HB.out | apply below_alloc | apply pw_below_drewN | apply below_drew1) | exact HB.out))) : w.heap.size ≤ gb565)); clear HB; have HB := n0_; have BK565 := n1_; have GW565 := n2_; have GE565 := n3_; clear n0_ n1_ n2_ n3_; clear hb hbox hg; have hcz8_0 : w7.cell? ⟨gb565, 0, none⟩ = some (.bool a0_0) := (blk_cell BK565.out 0).trans rfl; have hcz8_1 : w7.cell? ⟨gb565, 1, none⟩ = some (.bool a0_1) := (blk_cell BK565.out 1).trans rfl; have hcz8_2 : w7.cell? ⟨gb565, 2, none⟩ = some (.bool a0_2) := (blk_cell BK565.out 2).trans rfl; have hcz8_3 : w7.cell? ⟨gb565, 3, none⟩ = some (.bool a0_3) := (blk_cell BK565.out 3).trans rfl; have hcz8_4 : w7.cell? ⟨gb565, 4, none⟩ = some (.bool a0_4) := (blk_cell BK565.out 4).trans rfl; have hfz8_0 := blk_frozen BK565.out 0; have hfz8_1 := blk_frozen BK565.out 1; have hfz8_2 := blk_frozen BK565.out 2; have hfz8_3 := blk_frozen BK565.out 3; have hfz8_4 := blk_frozen BK565.out 4) | (go_at_call 93; (with_reducible refine (pidginref01_bit.calls a0_0 128 t566 _ A2.out).mono ?_); rintro e w' ⟨rfl, ⟨nd, rfl⟩⟩; (try first | exact ⟨rfl, _, World.drewN_drewN _ _ _⟩ | exact ⟨rfl, _, Eq.trans (World.drewN_drewN _ _ _) (congrArg (World.drewN _) (Nat.add_assoc _ _ _))⟩)) | (go_at_call 93; (with_reducible refine (pidginref01_bit.calls a0_1 64 t567 _ A3.out).mono ?_); rintro e w' ⟨rfl, ⟨nd, rfl⟩⟩; (try first | exact ⟨rfl, _, World.drewN_drewN _ _ _⟩ | exact ⟨rfl, _, Eq.trans (World.drewN_drewN _ _ _) (congrArg (World.drewN _) (Nat.add_assoc _ _ _))⟩)) | (go_at_call 93; (with_reducible refine (pidginref01_bit.calls a0_2 16 t568 _ A4.out).mono ?_); rintro e w' ⟨rfl, ⟨nd, rfl⟩⟩; (try first | exact ⟨rfl, _, World.drewN_drewN _ _ _⟩ | exact ⟨rfl, _, Eq.trans (World.drewN_drewN _ _ _) (congrArg (World.drewN _) (Nat.add_assoc _ _ _))⟩)) | (go_at_call 93; (with_reducible refine (pidginref01_bit.calls a0_3 4 t569 _ A5.out).mono ?_); rintro e w' ⟨rfl, ⟨nd, rfl⟩⟩; (try first | exact ⟨rfl, _, World.drewN_drewN _ _ _⟩ | exact ⟨rfl, _, Eq.trans (World.drewN_drewN _ _ _) (congrArg (World.drewN _) (Nat.add_assoc _ _ _))⟩)) | (go_at_call 93; (with_reducible refine (pidginref01_bit.calls a0_4 1 t570 _ A6.out).mono ?_); rintro e w' ⟨rfl, ⟨nd, rfl⟩⟩; (try first | exact ⟨rfl, _, World.drewN_drewN _ _ _⟩ | exact ⟨rfl, _, Eq.trans (World.drewN_drewN _ _ _) (congrArg (World.drewN _) (Nat.add_assoc _ _ _))⟩))))
  go_ret
  exact ⟨by first | rfl | (simp [errW_none, errW_some] <;> rfl) | (simp [*, errW_none, errW_some] <;> rfl), by repeat (first | (with_reducible first | exact HB.out | apply below_alloc | apply pw_below_drewN | apply below_drew1 | refine below_set ?_ GE565.out) | exact HB.out)⟩
def pidginref02_Bytes.l0 : Nat → List Int → List Int → Int → Option (Bool)
  | 0, _, _, _ => none
  | k + 1, x0, x1, x5 => if x5 < (x0.length : Int) then (if 0 ≤ x5 then (if x5 < (x1.length : Int) then (if (rd x0 x5) = (rd x1 x5) then (pidginref02_Bytes.l0 k x0 x1 (wrap64 (x5 + 1))) else (some false)) else (none)) else (none)) else (some true)
def pidginref02_Bytes.f (k : Nat) (l0 : List Int) (l1 : List Int) : Option (Bool) := if (l0.length : Int) = (l1.length : Int) then (pidginref02_Bytes.l0 k l0 l1 0) else (some false)
theorem pidginref02_Bytes.mono_l : ∀ k, (∀ y0 y1 y2, LeO (pidginref02_Bytes.l0 k y0 y1 y2) (pidginref02_Bytes.l0 (k + 1) y0 y1 y2))
  | 0 => fun _ _ _ r h => by simp [pidginref02_Bytes.l0] at h
  | k + 1 => by
    have ih0 := pidginref02_Bytes.mono_l k
    · intro y0 y1 y2
      unfold pidginref02_Bytes.l0
      repeat' first
      | (with_reducible exact ih0 _ _ _)
      | (with_reducible exact LeO.refl _)
      | (with_reducible exact LeO.none _)
      | (with_reducible refine LeO.ite ?_ ?_)
      | (with_reducible refine LeO.bind ?_ (fun _ => ?_))
      | exact ih0 _ _ _
      | exact LeO.none _
      | refine LeO.ite ?_ ?_
      | refine LeO.bind ?_ (fun _ => ?_)
theorem pidginref02_Bytes.mono : ∀ a0 a1 k, LeO (pidginref02_Bytes.f k a0 a1) (pidginref02_Bytes.f (k + 1) a0 a1) := by
  intro a0 a1 k
  have ih0 := pidginref02_Bytes.mono_l k
  unfold pidginref02_Bytes.f
  repeat' first
      | (with_reducible exact ih0 _ _ _)
      | (with_reducible exact LeO.refl _)
      | (with_reducible exact LeO.none _)
      | (with_reducible refine LeO.ite ?_ ?_)
      | (with_reducible refine LeO.bind ?_ (fun _ => ?_))
      | exact ih0 _ _ _
      | exact LeO.none _
      | refine LeO.ite ?_ ?_
      | refine LeO.bind ?_ (fun _ => ?_)
set_option maxHeartbeats 8000000 in
set_option maxRecDepth 100000 in
theorem pidginref02_Bytes.calls (k : Nat) (A0 : Option Addr) (c0 : Nat) (l0 : List Int) (A1 : Option Addr) (c1 : Nat) (l1 : List Int) (r : Bool) (w : World) (hr0 : Kd.C (Kd.int .u8) w A0 l0.length l0) (hc0 : l0.length ≤ c0) (hr1 : Kd.C (Kd.int .u8) w A1 l1.length l1) (hc1 : l1.length ≤ c1) (h : pidginref02_Bytes.f k l0 l1 = some r) :
    Calls Try.prog 26 #[.slice A0 l0.length c0, .slice A1 l1.length c1] w fun e w' => e = .returned (.bool r) ∧ Drawn0 w w' := by
  have HR0 := Aside0.mk hr0
  have HC0 := Aside0.mk hc0
  clear hr0 hc0
  have HR1 := Aside0.mk hr1
  have HC1 := Aside0.mk hc1
  clear hr1 hc1
  have H : (if (l0.length : Int) = (l1.length : Int) then (pidginref02_Bytes.l0 k l0 l1 0) else (some false)) = some r := h
  clear h
  by_cases c3 : (l0.length : Int) = (l1.length : Int)
  · rw [if_pos c3] at H
    have c3b0 : ((l0.length : Int) == (l1.length : Int)) = true := beq_iff_eq.mpr c3
    have c3b1 : ((l0.length : Int) != (l1.length : Int)) = false := bne_eq_false_iff_eq.mpr c3
    have c3b2 : (l0.length == l1.length) = true := by first | simpa using c3 | (simp at c3 ⊢; omega)
    clear c3
    have H' := Aside0.mk H
    clear H
    go_enter Try.func26, Try.ntmps26
    go_wp2
    repeat (go_quiet (fail); try go_wp2)
    go_loopg [5] k (fun kq v5 w' => ∃ (x5_1 : Int), v5 = .int .i64 x5_1 ∧ Aside0 (pidginref02_Bytes.l0 kq l0 l1 x5_1 = some r) ∧ Aside0 (kq ≤ k) ∧ Drawn0 w w')
    case atStart => exact ⟨(0), (by first | rfl | (simp; done) | (simp [*]; done)), H', ⟨Nat.le_refl _⟩, by repeat (first | exact Drawn0.refl _ | apply Drawn0.step)⟩
    case round =>
      clear H'
      try clear c1
      try clear c2
      try clear p2
      try clear c3
      try clear c3b0
      try clear c3b1
      try clear c3b2
      obtain ⟨x5_1, rfl, HA, HK1, ⟨m1, rfl⟩⟩ := hrel
      cases gk with
      | zero => exact absurd HA.out (by simp [pidginref02_Bytes.l0])
      | succ k1 =>
        have H := HA.out
        clear HA
        simp only [pidginref02_Bytes.l0] at H
        by_cases c4 : x5_1 < (l0.length : Int)
        · rw [if_pos c4] at H
          have c4b0 : decide (x5_1 < (l0.length : Int)) = true := decide_eq_true c4
          clear c4
          by_cases c5 : 0 ≤ x5_1
          · rw [if_pos c5] at H
            have c5b0 : decide (0 ≤ x5_1) = true := decide_eq_true c5
            clear c5
            by_cases c6 : x5_1 < (l1.length : Int)
            · rw [if_pos c6] at H
              have c6b0 : decide (x5_1 < (l1.length : Int)) = true := decide_eq_true c6
              clear c6
              by_cases c7 : (rd l0 x5_1) = (rd l1 x5_1)
              · rw [if_pos c7] at H
                have c7b0 : ((rd l0 x5_1) == (rd l1 x5_1)) = true := beq_iff_eq.mpr c7
                have c7b1 : ((rd l0 x5_1) != (rd l1 x5_1)) = false := bne_eq_false_iff_eq.mpr c7
                clear c7
                have H' := Aside0.mk H
                clear H
                have p581 : 0 ≤ (x5_1 : Int) := of_decide_eq_true (by first | (with_reducible assumption) | assumption)
                have q581 : x5_1 < (l0.length : Int) := of_decide_eq_true (by first | (with_reducible assumption) | assumption)
                obtain ⟨ad581, e581, hx581_0⟩ := Kd.at_int HR0.out x5_1 p581 q581
                cases e581
                replace p581 := eq_true p581
                replace q581 := eq_true q581
                have p582 : 0 ≤ (x5_1 : Int) := of_decide_eq_true (by first | (with_reducible assumption) | assumption)
                have q582 : x5_1 < (l1.length : Int) := of_decide_eq_true (by first | (with_reducible assumption) | assumption)
                obtain ⟨ad582, e582, hx582_0⟩ := Kd.at_int HR1.out x5_1 p582 q582
                cases e582
                replace p582 := eq_true p582
                replace q582 := eq_true q582
                go_wp2
                repeat (go_quiet (fail); try go_wp2)
                go_roundg k1
                case measure => have := HK1.out; omega
                case rel => exact ⟨(wrap64 (x5_1 + 1)), (by first | rfl | (simp; done) | (simp [*]; done)), H', ⟨by have := HK1.out; omega⟩, by repeat (first | exact Drawn0.refl _ | apply Drawn0.step)⟩
              · rw [if_neg c7] at H
                have c7b0 : ((rd l0 x5_1) == (rd l1 x5_1)) = false := beq_eq_false_iff_ne.mpr c7
                have c7b1 : ((rd l0 x5_1) != (rd l1 x5_1)) = true := bne_iff_ne.mpr c7
                obtain rfl := Option.some.inj H
                have p581 : 0 ≤ (x5_1 : Int) := of_decide_eq_true (by first | (with_reducible assumption) | assumption)
                have q581 : x5_1 < (l0.length : Int) := of_decide_eq_true (by first | (with_reducible assumption) | assumption)
                obtain ⟨ad581, e581, hx581_0⟩ := Kd.at_int HR0.out x5_1 p581 q581
                cases e581
                replace p581 := eq_true p581
                replace q581 := eq_true q581
                have p582 : 0 ≤ (x5_1 : Int) := of_decide_eq_true (by first | (with_reducible assumption) | assumption)
                have q582 : x5_1 < (l1.length : Int) := of_decide_eq_true (by first | (with_reducible assumption) | assumption)
                obtain ⟨ad582, e582, hx582_0⟩ := Kd.at_int HR1.out x5_1 p582 q582
                cases e582
                replace p582 := eq_true p582
                replace q582 := eq_true q582
                go_wp2
                repeat (go_quiet (fail); try go_wp2)
                go_ret
                exact ⟨by first | rfl | (simp; done) | (simp [*]; done), by repeat (first | exact Drawn0.refl _ | apply Drawn0.step)⟩
            · rw [if_neg c6] at H
              exact absurd H (by simp)
          · rw [if_neg c5] at H
            exact absurd H (by simp)
        · rw [if_neg c4] at H
          have c4b0 : decide (x5_1 < (l0.length : Int)) = false := decide_eq_false c4
          clear c4
          obtain rfl := Option.some.inj H
          go_wp2
          repeat (go_quiet (fail); try go_wp2)
          go_ret
          exact ⟨by first | rfl | (simp; done) | (simp [*]; done), by repeat (first | exact Drawn0.refl _ | apply Drawn0.step)⟩
  · rw [if_neg c3] at H
    have c3b0 : ((l0.length : Int) == (l1.length : Int)) = false := beq_eq_false_iff_ne.mpr c3
    have c3b1 : ((l0.length : Int) != (l1.length : Int)) = true := bne_iff_ne.mpr c3
    have c3b2 : (l0.length == l1.length) = false := by first | simpa using c3 | (simp at c3 ⊢; omega)
    obtain rfl := Option.some.inj H
    go_enter Try.func26, Try.ntmps26
    go_wp2
    repeat (go_quiet (fail); try go_wp2)
    go_ret
    exact ⟨by first | rfl | (simp; done) | (simp [*]; done), by repeat (first | exact Drawn0.refl _ | apply Drawn0.step)⟩
def pidginlaw01_Back.f (a0_0 : Bool) (a0_1 : Bool) (a0_2 : Bool) (a0_3 : Bool) (a0_4 : Bool) : Option (Bool × Bool × Bool × Bool × Bool) := some (a0_0, a0_1, a0_2, a0_3, a0_4)
set_option maxHeartbeats 8000000 in
set_option maxRecDepth 100000 in
theorem pidginlaw01_Back.calls (a0_0 : Bool) (a0_1 : Bool) (a0_2 : Bool) (a0_3 : Bool) (a0_4 : Bool) (r1 : Bool) (r2 : Bool) (r3 : Bool) (r4 : Bool) (r5 : Bool) (w : World) (h : pidginlaw01_Back.f a0_0 a0_1 a0_2 a0_3 a0_4 = some (r1, r2, r3, r4, r5)) :
    Calls Try.prog 24 #[.agg #[.bool a0_0, .bool a0_1, .bool a0_2, .bool a0_3, .bool a0_4]] w fun e w' => e = .returned (.agg #[.bool r1, .bool r2, .bool r3, .bool r4, .bool r5]) ∧ Below w.heap.size w w' := by
  have hu48 := Try.underlying48
  have hu24 := Try.underlying24
  have HB := Aside0.mk (Below.refl w.heap.size w)
  have H : (some (a0_0, a0_1, a0_2, a0_3, a0_4)) = some (r1, r2, r3, r4, r5) := h
  clear h
  simp only [Option.some.injEq, Prod.mk.injEq] at H
  obtain ⟨rfl, rfl, rfl, rfl, rfl⟩ := H
  go_enter Try.func24, Try.ntmps24
  go_wp2_with (first | ((with_reducible refine gate_dst (N := 1) rfl ?_); refine box_event ?hg (N := 1) ?hd (cs := #[.bool a0_0, .bool a0_1, .bool a0_2, .bool a0_3, .bool a0_4]) (t := 48) ?hr ?_; (case hd => rfl); (case hg => rfl); (case hr => first | (go_simp; done) | (go_simp; rfl)); intro gb583 hg w2 hbox hb; have n0_ := Aside0.mk (below_step (by repeat (first | (with_reducible first | exact HB.out | apply below_alloc | apply pw_below_drewN | apply below_drew1) | exact HB.out)) hb); have n1_ := Aside0.mk (hbox); have n2_ := Aside0.mk ((by rw [hg]; exact (below_size (by repeat (first | (with_reducible first | exact HB.out | apply below_alloc | apply pw_below_drewN | apply below_drew1) | exact HB.out))) : w.heap.size ≤ gb583)); have n3_ := Aside0.mk ((by rw [hg]; exact (below_size (by repeat (first | (with_reducible first | exact HB.out | apply below_alloc | apply pw_below_drewN | apply below_drew1) | exact HB.out))) : w.heap.size ≤ gb583)); clear HB; have HB := n0_; have BK583 := n1_; have GW583 := n2_; have GE583 := n3_; clear n0_ n1_ n2_ n3_; clear hb hbox hg) | ((with_reducible refine gate_dst (N := 2) rfl ?_); refine box_event ?hg (N := 2) ?hd (cs := #[.bool false, .bool false, .bool false, .bool false, .bool false]) (t := 24) ?hr ?_; (case hd => rfl); (case hg => rfl); (case hr => first | (go_simp; done) | (go_simp; rfl)); intro gb584 hg w3 hbox hb; have n0_ := Aside0.mk (blk_below (g := gb583) (o := .cells #[.bool a0_0, .bool a0_1, .bool a0_2, .bool a0_3, .bool a0_4] 48 (0, 0)) (by (with_reducible repeat (first | refine blk_drewN ?_ _ | refine blk_drew ?_ | refine blk_alloc ?_ _)); exact BK583.out) hb); have n1_ := Aside0.mk (below_step (by repeat (first | (with_reducible first | exact HB.out | apply below_alloc | apply pw_below_drewN | apply below_drew1 | refine below_set ?_ GE583.out) | exact HB.out)) hb); have n2_ := Aside0.mk (hbox); have n3_ := Aside0.mk ((by rw [hg]; exact (below_size (by repeat (first | (with_reducible first | exact HB.out | apply below_alloc | apply pw_below_drewN | apply below_drew1 | refine below_set ?_ GE583.out) | exact HB.out))) : w.heap.size ≤ gb584)); have n4_ := Aside0.mk ((by rw [hg]; exact (below_size (by repeat (first | (with_reducible first | exact HB.out | apply below_alloc | apply pw_below_drewN | apply below_drew1 | refine below_set ?_ GE583.out) | exact HB.out))) : w.heap.size ≤ gb584)); have n5_ := Aside0.mk ((by rw [hg]; exact Nat.ne_of_lt (blk_lt (g := gb583) (o := .cells #[.bool a0_0, .bool a0_1, .bool a0_2, .bool a0_3, .bool a0_4] 48 (0, 0)) (by (with_reducible repeat (first | refine blk_drewN ?_ _ | refine blk_drew ?_ | refine blk_alloc ?_ _)); exact BK583.out)) : gb583 ≠ gb584)); have n6_ := Aside0.mk ((by rw [hg]; exact Nat.ne_of_gt (blk_lt (g := gb583) (o := .cells #[.bool a0_0, .bool a0_1, .bool a0_2, .bool a0_3, .bool a0_4] 48 (0, 0)) (by (with_reducible repeat (first | refine blk_drewN ?_ _ | refine blk_drew ?_ | refine blk_alloc ?_ _)); exact BK583.out)) : gb584 ≠ gb583)); clear BK583; clear HB; have BK583 := n0_; have HB := n1_; have BK584 := n2_; have GW584 := n3_; have GE584 := n4_; have NB583_584 := n5_; have NB584_583 := n6_; clear n0_ n1_ n2_ n3_ n4_ n5_ n6_; clear hb hbox hg; have hnb4 := NB583_584.out; have hnc4 := NB584_583.out; have hcz5_0 : w3.cell? ⟨gb583, 0, none⟩ = some (.bool a0_0) := (blk_cell BK583.out 0).trans rfl; have hcz5_1 : w3.cell? ⟨gb583, 1, none⟩ = some (.bool a0_1) := (blk_cell BK583.out 1).trans rfl; have hcz5_2 : w3.cell? ⟨gb583, 2, none⟩ = some (.bool a0_2) := (blk_cell BK583.out 2).trans rfl; have hcz5_3 : w3.cell? ⟨gb583, 3, none⟩ = some (.bool a0_3) := (blk_cell BK583.out 3).trans rfl; have hcz5_4 : w3.cell? ⟨gb583, 4, none⟩ = some (.bool a0_4) := (blk_cell BK583.out 4).trans rfl; have hfz5_0 := blk_frozen BK583.out 0; have hfz5_1 := blk_frozen BK583.out 1; have hfz5_2 := blk_frozen BK583.out 2; have hfz5_3 := blk_frozen BK583.out 3; have hfz5_4 := blk_frozen BK583.out 4; have hcz6_0 : w3.cell? ⟨gb584, 0, none⟩ = some (.bool false) := (blk_cell BK584.out 0).trans rfl; have hcz6_1 : w3.cell? ⟨gb584, 1, none⟩ = some (.bool false) := (blk_cell BK584.out 1).trans rfl; have hcz6_2 : w3.cell? ⟨gb584, 2, none⟩ = some (.bool false) := (blk_cell BK584.out 2).trans rfl; have hcz6_3 : w3.cell? ⟨gb584, 3, none⟩ = some (.bool false) := (blk_cell BK584.out 3).trans rfl; have hcz6_4 : w3.cell? ⟨gb584, 4, none⟩ = some (.bool false) := (blk_cell BK584.out 4).trans rfl; have hfz6_0 := blk_frozen BK584.out 0; have hfz6_1 := blk_frozen BK584.out 1; have hfz6_2 := blk_frozen BK584.out 2; have hfz6_3 := blk_frozen BK584.out 3; have hfz6_4 := blk_frozen BK584.out 4))
  refine bodyPost_ret (results_cell_row rfl _ _ gb584 24 #[.bool a0_0, .bool a0_1, .bool a0_2, .bool a0_3, .bool a0_4] (0, 0) _ rfl (by (with_reducible repeat (first | refine blk_drewN ?_ _ | refine blk_drew ?_ | refine blk_alloc ?_ _)); refine blk_put (cs := #[.bool a0_0, .bool a0_1, .bool a0_2, .bool a0_3, .bool false]) ?_ 4 _ rfl; (with_reducible repeat (first | refine blk_drewN ?_ _ | refine blk_drew ?_ | refine blk_alloc ?_ _)); refine blk_put (cs := #[.bool a0_0, .bool a0_1, .bool a0_2, .bool false, .bool false]) ?_ 3 _ rfl; (with_reducible repeat (first | refine blk_drewN ?_ _ | refine blk_drew ?_ | refine blk_alloc ?_ _)); refine blk_put (cs := #[.bool a0_0, .bool a0_1, .bool false, .bool false, .bool false]) ?_ 2 _ rfl; (with_reducible repeat (first | refine blk_drewN ?_ _ | refine blk_drew ?_ | refine blk_alloc ?_ _)); refine blk_put (cs := #[.bool a0_0, .bool false, .bool false, .bool false, .bool false]) ?_ 1 _ rfl; (with_reducible repeat (first | refine blk_drewN ?_ _ | refine blk_drew ?_ | refine blk_alloc ?_ _)); refine blk_put (cs := #[.bool false, .bool false, .bool false, .bool false, .bool false]) ?_ 0 _ rfl; (with_reducible repeat (first | refine blk_drewN ?_ _ | refine blk_drew ?_ | refine blk_alloc ?_ _)); exact BK584.out) Try.underlying24 rfl (by kernel_rfl)) rfl ?_
  exact ⟨by first | rfl | (simp [errW_none, errW_some] <;> rfl) | (simp [*, errW_none, errW_some] <;> rfl), by repeat (first | (with_reducible first | exact HB.out | apply below_alloc | apply pw_below_drewN | apply below_drew1 | refine below_set ?_ GE583.out | refine below_set ?_ GE584.out) | exact HB.out)⟩
end Go.Proofs.Ytaiabehbappdaaa.PCpu
