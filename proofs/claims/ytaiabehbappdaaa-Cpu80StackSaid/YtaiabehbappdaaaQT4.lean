/- Own texts of this claim, merged by a program of the claim's own: what the claim's theorem reaches. -/
import Derived.Test.YtaiabehbappdaaaQT3

set_option linter.unusedVariables false
set_option linter.unusedSimpArgs false
set_option maxHeartbeats 4000000
namespace Go.Proofs.Ytaiabehbappdaaa.PCpu
open Go.RowKit Go.Proofs.YtaiabehbappdaaaW.PrintWords Go.Proofs.YtaiabehbappdaaaW.PrintLast Go.Proofs.YtaiabehbappdaaaW.PrintMore
attribute [local go_sem] max2_int min2_int max_two min_two max_three min_three max_four min_four   -- for this text's walks alone
def pidginref01_Daa.j0 : Nat → Int → Bool → Bool → Bool → Bool → Bool → Bool → Bool → Option (Int × Bool × Bool × Bool × Bool × Bool)
  | 0, _, _, _, _, _, _, _, _ => none
  | k + 1, x6, x7, x17, x485000, x485001, x485002, x485003, x485004 => if x17 = true then (if (wrap64 (Int.tdiv (wrap64 (x6 + 6)) 16)) > 9 then ((pidginref01_told.f k (wrap64 ((wrap64 (x6 + 6)) + 96)) (decide ((wrap64 ((Int.tmod x6 16) + 6)) > 15)) true).bind fun bt486 => (some (bt486.1, bt486.2.1, bt486.2.2.1, bt486.2.2.2.1, bt486.2.2.2.2.1, bt486.2.2.2.2.2))) else (if x485004 = true then ((pidginref01_told.f k (wrap64 ((wrap64 (x6 + 6)) + 96)) (decide ((wrap64 ((Int.tmod x6 16) + 6)) > 15)) x485004).bind fun bt492 => (some (bt492.1, bt492.2.1, bt492.2.2.1, bt492.2.2.2.1, bt492.2.2.2.2.1, bt492.2.2.2.2.2))) else ((pidginref01_told.f k (wrap64 (x6 + 6)) (decide ((wrap64 ((Int.tmod x6 16) + 6)) > 15)) x485004).bind fun bt498 => (some (bt498.1, bt498.2.1, bt498.2.2.1, bt498.2.2.2.1, bt498.2.2.2.2.1, bt498.2.2.2.2.2))))) else (if (wrap64 (Int.tdiv x6 16)) > 9 then ((pidginref01_told.f k (wrap64 (x6 + 96)) x7 true).bind fun bt504 => (some (bt504.1, bt504.2.1, bt504.2.2.1, bt504.2.2.2.1, bt504.2.2.2.2.1, bt504.2.2.2.2.2))) else (if x485004 = true then ((pidginref01_told.f k (wrap64 (x6 + 96)) x7 x485004).bind fun bt510 => (some (bt510.1, bt510.2.1, bt510.2.2.1, bt510.2.2.2.1, bt510.2.2.2.2.1, bt510.2.2.2.2.2))) else ((pidginref01_told.f k x6 x7 x485004).bind fun bt516 => (some (bt516.1, bt516.2.1, bt516.2.2.1, bt516.2.2.2.1, bt516.2.2.2.2.1, bt516.2.2.2.2.2)))))
def pidginref01_Daa.f (k : Nat) (a0 : Int) (a1_0 : Bool) (a1_1 : Bool) (a1_2 : Bool) (a1_3 : Bool) (a1_4 : Bool) : Option (Int × Bool × Bool × Bool × Bool × Bool) := if (Int.tmod (wrap64 (a0)) 16) > 9 then (pidginref01_Daa.j0 k (wrap64 (a0)) false true a1_0 a1_1 a1_2 a1_3 a1_4) else (pidginref01_Daa.j0 k (wrap64 (a0)) false a1_2 a1_0 a1_1 a1_2 a1_3 a1_4)
set_option maxHeartbeats 8000000 in
set_option maxRecDepth 100000 in
theorem pidginref01_Daa.calls (k : Nat) (a0 : Int) (a1_0 : Bool) (a1_1 : Bool) (a1_2 : Bool) (a1_3 : Bool) (a1_4 : Bool) (r1 : Int) (r2 : Bool) (r3 : Bool) (r4 : Bool) (r5 : Bool) (r6 : Bool) (w : World) (h : pidginref01_Daa.f k a0 a1_0 a1_1 a1_2 a1_3 a1_4 = some (r1, r2, r3, r4, r5, r6)) :
    Calls Try.prog 91 #[.int .u8 a0, .agg #[.bool a1_0, .bool a1_1, .bool a1_2, .bool a1_3, .bool a1_4]] w fun e w' => e = .returned (.tuple #[.int .u8 r1, .agg #[.bool r2, .bool r3, .bool r4, .bool r5, .bool r6]]) ∧ Below w.heap.size w w' := by
  have hu24 := Try.underlying24
  have HB := Aside0.mk (Below.refl w.heap.size w)
  have H : (if (Int.tmod (wrap64 (a0)) 16) > 9 then (pidginref01_Daa.j0 k (wrap64 (a0)) false true a1_0 a1_1 a1_2 a1_3 a1_4) else (pidginref01_Daa.j0 k (wrap64 (a0)) false a1_2 a1_0 a1_1 a1_2 a1_3 a1_4)) = some (r1, r2, r3, r4, r5, r6) := h
  clear h
  have HC3 := Aside0.mk H
  clear H
  go_enter Try.func91, Try.ntmps91
  go_upto_region 3 with (first | ((with_reducible refine gate_dst (N := 3) rfl ?_); refine box_event ?hg (N := 3) ?hd (cs := #[.bool a1_0, .bool a1_1, .bool a1_2, .bool a1_3, .bool a1_4]) (t := 24) ?hr ?_; (case hd => rfl); (case hg => rfl); (case hr => first | (go_simp; done) | (go_simp; rfl)); intro gb484 hg w4 hbox hb; have n0_ := Aside0.mk (below_step (by with_reducible repeat (first | exact HB.out | apply below_alloc | apply pw_below_drewN | apply below_drew1)) hb); have n1_ := Aside0.mk (hbox); have n2_ := Aside0.mk ((by rw [hg]; exact (below_size (by with_reducible repeat (first | exact HB.out | apply below_alloc | apply pw_below_drewN | apply below_drew1))) : w.heap.size ≤ gb484)); have n3_ := Aside0.mk ((by rw [hg]; exact (below_size (by with_reducible repeat (first | exact HB.out | apply below_alloc | apply pw_below_drewN | apply below_drew1))) : w.heap.size ≤ gb484)); clear HB; have HB := n0_; have BK484 := n1_; have GW484 := n2_; have GE484 := n3_; clear n0_ n1_ n2_ n3_; clear hb hbox hg) | ((with_reducible refine gate_dst (N := 5) rfl ?_); refine box_event ?hg (N := 5) ?hd (cs := #[.bool false, .bool false, .bool false, .bool false, .bool false]) (t := 24) ?hr ?_; (case hd => rfl); (case hg => rfl); (case hr => first | (go_simp; done) | (go_simp; rfl)); intro gb485 hg w5 hbox hb; have n0_ := Aside0.mk (blk_below (g := gb484) (o := .cells #[.bool a1_0, .bool a1_1, .bool a1_2, .bool a1_3, .bool a1_4] 24 (0, 0)) (by (with_reducible repeat (first | refine blk_drewN ?_ _ | refine blk_drew ?_ | refine blk_alloc ?_ _)); exact BK484.out) hb); have n1_ := Aside0.mk (below_step (by repeat (first | (with_reducible first | exact HB.out | apply below_alloc | apply pw_below_drewN | apply below_drew1 | refine below_set ?_ GE484.out) | exact HB.out)) hb); have n2_ := Aside0.mk (hbox); have n3_ := Aside0.mk ((by rw [hg]; exact (below_size (by repeat (first | (with_reducible first | exact HB.out | apply below_alloc | apply pw_below_drewN | apply below_drew1 | refine below_set ?_ GE484.out) | exact HB.out))) : w.heap.size ≤ gb485)); have n4_ := Aside0.mk ((by rw [hg]; exact (below_size (by repeat (first | (with_reducible first | exact HB.out | apply below_alloc | apply pw_below_drewN | apply below_drew1 | refine below_set ?_ GE484.out) | exact HB.out))) : w.heap.size ≤ gb485)); have n5_ := Aside0.mk ((by rw [hg]; exact Nat.ne_of_lt (blk_lt (g := gb484) (o := .cells #[.bool a1_0, .bool a1_1, .bool a1_2, .bool a1_3, .bool a1_4] 24 (0, 0)) (by (with_reducible repeat (first | refine blk_drewN ?_ _ | refine blk_drew ?_ | refine blk_alloc ?_ _)); exact BK484.out)) : gb484 ≠ gb485)); have n6_ := Aside0.mk ((by rw [hg]; exact Nat.ne_of_gt (blk_lt (g := gb484) (o := .cells #[.bool a1_0, .bool a1_1, .bool a1_2, .bool a1_3, .bool a1_4] 24 (0, 0)) (by (with_reducible repeat (first | refine blk_drewN ?_ _ | refine blk_drew ?_ | refine blk_alloc ?_ _)); exact BK484.out)) : gb485 ≠ gb484)); clear BK484; clear HB; have BK484 := n0_; have HB := n1_; have BK485 := n2_; have GW485 := n3_; have GE485 := n4_; have NB484_485 := n5_; have NB485_484 := n6_; clear n0_ n1_ n2_ n3_ n4_ n5_ n6_; clear hb hbox hg))
  (try simp only [Act.put, List.setIfInBounds_toArray, List.set_cons_zero, List.set_cons_succ])
  go_cut [17] (fun v17 wc => ∃ (kq : Nat) (x17_2 : Bool), v17 = .bool x17_2 ∧ Aside0 (pidginref01_Daa.j0 kq (wrap64 (a0)) false x17_2 a1_0 a1_1 a1_2 a1_3 a1_4 = some (r1, r2, r3, r4, r5, r6)) ∧ Aside0 (kq ≤ k) ∧ Aside0 (wc.heap[gb484]? = some (.cells #[.bool a1_0, .bool a1_1, .bool a1_2, .bool a1_3, .bool a1_4] 24 (0, 0))) ∧ Aside0 (wc.heap[gb485]? = some (.cells #[.bool false, .bool false, .bool false, .bool false, .bool false] 24 (0, 0))) ∧ Aside0 (Below w.heap.size w wc))
  case first =>
    have H := HC3.out
    clear HC3
    by_cases c6 : (Int.tmod (wrap64 (a0)) 16) > 9
    · rw [if_pos c6] at H
      have c6b0 : decide (9 < (Int.tmod (wrap64 (a0)) 16)) = true := decide_eq_true c6
      clear c6
      (first | rw [c6b0] | (simp only [i64_w, i32_w]; rw [c6b0]) | skip)
      have H' := Aside0.mk H
      clear H
      go_wp2
      go_meet
      case rel => exact ⟨_, (true), (by first | rfl | (simp; done) | (simp [*]; done)), H', ⟨by first | omega | exact Nat.le_refl _⟩, ⟨by (with_reducible repeat (first | refine blk_drewN ?_ _ | refine blk_drew ?_ | refine blk_alloc ?_ _)); exact BK484.out⟩, ⟨by (with_reducible repeat (first | refine blk_drewN ?_ _ | refine blk_drew ?_ | refine blk_alloc ?_ _)); exact BK485.out⟩, ⟨by repeat (first | (with_reducible first | exact HB.out | apply below_alloc | apply pw_below_drewN | apply below_drew1 | refine below_set ?_ GE484.out | refine below_set ?_ GE485.out) | exact HB.out)⟩⟩
    · rw [if_neg c6] at H
      have c6b0 : decide (9 < (Int.tmod (wrap64 (a0)) 16)) = false := decide_eq_false c6
      clear c6
      (first | rw [c6b0] | (simp only [i64_w, i32_w]; rw [c6b0]) | skip)
      have H' := Aside0.mk H
      clear H
      have hnb7 := NB484_485.out
      have hnc7 := NB485_484.out
      have hcz8_0 : w5.cell? ⟨gb484, 0, none⟩ = some (.bool a1_0) := (blk_cell BK484.out 0).trans rfl
      have hcz8_1 : w5.cell? ⟨gb484, 1, none⟩ = some (.bool a1_1) := (blk_cell BK484.out 1).trans rfl
      have hcz8_2 : w5.cell? ⟨gb484, 2, none⟩ = some (.bool a1_2) := (blk_cell BK484.out 2).trans rfl
      have hcz8_3 : w5.cell? ⟨gb484, 3, none⟩ = some (.bool a1_3) := (blk_cell BK484.out 3).trans rfl
      have hcz8_4 : w5.cell? ⟨gb484, 4, none⟩ = some (.bool a1_4) := (blk_cell BK484.out 4).trans rfl
      have hfz8_0 := blk_frozen BK484.out 0
      have hfz8_1 := blk_frozen BK484.out 1
      have hfz8_2 := blk_frozen BK484.out 2
      have hfz8_3 := blk_frozen BK484.out 3
      have hfz8_4 := blk_frozen BK484.out 4
      go_wp2
      go_meet
      case rel => exact ⟨_, (a1_2), (by first | rfl | (simp; done) | (simp [*]; done)), H', ⟨by first | omega | exact Nat.le_refl _⟩, ⟨by (with_reducible repeat (first | refine blk_drewN ?_ _ | refine blk_drew ?_ | refine blk_alloc ?_ _)); exact BK484.out⟩, ⟨by (with_reducible repeat (first | refine blk_drewN ?_ _ | refine blk_drew ?_ | refine blk_alloc ?_ _)); exact BK485.out⟩, ⟨by repeat (first | (with_reducible first | exact HB.out | apply below_alloc | apply pw_below_drewN | apply below_drew1 | refine below_set ?_ GE484.out | refine below_set ?_ GE485.out) | exact HB.out)⟩⟩
  case rest =>
    clear HC3
    try clear p2
    try clear c6
    try clear c6b0
    try clear p6
    try clear c7
    try clear hcz8_0
    try clear hcz8_1
    try clear hcz8_2
    try clear hcz8_3
    try clear hcz8_4
    try clear hfz8_0
    try clear hfz8_1
    try clear hfz8_2
    try clear hfz8_3
    try clear hfz8_4
    obtain ⟨kq, x17_2, rfl, HA, HJ2, BK484, BK485, HB⟩ := hcut
    cases kq with
    | zero => exact absurd HA.out (by simp [pidginref01_Daa.j0])
    | succ kj2 =>
      have H := HA.out
      clear HA
      simp only [pidginref01_Daa.j0] at H
      by_cases c9 : x17_2 = true
      · subst c9
        have H1 : (if (wrap64 (Int.tdiv (wrap64 ((wrap64 (a0)) + 6)) 16)) > 9 then ((pidginref01_told.f kj2 (wrap64 ((wrap64 ((wrap64 (a0)) + 6)) + 96)) (decide ((wrap64 ((Int.tmod (wrap64 (a0)) 16) + 6)) > 15)) true).bind fun bt486 => (some (bt486.1, bt486.2.1, bt486.2.2.1, bt486.2.2.2.1, bt486.2.2.2.2.1, bt486.2.2.2.2.2))) else (if a1_4 = true then ((pidginref01_told.f kj2 (wrap64 ((wrap64 ((wrap64 (a0)) + 6)) + 96)) (decide ((wrap64 ((Int.tmod (wrap64 (a0)) 16) + 6)) > 15)) a1_4).bind fun bt492 => (some (bt492.1, bt492.2.1, bt492.2.2.1, bt492.2.2.2.1, bt492.2.2.2.2.1, bt492.2.2.2.2.2))) else ((pidginref01_told.f kj2 (wrap64 ((wrap64 (a0)) + 6)) (decide ((wrap64 ((Int.tmod (wrap64 (a0)) 16) + 6)) > 15)) a1_4).bind fun bt498 => (some (bt498.1, bt498.2.1, bt498.2.2.1, bt498.2.2.2.1, bt498.2.2.2.2.1, bt498.2.2.2.2.2))))) = some (r1, r2, r3, r4, r5, r6) := by rw [if_pos rfl] at H; exact H
        clear H
        have H := H1
        clear H1
        by_cases c10 : (wrap64 (Int.tdiv (wrap64 ((wrap64 (a0)) + 6)) 16)) > 9
        · rw [if_pos c10] at H
          have c10b0 : decide (9 < (wrap64 (Int.tdiv (wrap64 ((wrap64 (a0)) + 6)) 16))) = true := decide_eq_true c10
          clear c10
          replace H := Option.bind_eq_some_iff.mp H
          obtain ⟨⟨t486, t487, t488, t489, t490, t491⟩, A110, H⟩ := H
          have A11 := Aside0.mk A110
          clear A110
          simp only [Option.some.injEq, Prod.mk.injEq] at H
          obtain ⟨rfl, rfl, rfl, rfl, rfl, rfl⟩ := H
          go_wp2_with (first | ((with_reducible refine gate_callee (f := 94) rfl ?_); refine goesL_ (some 37) rfl rfl Try.func94 (by kernel_rfl) rfl #[.int .i64 (wrap64 ((wrap64 ((wrap64 (a0)) + 6)) + 96)), .bool (decide ((wrap64 ((Int.tmod (wrap64 (a0)) 16) + 6)) > 15)), .bool true] rfl (by (try simp only [List.map_toArray, List.map_cons, List.map_nil]); first | done | rfl | (simp only [IntKind.wrap_u8, Int.emod_add_emod, Int.add_emod_emod] <;> rfl)) ?_; (with_reducible refine (pidginref01_told.calls kj2 (wrap64 ((wrap64 ((wrap64 (a0)) + 6)) + 96)) (decide ((wrap64 ((Int.tmod (wrap64 (a0)) 16) + 6)) > 15)) true t486 t487 t488 t489 t490 t491 _ A11.out).mono ?_); rintro e w12 ⟨rfl, hb⟩; refine ⟨_, rfl, ?_⟩; have n0_ := Aside0.mk (blk_below (g := gb484) (o := .cells #[.bool a1_0, .bool a1_1, .bool a1_2, .bool a1_3, .bool a1_4] 24 (0, 0)) (by (with_reducible repeat (first | refine blk_drewN ?_ _ | refine blk_drew ?_ | refine blk_alloc ?_ _)); exact BK484.out) hb); have n1_ := Aside0.mk (blk_below (g := gb485) (o := .cells #[.bool false, .bool false, .bool false, .bool false, .bool false] 24 (0, 0)) (by (with_reducible repeat (first | refine blk_drewN ?_ _ | refine blk_drew ?_ | refine blk_alloc ?_ _)); exact BK485.out) hb); have n2_ := Aside0.mk (below_step (by repeat (first | (with_reducible first | exact HB.out | apply below_alloc | apply pw_below_drewN | apply below_drew1 | refine below_set ?_ GE484.out | refine below_set ?_ GE485.out) | exact HB.out)) hb); clear BK484; clear BK485; clear HB; have BK484 := n0_; have BK485 := n1_; have HB := n2_; clear n0_ n1_ n2_; (try clear hb); (try clear hb2); (try clear hk); (try clear hi); have hnb13 := NB485_484.out; have hnc13 := NB484_485.out; have hcz14_0 : w12.cell? ⟨gb485, 0, none⟩ = some (.bool false) := (blk_cell BK485.out 0).trans rfl; have hcz14_1 : w12.cell? ⟨gb485, 1, none⟩ = some (.bool false) := (blk_cell BK485.out 1).trans rfl; have hcz14_2 : w12.cell? ⟨gb485, 2, none⟩ = some (.bool false) := (blk_cell BK485.out 2).trans rfl; have hcz14_3 : w12.cell? ⟨gb485, 3, none⟩ = some (.bool false) := (blk_cell BK485.out 3).trans rfl; have hcz14_4 : w12.cell? ⟨gb485, 4, none⟩ = some (.bool false) := (blk_cell BK485.out 4).trans rfl; have hfz14_0 := blk_frozen BK485.out 0; have hfz14_1 := blk_frozen BK485.out 1; have hfz14_2 := blk_frozen BK485.out 2; have hfz14_3 := blk_frozen BK485.out 3; have hfz14_4 := blk_frozen BK485.out 4))
          refine bodyPost_ret (results_tc rfl _ _ gb485 24 #[.bool t487, .bool t488, .bool t489, .bool t490, .bool t491] (0, 0) _ rfl (by (with_reducible repeat (first | refine blk_drewN ?_ _ | refine blk_drew ?_ | refine blk_alloc ?_ _)); refine blk_put (cs := #[.bool t487, .bool t488, .bool t489, .bool t490, .bool false]) ?_ 4 _ rfl; (with_reducible repeat (first | refine blk_drewN ?_ _ | refine blk_drew ?_ | refine blk_alloc ?_ _)); refine blk_put (cs := #[.bool t487, .bool t488, .bool t489, .bool false, .bool false]) ?_ 3 _ rfl; (with_reducible repeat (first | refine blk_drewN ?_ _ | refine blk_drew ?_ | refine blk_alloc ?_ _)); refine blk_put (cs := #[.bool t487, .bool t488, .bool false, .bool false, .bool false]) ?_ 2 _ rfl; (with_reducible repeat (first | refine blk_drewN ?_ _ | refine blk_drew ?_ | refine blk_alloc ?_ _)); refine blk_put (cs := #[.bool t487, .bool false, .bool false, .bool false, .bool false]) ?_ 1 _ rfl; (with_reducible repeat (first | refine blk_drewN ?_ _ | refine blk_drew ?_ | refine blk_alloc ?_ _)); refine blk_put (cs := #[.bool false, .bool false, .bool false, .bool false, .bool false]) ?_ 0 _ rfl; (with_reducible repeat (first | refine blk_drewN ?_ _ | refine blk_drew ?_ | refine blk_alloc ?_ _)); exact BK485.out) Try.underlying24 rfl (by kernel_rfl)) rfl ?_
          exact ⟨by first | rfl | (simp <;> rfl) | (simp [*] <;> rfl), by repeat (first | (with_reducible first | exact HB.out | apply below_alloc | apply pw_below_drewN | apply below_drew1 | refine below_set ?_ GE484.out | refine below_set ?_ GE485.out) | exact HB.out)⟩
        · rw [if_neg c10] at H
          have c10b0 : decide (9 < (wrap64 (Int.tdiv (wrap64 ((wrap64 (a0)) + 6)) 16))) = false := decide_eq_false c10
          clear c10
          by_cases c15 : a1_4 = true
          · subst c15
            have H1 : ((pidginref01_told.f kj2 (wrap64 ((wrap64 ((wrap64 (a0)) + 6)) + 96)) (decide ((wrap64 ((Int.tmod (wrap64 (a0)) 16) + 6)) > 15)) true).bind fun bt492 => (some (bt492.1, bt492.2.1, bt492.2.2.1, bt492.2.2.2.1, bt492.2.2.2.2.1, bt492.2.2.2.2.2))) = some (r1, r2, r3, r4, r5, r6) := by rw [if_pos rfl] at H; exact H
            clear H
            have H := H1
            clear H1
            replace H := Option.bind_eq_some_iff.mp H
            obtain ⟨⟨t492, t493, t494, t495, t496, t497⟩, A160, H⟩ := H
            have A16 := Aside0.mk A160
            clear A160
            simp only [Option.some.injEq, Prod.mk.injEq] at H
            obtain ⟨rfl, rfl, rfl, rfl, rfl, rfl⟩ := H
            have hnb17 := NB484_485.out
            have hnc17 := NB485_484.out
            have hcz18_0 : wc.cell? ⟨gb484, 0, none⟩ = some (.bool a1_0) := (blk_cell BK484.out 0).trans rfl
            have hcz18_1 : wc.cell? ⟨gb484, 1, none⟩ = some (.bool a1_1) := (blk_cell BK484.out 1).trans rfl
            have hcz18_2 : wc.cell? ⟨gb484, 2, none⟩ = some (.bool a1_2) := (blk_cell BK484.out 2).trans rfl
            have hcz18_3 : wc.cell? ⟨gb484, 3, none⟩ = some (.bool a1_3) := (blk_cell BK484.out 3).trans rfl
            have hcz18_4 : wc.cell? ⟨gb484, 4, none⟩ = some (.bool true) := (blk_cell BK484.out 4).trans rfl
            have hfz18_0 := blk_frozen BK484.out 0
            have hfz18_1 := blk_frozen BK484.out 1
            have hfz18_2 := blk_frozen BK484.out 2
            have hfz18_3 := blk_frozen BK484.out 3
            have hfz18_4 := blk_frozen BK484.out 4
            go_wp2_with (first | ((with_reducible refine gate_callee (f := 94) rfl ?_); refine goesL_ (some 37) rfl rfl Try.func94 (by kernel_rfl) rfl #[.int .i64 (wrap64 ((wrap64 ((wrap64 (a0)) + 6)) + 96)), .bool (decide ((wrap64 ((Int.tmod (wrap64 (a0)) 16) + 6)) > 15)), .bool true] rfl (by (try simp only [List.map_toArray, List.map_cons, List.map_nil]); first | done | rfl | (simp only [IntKind.wrap_u8, Int.emod_add_emod, Int.add_emod_emod] <;> rfl)) ?_; (with_reducible refine (pidginref01_told.calls kj2 (wrap64 ((wrap64 ((wrap64 (a0)) + 6)) + 96)) (decide ((wrap64 ((Int.tmod (wrap64 (a0)) 16) + 6)) > 15)) true t492 t493 t494 t495 t496 t497 _ A16.out).mono ?_); rintro e w19 ⟨rfl, hb⟩; refine ⟨_, rfl, ?_⟩; have n0_ := Aside0.mk (blk_below (g := gb484) (o := .cells #[.bool a1_0, .bool a1_1, .bool a1_2, .bool a1_3, .bool true] 24 (0, 0)) (by (with_reducible repeat (first | refine blk_drewN ?_ _ | refine blk_drew ?_ | refine blk_alloc ?_ _)); exact BK484.out) hb); have n1_ := Aside0.mk (blk_below (g := gb485) (o := .cells #[.bool false, .bool false, .bool false, .bool false, .bool false] 24 (0, 0)) (by (with_reducible repeat (first | refine blk_drewN ?_ _ | refine blk_drew ?_ | refine blk_alloc ?_ _)); exact BK485.out) hb); have n2_ := Aside0.mk (below_step (by repeat (first | (with_reducible first | exact HB.out | apply below_alloc | apply pw_below_drewN | apply below_drew1 | refine below_set ?_ GE484.out | refine below_set ?_ GE485.out) | exact HB.out)) hb); clear BK484; clear BK485; clear HB; have BK484 := n0_; have BK485 := n1_; have HB := n2_; clear n0_ n1_ n2_; (try clear hb); (try clear hb2); (try clear hk); (try clear hi); have hcz20_0 : w19.cell? ⟨gb485, 0, none⟩ = some (.bool false) := (blk_cell BK485.out 0).trans rfl; have hcz20_1 : w19.cell? ⟨gb485, 1, none⟩ = some (.bool false) := (blk_cell BK485.out 1).trans rfl; have hcz20_2 : w19.cell? ⟨gb485, 2, none⟩ = some (.bool false) := (blk_cell BK485.out 2).trans rfl; have hcz20_3 : w19.cell? ⟨gb485, 3, none⟩ = some (.bool false) := (blk_cell BK485.out 3).trans rfl; have hcz20_4 : w19.cell? ⟨gb485, 4, none⟩ = some (.bool false) := (blk_cell BK485.out 4).trans rfl; have hfz20_0 := blk_frozen BK485.out 0; have hfz20_1 := blk_frozen BK485.out 1; have hfz20_2 := blk_frozen BK485.out 2; have hfz20_3 := blk_frozen BK485.out 3; have hfz20_4 := blk_frozen BK485.out 4))
            refine bodyPost_ret (results_tc rfl _ _ gb485 24 #[.bool t493, .bool t494, .bool t495, .bool t496, .bool t497] (0, 0) _ rfl (by (with_reducible repeat (first | refine blk_drewN ?_ _ | refine blk_drew ?_ | refine blk_alloc ?_ _)); refine blk_put (cs := #[.bool t493, .bool t494, .bool t495, .bool t496, .bool false]) ?_ 4 _ rfl; (with_reducible repeat (first | refine blk_drewN ?_ _ | refine blk_drew ?_ | refine blk_alloc ?_ _)); refine blk_put (cs := #[.bool t493, .bool t494, .bool t495, .bool false, .bool false]) ?_ 3 _ rfl; (with_reducible repeat (first | refine blk_drewN ?_ _ | refine blk_drew ?_ | refine blk_alloc ?_ _)); refine blk_put (cs := #[.bool t493, .bool t494, .bool false, .bool false, .bool false]) ?_ 2 _ rfl; (with_reducible repeat (first | refine blk_drewN ?_ _ | refine blk_drew ?_ | refine blk_alloc ?_ _)); refine blk_put (cs := #[.bool t493, .bool false, .bool false, .bool false, .bool false]) ?_ 1 _ rfl; (with_reducible repeat (first | refine blk_drewN ?_ _ | refine blk_drew ?_ | refine blk_alloc ?_ _)); refine blk_put (cs := #[.bool false, .bool false, .bool false, .bool false, .bool false]) ?_ 0 _ rfl; (with_reducible repeat (first | refine blk_drewN ?_ _ | refine blk_drew ?_ | refine blk_alloc ?_ _)); exact BK485.out) Try.underlying24 rfl (by kernel_rfl)) rfl ?_
            exact ⟨by first | rfl | (simp <;> rfl) | (simp [*] <;> rfl), by repeat (first | (with_reducible first | exact HB.out | apply below_alloc | apply pw_below_drewN | apply below_drew1 | refine below_set ?_ GE484.out | refine below_set ?_ GE485.out) | exact HB.out)⟩
          · replace c15 := Bool.eq_false_iff.mpr c15
            subst c15
            have H1 : ((pidginref01_told.f kj2 (wrap64 ((wrap64 (a0)) + 6)) (decide ((wrap64 ((Int.tmod (wrap64 (a0)) 16) + 6)) > 15)) false).bind fun bt498 => (some (bt498.1, bt498.2.1, bt498.2.2.1, bt498.2.2.2.1, bt498.2.2.2.2.1, bt498.2.2.2.2.2))) = some (r1, r2, r3, r4, r5, r6) := by rw [if_neg (show ¬ (false = true) by decide)] at H; exact H
            clear H
            have H := H1
            clear H1
            replace H := Option.bind_eq_some_iff.mp H
            obtain ⟨⟨t498, t499, t500, t501, t502, t503⟩, A210, H⟩ := H
            have A21 := Aside0.mk A210
            clear A210
            simp only [Option.some.injEq, Prod.mk.injEq] at H
            obtain ⟨rfl, rfl, rfl, rfl, rfl, rfl⟩ := H
            have hnb22 := NB484_485.out
            have hnc22 := NB485_484.out
            have hcz23_0 : wc.cell? ⟨gb484, 0, none⟩ = some (.bool a1_0) := (blk_cell BK484.out 0).trans rfl
            have hcz23_1 : wc.cell? ⟨gb484, 1, none⟩ = some (.bool a1_1) := (blk_cell BK484.out 1).trans rfl
            have hcz23_2 : wc.cell? ⟨gb484, 2, none⟩ = some (.bool a1_2) := (blk_cell BK484.out 2).trans rfl
            have hcz23_3 : wc.cell? ⟨gb484, 3, none⟩ = some (.bool a1_3) := (blk_cell BK484.out 3).trans rfl
            have hcz23_4 : wc.cell? ⟨gb484, 4, none⟩ = some (.bool false) := (blk_cell BK484.out 4).trans rfl
            have hfz23_0 := blk_frozen BK484.out 0
            have hfz23_1 := blk_frozen BK484.out 1
            have hfz23_2 := blk_frozen BK484.out 2
            have hfz23_3 := blk_frozen BK484.out 3
            have hfz23_4 := blk_frozen BK484.out 4
            go_wp2_with (first | ((with_reducible refine gate_callee (f := 94) rfl ?_); refine goesL_ (some 37) rfl rfl Try.func94 (by kernel_rfl) rfl #[.int .i64 (wrap64 ((wrap64 (a0)) + 6)), .bool (decide ((wrap64 ((Int.tmod (wrap64 (a0)) 16) + 6)) > 15)), .bool false] rfl (by (try simp only [List.map_toArray, List.map_cons, List.map_nil]); first | done | rfl | (simp only [IntKind.wrap_u8, Int.emod_add_emod, Int.add_emod_emod] <;> rfl)) ?_; (with_reducible refine (pidginref01_told.calls kj2 (wrap64 ((wrap64 (a0)) + 6)) (decide ((wrap64 ((Int.tmod (wrap64 (a0)) 16) + 6)) > 15)) false t498 t499 t500 t501 t502 t503 _ A21.out).mono ?_); rintro e w24 ⟨rfl, hb⟩; refine ⟨_, rfl, ?_⟩; have n0_ := Aside0.mk (blk_below (g := gb484) (o := .cells #[.bool a1_0, .bool a1_1, .bool a1_2, .bool a1_3, .bool false] 24 (0, 0)) (by (with_reducible repeat (first | refine blk_drewN ?_ _ | refine blk_drew ?_ | refine blk_alloc ?_ _)); exact BK484.out) hb); have n1_ := Aside0.mk (blk_below (g := gb485) (o := .cells #[.bool false, .bool false, .bool false, .bool false, .bool false] 24 (0, 0)) (by (with_reducible repeat (first | refine blk_drewN ?_ _ | refine blk_drew ?_ | refine blk_alloc ?_ _)); exact BK485.out) hb); have n2_ := Aside0.mk (below_step (by repeat (first | (with_reducible first | exact HB.out | apply below_alloc | apply pw_below_drewN | apply below_drew1 | refine below_set ?_ GE484.out | refine below_set ?_ GE485.out) | exact HB.out)) hb); clear BK484; clear BK485; clear HB; have BK484 := n0_; have BK485 := n1_; have HB := n2_; clear n0_ n1_ n2_; (try clear hb); (try clear hb2); (try clear hk); (try clear hi); have hcz25_0 : w24.cell? ⟨gb485, 0, none⟩ = some (.bool false) := (blk_cell BK485.out 0).trans rfl; have hcz25_1 : w24.cell? ⟨gb485, 1, none⟩ = some (.bool false) := (blk_cell BK485.out 1).trans rfl; have hcz25_2 : w24.cell? ⟨gb485, 2, none⟩ = some (.bool false) := (blk_cell BK485.out 2).trans rfl; have hcz25_3 : w24.cell? ⟨gb485, 3, none⟩ = some (.bool false) := (blk_cell BK485.out 3).trans rfl; have hcz25_4 : w24.cell? ⟨gb485, 4, none⟩ = some (.bool false) := (blk_cell BK485.out 4).trans rfl; have hfz25_0 := blk_frozen BK485.out 0; have hfz25_1 := blk_frozen BK485.out 1; have hfz25_2 := blk_frozen BK485.out 2; have hfz25_3 := blk_frozen BK485.out 3; have hfz25_4 := blk_frozen BK485.out 4))
            refine bodyPost_ret (results_tc rfl _ _ gb485 24 #[.bool t499, .bool t500, .bool t501, .bool t502, .bool t503] (0, 0) _ rfl (by (with_reducible repeat (first | refine blk_drewN ?_ _ | refine blk_drew ?_ | refine blk_alloc ?_ _)); refine blk_put (cs := #[.bool t499, .bool t500, .bool t501, .bool t502, .bool false]) ?_ 4 _ rfl; (with_reducible repeat (first | refine blk_drewN ?_ _ | refine blk_drew ?_ | refine blk_alloc ?_ _)); refine blk_put (cs := #[.bool t499, .bool t500, .bool t501, .bool false, .bool false]) ?_ 3 _ rfl; (with_reducible repeat (first | refine blk_drewN ?_ _ | refine blk_drew ?_ | refine blk_alloc ?_ _)); refine blk_put (cs := #[.bool t499, .bool t500, .bool false, .bool false, .bool false]) ?_ 2 _ rfl; (with_reducible repeat (first | refine blk_drewN ?_ _ | refine blk_drew ?_ | refine blk_alloc ?_ _)); refine blk_put (cs := #[.bool t499, .bool false, .bool false, .bool false, .bool false]) ?_ 1 _ rfl; (with_reducible repeat (first | refine blk_drewN ?_ _ | refine blk_drew ?_ | refine blk_alloc ?_ _)); refine blk_put (cs := #[.bool false, .bool false, .bool false, .bool false, .bool false]) ?_ 0 _ rfl; (with_reducible repeat (first | refine blk_drewN ?_ _ | refine blk_drew ?_ | refine blk_alloc ?_ _)); exact BK485.out) Try.underlying24 rfl (by kernel_rfl)) rfl ?_
            exact ⟨by first | rfl | (simp <;> rfl) | (simp [*] <;> rfl), by repeat (first | (with_reducible first | exact HB.out | apply below_alloc | apply pw_below_drewN | apply below_drew1 | refine below_set ?_ GE484.out | refine below_set ?_ GE485.out) | exact HB.out)⟩
      · replace c9 := Bool.eq_false_iff.mpr c9
        subst c9
        have H1 : (if (wrap64 (Int.tdiv (wrap64 (a0)) 16)) > 9 then ((pidginref01_told.f kj2 (wrap64 ((wrap64 (a0)) + 96)) false true).bind fun bt504 => (some (bt504.1, bt504.2.1, bt504.2.2.1, bt504.2.2.2.1, bt504.2.2.2.2.1, bt504.2.2.2.2.2))) else (if a1_4 = true then ((pidginref01_told.f kj2 (wrap64 ((wrap64 (a0)) + 96)) false a1_4).bind fun bt510 => (some (bt510.1, bt510.2.1, bt510.2.2.1, bt510.2.2.2.1, bt510.2.2.2.2.1, bt510.2.2.2.2.2))) else ((pidginref01_told.f kj2 (wrap64 (a0)) false a1_4).bind fun bt516 => (some (bt516.1, bt516.2.1, bt516.2.2.1, bt516.2.2.2.1, bt516.2.2.2.2.1, bt516.2.2.2.2.2))))) = some (r1, r2, r3, r4, r5, r6) := by rw [if_neg (show ¬ (false = true) by decide)] at H; exact H
        clear H
        have H := H1
        clear H1
        by_cases c26 : (wrap64 (Int.tdiv (wrap64 (a0)) 16)) > 9
        · rw [if_pos c26] at H
          have c26b0 : decide (9 < (wrap64 (Int.tdiv (wrap64 (a0)) 16))) = true := decide_eq_true c26
          clear c26
          replace H := Option.bind_eq_some_iff.mp H
          obtain ⟨⟨t504, t505, t506, t507, t508, t509⟩, A270, H⟩ := H
          have A27 := Aside0.mk A270
          clear A270
          simp only [Option.some.injEq, Prod.mk.injEq] at H
          obtain ⟨rfl, rfl, rfl, rfl, rfl, rfl⟩ := H
          go_wp2_with (first | ((with_reducible refine gate_callee (f := 94) rfl ?_); refine goesL_ (some 37) rfl rfl Try.func94 (by kernel_rfl) rfl #[.int .i64 (wrap64 ((wrap64 (a0)) + 96)), .bool false, .bool true] rfl (by (try simp only [List.map_toArray, List.map_cons, List.map_nil]); first | done | rfl | (simp only [IntKind.wrap_u8, Int.emod_add_emod, Int.add_emod_emod] <;> rfl)) ?_; (with_reducible refine (pidginref01_told.calls kj2 (wrap64 ((wrap64 (a0)) + 96)) false true t504 t505 t506 t507 t508 t509 _ A27.out).mono ?_); rintro e w28 ⟨rfl, hb⟩; refine ⟨_, rfl, ?_⟩; have n0_ := Aside0.mk (blk_below (g := gb484) (o := .cells #[.bool a1_0, .bool a1_1, .bool a1_2, .bool a1_3, .bool a1_4] 24 (0, 0)) (by (with_reducible repeat (first | refine blk_drewN ?_ _ | refine blk_drew ?_ | refine blk_alloc ?_ _)); exact BK484.out) hb); have n1_ := Aside0.mk (blk_below (g := gb485) (o := .cells #[.bool false, .bool false, .bool false, .bool false, .bool false] 24 (0, 0)) (by (with_reducible repeat (first | refine blk_drewN ?_ _ | refine blk_drew ?_ | refine blk_alloc ?_ _)); exact BK485.out) hb); have n2_ := Aside0.mk (below_step (by repeat (first | (with_reducible first | exact HB.out | apply below_alloc | apply pw_below_drewN | apply below_drew1 | refine below_set ?_ GE484.out | refine below_set ?_ GE485.out) | exact HB.out)) hb); clear BK484; clear BK485; clear HB; have BK484 := n0_; have BK485 := n1_; have HB := n2_; clear n0_ n1_ n2_; (try clear hb); (try clear hb2); (try clear hk); (try clear hi); have hnb29 := NB485_484.out; have hnc29 := NB484_485.out; have hcz30_0 : w28.cell? ⟨gb485, 0, none⟩ = some (.bool false) := (blk_cell BK485.out 0).trans rfl; have hcz30_1 : w28.cell? ⟨gb485, 1, none⟩ = some (.bool false) := (blk_cell BK485.out 1).trans rfl; have hcz30_2 : w28.cell? ⟨gb485, 2, none⟩ = some (.bool false) := (blk_cell BK485.out 2).trans rfl; have hcz30_3 : w28.cell? ⟨gb485, 3, none⟩ = some (.bool false) := (blk_cell BK485.out 3).trans rfl; have hcz30_4 : w28.cell? ⟨gb485, 4, none⟩ = some (.bool false) := (blk_cell BK485.out 4).trans rfl; have hfz30_0 := blk_frozen BK485.out 0; have hfz30_1 := blk_frozen BK485.out 1; have hfz30_2 := blk_frozen BK485.out 2; have hfz30_3 := blk_frozen BK485.out 3; have hfz30_4 := blk_frozen BK485.out 4))
          refine bodyPost_ret (results_tc rfl _ _ gb485 24 #[.bool t505, .bool t506, .bool t507, .bool t508, .bool t509] (0, 0) _ rfl (by (with_reducible repeat (first | refine blk_drewN ?_ _ | refine blk_drew ?_ | refine blk_alloc ?_ _)); refine blk_put (cs := #[.bool t505, .bool t506, .bool t507, .bool t508, .bool false]) ?_ 4 _ rfl; (with_reducible repeat (first | refine blk_drewN ?_ _ | refine blk_drew ?_ | refine blk_alloc ?_ _)); refine blk_put (cs := #[.bool t505, .bool t506, .bool t507, .bool false, .bool false]) ?_ 3 _ rfl; (with_reducible repeat (first | refine blk_drewN ?_ _ | refine blk_drew ?_ | refine blk_alloc ?_ _)); refine blk_put (cs := #[.bool t505, .bool t506, .bool false, .bool false, .bool false]) ?_ 2 _ rfl; (with_reducible repeat (first | refine blk_drewN ?_ _ | refine blk_drew ?_ | refine blk_alloc ?_ _)); refine blk_put (cs := #[.bool t505, .bool false, .bool false, .bool false, .bool false]) ?_ 1 _ rfl; (with_reducible repeat (first | refine blk_drewN ?_ _ | refine blk_drew ?_ | refine blk_alloc ?_ _)); refine blk_put (cs := #[.bool false, .bool false, .bool false, .bool false, .bool false]) ?_ 0 _ rfl; (with_reducible repeat (first | refine blk_drewN ?_ _ | refine blk_drew ?_ | refine blk_alloc ?_ _)); exact BK485.out) Try.underlying24 rfl (by kernel_rfl)) rfl ?_
          exact ⟨by first | rfl | (simp <;> rfl) | (simp [*] <;> rfl), by repeat (first | (with_reducible first | exact HB.out | apply below_alloc | apply pw_below_drewN | apply below_drew1 | refine below_set ?_ GE484.out | refine below_set ?_ GE485.out) | exact HB.out)⟩
        · rw [if_neg c26] at H
          have c26b0 : decide (9 < (wrap64 (Int.tdiv (wrap64 (a0)) 16))) = false := decide_eq_false c26
          clear c26
          by_cases c31 : a1_4 = true
          · subst c31
            have H1 : ((pidginref01_told.f kj2 (wrap64 ((wrap64 (a0)) + 96)) false true).bind fun bt510 => (some (bt510.1, bt510.2.1, bt510.2.2.1, bt510.2.2.2.1, bt510.2.2.2.2.1, bt510.2.2.2.2.2))) = some (r1, r2, r3, r4, r5, r6) := by rw [if_pos rfl] at H; exact H
            clear H
            have H := H1
            clear H1
            replace H := Option.bind_eq_some_iff.mp H
            obtain ⟨⟨t510, t511, t512, t513, t514, t515⟩, A320, H⟩ := H
            have A32 := Aside0.mk A320
            clear A320
            simp only [Option.some.injEq, Prod.mk.injEq] at H
            obtain ⟨rfl, rfl, rfl, rfl, rfl, rfl⟩ := H
            have hnb33 := NB484_485.out
            have hnc33 := NB485_484.out
            have hcz34_0 : wc.cell? ⟨gb484, 0, none⟩ = some (.bool a1_0) := (blk_cell BK484.out 0).trans rfl
            have hcz34_1 : wc.cell? ⟨gb484, 1, none⟩ = some (.bool a1_1) := (blk_cell BK484.out 1).trans rfl
            have hcz34_2 : wc.cell? ⟨gb484, 2, none⟩ = some (.bool a1_2) := (blk_cell BK484.out 2).trans rfl
            have hcz34_3 : wc.cell? ⟨gb484, 3, none⟩ = some (.bool a1_3) := (blk_cell BK484.out 3).trans rfl
            have hcz34_4 : wc.cell? ⟨gb484, 4, none⟩ = some (.bool true) := (blk_cell BK484.out 4).trans rfl
            have hfz34_0 := blk_frozen BK484.out 0
            have hfz34_1 := blk_frozen BK484.out 1
            have hfz34_2 := blk_frozen BK484.out 2
            have hfz34_3 := blk_frozen BK484.out 3
            have hfz34_4 := blk_frozen BK484.out 4
            go_wp2_with (first | ((with_reducible refine gate_callee (f := 94) rfl ?_); refine goesL_ (some 37) rfl rfl Try.func94 (by kernel_rfl) rfl #[.int .i64 (wrap64 ((wrap64 (a0)) + 96)), .bool false, .bool true] rfl (by (try simp only [List.map_toArray, List.map_cons, List.map_nil]); first | done | rfl | (simp only [IntKind.wrap_u8, Int.emod_add_emod, Int.add_emod_emod] <;> rfl)) ?_; (with_reducible refine (pidginref01_told.calls kj2 (wrap64 ((wrap64 (a0)) + 96)) false true t510 t511 t512 t513 t514 t515 _ A32.out).mono ?_); rintro e w35 ⟨rfl, hb⟩; refine ⟨_, rfl, ?_⟩; have n0_ := Aside0.mk (blk_below (g := gb484) (o := .cells #[.bool a1_0, .bool a1_1, .bool a1_2, .bool a1_3, .bool true] 24 (0, 0)) (by (with_reducible repeat (first | refine blk_drewN ?_ _ | refine blk_drew ?_ | refine blk_alloc ?_ _)); exact BK484.out) hb); have n1_ := Aside0.mk (blk_below (g := gb485) (o := .cells #[.bool false, .bool false, .bool false, .bool false, .bool false] 24 (0, 0)) (by (with_reducible repeat (first | refine blk_drewN ?_ _ | refine blk_drew ?_ | refine blk_alloc ?_ _)); exact BK485.out) hb); have n2_ := Aside0.mk (below_step (by repeat (first | (with_reducible first | exact HB.out | apply below_alloc | apply pw_below_drewN | apply below_drew1 | refine below_set ?_ GE484.out | refine below_set ?_ GE485.out) | exact HB.out)) hb); clear BK484; clear BK485; clear HB; have BK484 := n0_; have BK485 := n1_; have HB := n2_; clear n0_ n1_ n2_; (try clear hb); (try clear hb2); (try clear hk); (try clear hi); have hcz36_0 : w35.cell? ⟨gb485, 0, none⟩ = some (.bool false) := (blk_cell BK485.out 0).trans rfl; have hcz36_1 : w35.cell? ⟨gb485, 1, none⟩ = some (.bool false) := (blk_cell BK485.out 1).trans rfl; have hcz36_2 : w35.cell? ⟨gb485, 2, none⟩ = some (.bool false) := (blk_cell BK485.out 2).trans rfl; have hcz36_3 : w35.cell? ⟨gb485, 3, none⟩ = some (.bool false) := (blk_cell BK485.out 3).trans rfl; have hcz36_4 : w35.cell? ⟨gb485, 4, none⟩ = some (.bool false) := (blk_cell BK485.out 4).trans rfl; have hfz36_0 := blk_frozen BK485.out 0; have hfz36_1 := blk_frozen BK485.out 1; have hfz36_2 := blk_frozen BK485.out 2; have hfz36_3 := blk_frozen BK485.out 3; have hfz36_4 := blk_frozen BK485.out 4))
            refine bodyPost_ret (results_tc rfl _ _ gb485 24 #[.bool t511, .bool t512, .bool t513, .bool t514, .bool t515] (0, 0) _ rfl (by (with_reducible repeat (first | refine blk_drewN ?_ _ | refine blk_drew ?_ | refine blk_alloc ?_ _)); refine blk_put (cs := #[.bool t511, .bool t512, .bool t513, .bool t514, .bool false]) ?_ 4 _ rfl; (with_reducible repeat (first | refine blk_drewN ?_ _ | refine blk_drew ?_ | refine blk_alloc ?_ _)); refine blk_put (cs := #[.bool t511, .bool t512, .bool t513, .bool false, .bool false]) ?_ 3 _ rfl; (with_reducible repeat (first | refine blk_drewN ?_ _ | refine blk_drew ?_ | refine blk_alloc ?_ _)); refine blk_put (cs := #[.bool t511, .bool t512, .bool false, .bool false, .bool false]) ?_ 2 _ rfl; (with_reducible repeat (first | refine blk_drewN ?_ _ | refine blk_drew ?_ | refine blk_alloc ?_ _)); refine blk_put (cs := #[.bool t511, .bool false, .bool false, .bool false, .bool false]) ?_ 1 _ rfl; (with_reducible repeat (first | refine blk_drewN ?_ _ | refine blk_drew ?_ | refine blk_alloc ?_ _)); refine blk_put (cs := #[.bool false, .bool false, .bool false, .bool false, .bool false]) ?_ 0 _ rfl; (with_reducible repeat (first | refine blk_drewN ?_ _ | refine blk_drew ?_ | refine blk_alloc ?_ _)); exact BK485.out) Try.underlying24 rfl (by kernel_rfl)) rfl ?_
            exact ⟨by first | rfl | (simp <;> rfl) | (simp [*] <;> rfl), by repeat (first | (with_reducible first | exact HB.out | apply below_alloc | apply pw_below_drewN | apply below_drew1 | refine below_set ?_ GE484.out | refine below_set ?_ GE485.out) | exact HB.out)⟩
          · replace c31 := Bool.eq_false_iff.mpr c31
            subst c31
            have H1 : ((pidginref01_told.f kj2 (wrap64 (a0)) false false).bind fun bt516 => (some (bt516.1, bt516.2.1, bt516.2.2.1, bt516.2.2.2.1, bt516.2.2.2.2.1, bt516.2.2.2.2.2))) = some (r1, r2, r3, r4, r5, r6) := by rw [if_neg (show ¬ (false = true) by decide)] at H; exact H
            clear H
            have H := H1
            clear H1
            replace H := Option.bind_eq_some_iff.mp H
            obtain ⟨⟨t516, t517, t518, t519, t520, t521⟩, A370, H⟩ := H
            have A37 := Aside0.mk A370
            clear A370
            simp only [Option.some.injEq, Prod.mk.injEq] at H
            obtain ⟨rfl, rfl, rfl, rfl, rfl, rfl⟩ := H
            have hnb38 := NB484_485.out
            have hnc38 := NB485_484.out
            have hcz39_0 : wc.cell? ⟨gb484, 0, none⟩ = some (.bool a1_0) := (blk_cell BK484.out 0).trans rfl
            have hcz39_1 : wc.cell? ⟨gb484, 1, none⟩ = some (.bool a1_1) := (blk_cell BK484.out 1).trans rfl
            have hcz39_2 : wc.cell? ⟨gb484, 2, none⟩ = some (.bool a1_2) := (blk_cell BK484.out 2).trans rfl
            have hcz39_3 : wc.cell? ⟨gb484, 3, none⟩ = some (.bool a1_3) := (blk_cell BK484.out 3).trans rfl
            have hcz39_4 : wc.cell? ⟨gb484, 4, none⟩ = some (.bool false) := (blk_cell BK484.out 4).trans rfl
            have hfz39_0 := blk_frozen BK484.out 0
            have hfz39_1 := blk_frozen BK484.out 1
            have hfz39_2 := blk_frozen BK484.out 2
            have hfz39_3 := blk_frozen BK484.out 3
            have hfz39_4 := blk_frozen BK484.out 4
            go_wp2_with (first | ((with_reducible refine gate_callee (f := 94) rfl ?_); refine goesL_ (some 37) rfl rfl Try.func94 (by kernel_rfl) rfl #[.int .i64 (wrap64 (a0)), .bool false, .bool false] rfl (by (try simp only [List.map_toArray, List.map_cons, List.map_nil]); first | done | rfl | (simp only [IntKind.wrap_u8, Int.emod_add_emod, Int.add_emod_emod] <;> rfl)) ?_; (with_reducible refine (pidginref01_told.calls kj2 (wrap64 (a0)) false false t516 t517 t518 t519 t520 t521 _ A37.out).mono ?_); rintro e w40 ⟨rfl, hb⟩; refine ⟨_, rfl, ?_⟩; have n0_ := Aside0.mk (blk_below (g := gb484) (o := .cells #[.bool a1_0, .bool a1_1, .bool a1_2, .bool a1_3, .bool false] 24 (0, 0)) (by (with_reducible repeat (first | refine blk_drewN ?_ _ | refine blk_drew ?_ | refine blk_alloc ?_ _)); exact BK484.out) hb); have n1_ := Aside0.mk (blk_below (g := gb485) (o := .cells #[.bool false, .bool false, .bool false, .bool false, .bool false] 24 (0, 0)) (by (with_reducible repeat (first | refine blk_drewN ?_ _ | refine blk_drew ?_ | refine blk_alloc ?_ _)); exact BK485.out) hb); have n2_ := Aside0.mk (below_step (by repeat (first | (with_reducible first | exact HB.out | apply below_alloc | apply pw_below_drewN | apply below_drew1 | refine below_set ?_ GE484.out | refine below_set ?_ GE485.out) | exact HB.out)) hb); clear BK484; clear BK485; clear HB; have BK484 := n0_; have BK485 := n1_; have HB := n2_; clear n0_ n1_ n2_; (try clear hb); (try clear hb2); (try clear hk); (try clear hi); have hcz41_0 : w40.cell? ⟨gb485, 0, none⟩ = some (.bool false) := (blk_cell BK485.out 0).trans rfl; have hcz41_1 : w40.cell? ⟨gb485, 1, none⟩ = some (.bool false) := (blk_cell BK485.out 1).trans rfl; have hcz41_2 : w40.cell? ⟨gb485, 2, none⟩ = some (.bool false) := (blk_cell BK485.out 2).trans rfl; have hcz41_3 : w40.cell? ⟨gb485, 3, none⟩ = some (.bool false) := (blk_cell BK485.out 3).trans rfl; have hcz41_4 : w40.cell? ⟨gb485, 4, none⟩ = some (.bool false) := (blk_cell BK485.out 4).trans rfl; have hfz41_0 := blk_frozen BK485.out 0; have hfz41_1 := blk_frozen BK485.out 1; have hfz41_2 := blk_frozen BK485.out 2; have hfz41_3 := blk_frozen BK485.out 3; have hfz41_4 := blk_frozen BK485.out 4))
            refine bodyPost_ret (results_tc rfl _ _ gb485 24 #[.bool t517, .bool t518, .bool t519, .bool t520, .bool t521] (0, 0) _ rfl (by (with_reducible repeat (first | refine blk_drewN ?_ _ | refine blk_drew ?_ | refine blk_alloc ?_ _)); refine blk_put (cs := #[.bool t517, .bool t518, .bool t519, .bool t520, .bool false]) ?_ 4 _ rfl; (with_reducible repeat (first | refine blk_drewN ?_ _ | refine blk_drew ?_ | refine blk_alloc ?_ _)); refine blk_put (cs := #[.bool t517, .bool t518, .bool t519, .bool false, .bool false]) ?_ 3 _ rfl; (with_reducible repeat (first | refine blk_drewN ?_ _ | refine blk_drew ?_ | refine blk_alloc ?_ _)); refine blk_put (cs := #[.bool t517, .bool t518, .bool false, .bool false, .bool false]) ?_ 2 _ rfl; (with_reducible repeat (first | refine blk_drewN ?_ _ | refine blk_drew ?_ | refine blk_alloc ?_ _)); refine blk_put (cs := #[.bool t517, .bool false, .bool false, .bool false, .bool false]) ?_ 1 _ rfl; (with_reducible repeat (first | refine blk_drewN ?_ _ | refine blk_drew ?_ | refine blk_alloc ?_ _)); refine blk_put (cs := #[.bool false, .bool false, .bool false, .bool false, .bool false]) ?_ 0 _ rfl; (with_reducible repeat (first | refine blk_drewN ?_ _ | refine blk_drew ?_ | refine blk_alloc ?_ _)); exact BK485.out) Try.underlying24 rfl (by kernel_rfl)) rfl ?_
            exact ⟨by first | rfl | (simp <;> rfl) | (simp [*] <;> rfl), by repeat (first | (with_reducible first | exact HB.out | apply below_alloc | apply pw_below_drewN | apply below_drew1 | refine below_set ?_ GE484.out | refine below_set ?_ GE485.out) | exact HB.out)⟩
def pidginlaw01_Back.f (a0_0 : Bool) (a0_1 : Bool) (a0_2 : Bool) (a0_3 : Bool) (a0_4 : Bool) : Option (Bool × Bool × Bool × Bool × Bool) := some (a0_0, a0_1, a0_2, a0_3, a0_4)
set_option maxHeartbeats 8000000 in
set_option maxRecDepth 100000 in
theorem pidginlaw01_Back.calls (a0_0 : Bool) (a0_1 : Bool) (a0_2 : Bool) (a0_3 : Bool) (a0_4 : Bool) (r1 : Bool) (r2 : Bool) (r3 : Bool) (r4 : Bool) (r5 : Bool) (w : World) (h : pidginlaw01_Back.f a0_0 a0_1 a0_2 a0_3 a0_4 = some (r1, r2, r3, r4, r5)) :
    Calls Try.prog 24 #[.agg #[.bool a0_0, .bool a0_1, .bool a0_2, .bool a0_3, .bool a0_4]] w fun e w' => e = .returned (.agg #[.bool r1, .bool r2, .bool r3, .bool r4, .bool r5]) ∧ Below w.heap.size w w' := by
  have hu48 := Try.underlying48
  have hu24 := Try.underlying24
  have HB := Aside0.mk (Below.refl w.heap.size w)
  have H : (some (a0_0, a0_1, a0_2, a0_3, a0_4)) = some (r1, r2, r3, r4, r5) := h
  clear h
  simp only [Option.some.injEq, Prod.mk.injEq] at H
  obtain ⟨rfl, rfl, rfl, rfl, rfl⟩ := H
  go_enter Try.func24, Try.ntmps24
  go_wp2_with (first | ((with_reducible refine gate_dst (N := 1) rfl ?_); refine box_event ?hg (N := 1) ?hd (cs := #[.bool a0_0, .bool a0_1, .bool a0_2, .bool a0_3, .bool a0_4]) (t := 48) ?hr ?_; (case hd => rfl); (case hg => rfl); (case hr => first | (go_simp; done) | (go_simp; rfl)); intro gb583 hg w2 hbox hb; have n0_ := Aside0.mk (below_step (by with_reducible repeat (first | exact HB.out | apply below_alloc | apply pw_below_drewN | apply below_drew1)) hb); have n1_ := Aside0.mk (hbox); have n2_ := Aside0.mk ((by rw [hg]; exact (below_size (by with_reducible repeat (first | exact HB.out | apply below_alloc | apply pw_below_drewN | apply below_drew1))) : w.heap.size ≤ gb583)); have n3_ := Aside0.mk ((by rw [hg]; exact (below_size (by with_reducible repeat (first | exact HB.out | apply below_alloc | apply pw_below_drewN | apply below_drew1))) : w.heap.size ≤ gb583)); clear HB; have HB := n0_; have BK583 := n1_; have GW583 := n2_; have GE583 := n3_; clear n0_ n1_ n2_ n3_; clear hb hbox hg) | ((with_reducible refine gate_dst (N := 2) rfl ?_); refine box_event ?hg (N := 2) ?hd (cs := #[.bool false, .bool false, .bool false, .bool false, .bool false]) (t := 24) ?hr ?_; (case hd => rfl); (case hg => rfl); (case hr => first | (go_simp; done) | (go_simp; rfl)); intro gb584 hg w3 hbox hb; have n0_ := Aside0.mk (blk_below (g := gb583) (o := .cells #[.bool a0_0, .bool a0_1, .bool a0_2, .bool a0_3, .bool a0_4] 48 (0, 0)) (by (with_reducible repeat (first | refine blk_drewN ?_ _ | refine blk_drew ?_ | refine blk_alloc ?_ _)); exact BK583.out) hb); have n1_ := Aside0.mk (below_step (by repeat (first | (with_reducible first | exact HB.out | apply below_alloc | apply pw_below_drewN | apply below_drew1 | refine below_set ?_ GE583.out) | exact HB.out)) hb); have n2_ := Aside0.mk (hbox); have n3_ := Aside0.mk ((by rw [hg]; exact (below_size (by repeat (first | (with_reducible first | exact HB.out | apply below_alloc | apply pw_below_drewN | apply below_drew1 | refine below_set ?_ GE583.out) | exact HB.out))) : w.heap.size ≤ gb584)); have n4_ := Aside0.mk ((by rw [hg]; exact (below_size (by repeat (first | (with_reducible first | exact HB.out | apply below_alloc | apply pw_below_drewN | apply below_drew1 | refine below_set ?_ GE583.out) | exact HB.out))) : w.heap.size ≤ gb584)); have n5_ := Aside0.mk ((by rw [hg]; exact Nat.ne_of_lt (blk_lt (g := gb583) (o := .cells #[.bool a0_0, .bool a0_1, .bool a0_2, .bool a0_3, .bool a0_4] 48 (0, 0)) (by (with_reducible repeat (first | refine blk_drewN ?_ _ | refine blk_drew ?_ | refine blk_alloc ?_ _)); exact BK583.out)) : gb583 ≠ gb584)); have n6_ := Aside0.mk ((by rw [hg]; exact Nat.ne_of_gt (blk_lt (g := gb583) (o := .cells #[.bool a0_0, .bool a0_1, .bool a0_2, .bool a0_3, .bool a0_4] 48 (0, 0)) (by (with_reducible repeat (first | refine blk_drewN ?_ _ | refine blk_drew ?_ | refine blk_alloc ?_ _)); exact BK583.out)) : gb584 ≠ gb583)); clear BK583; clear HB; have BK583 := n0_; have HB := n1_; have BK584 := n2_; have GW584 := n3_; have GE584 := n4_; have NB583_584 := n5_; have NB584_583 := n6_; clear n0_ n1_ n2_ n3_ n4_ n5_ n6_; clear hb hbox hg; have hnb4 := NB583_584.out; have hnc4 := NB584_583.out; have hcz5_0 : w3.cell? ⟨gb583, 0, none⟩ = some (.bool a0_0) := (blk_cell BK583.out 0).trans rfl; have hcz5_1 : w3.cell? ⟨gb583, 1, none⟩ = some (.bool a0_1) := (blk_cell BK583.out 1).trans rfl; have hcz5_2 : w3.cell? ⟨gb583, 2, none⟩ = some (.bool a0_2) := (blk_cell BK583.out 2).trans rfl; have hcz5_3 : w3.cell? ⟨gb583, 3, none⟩ = some (.bool a0_3) := (blk_cell BK583.out 3).trans rfl; have hcz5_4 : w3.cell? ⟨gb583, 4, none⟩ = some (.bool a0_4) := (blk_cell BK583.out 4).trans rfl; have hfz5_0 := blk_frozen BK583.out 0; have hfz5_1 := blk_frozen BK583.out 1; have hfz5_2 := blk_frozen BK583.out 2; have hfz5_3 := blk_frozen BK583.out 3; have hfz5_4 := blk_frozen BK583.out 4; have hcz6_0 : w3.cell? ⟨gb584, 0, none⟩ = some (.bool false) := (blk_cell BK584.out 0).trans rfl; have hcz6_1 : w3.cell? ⟨gb584, 1, none⟩ = some (.bool false) := (blk_cell BK584.out 1).trans rfl; have hcz6_2 : w3.cell? ⟨gb584, 2, none⟩ = some (.bool false) := (blk_cell BK584.out 2).trans rfl; have hcz6_3 : w3.cell? ⟨gb584, 3, none⟩ = some (.bool false) := (blk_cell BK584.out 3).trans rfl; have hcz6_4 : w3.cell? ⟨gb584, 4, none⟩ = some (.bool false) := (blk_cell BK584.out 4).trans rfl; have hfz6_0 := blk_frozen BK584.out 0; have hfz6_1 := blk_frozen BK584.out 1; have hfz6_2 := blk_frozen BK584.out 2; have hfz6_3 := blk_frozen BK584.out 3; have hfz6_4 := blk_frozen BK584.out 4))
  refine bodyPost_ret (results_cell_row rfl _ _ gb584 24 #[.bool a0_0, .bool a0_1, .bool a0_2, .bool a0_3, .bool a0_4] (0, 0) _ rfl (by (with_reducible repeat (first | refine blk_drewN ?_ _ | refine blk_drew ?_ | refine blk_alloc ?_ _)); refine blk_put (cs := #[.bool a0_0, .bool a0_1, .bool a0_2, .bool a0_3, .bool false]) ?_ 4 _ rfl; (with_reducible repeat (first | refine blk_drewN ?_ _ | refine blk_drew ?_ | refine blk_alloc ?_ _)); refine blk_put (cs := #[.bool a0_0, .bool a0_1, .bool a0_2, .bool false, .bool false]) ?_ 3 _ rfl; (with_reducible repeat (first | refine blk_drewN ?_ _ | refine blk_drew ?_ | refine blk_alloc ?_ _)); refine blk_put (cs := #[.bool a0_0, .bool a0_1, .bool false, .bool false, .bool false]) ?_ 2 _ rfl; (with_reducible repeat (first | refine blk_drewN ?_ _ | refine blk_drew ?_ | refine blk_alloc ?_ _)); refine blk_put (cs := #[.bool a0_0, .bool false, .bool false, .bool false, .bool false]) ?_ 1 _ rfl; (with_reducible repeat (first | refine blk_drewN ?_ _ | refine blk_drew ?_ | refine blk_alloc ?_ _)); refine blk_put (cs := #[.bool false, .bool false, .bool false, .bool false, .bool false]) ?_ 0 _ rfl; (with_reducible repeat (first | refine blk_drewN ?_ _ | refine blk_drew ?_ | refine blk_alloc ?_ _)); exact BK584.out) Try.underlying24 rfl (by kernel_rfl)) rfl ?_
  exact ⟨by first | rfl | (simp <;> rfl) | (simp [*] <;> rfl), by repeat (first | (with_reducible first | exact HB.out | apply below_alloc | apply pw_below_drewN | apply below_drew1 | refine below_set ?_ GE583.out | refine below_set ?_ GE584.out) | exact HB.out)⟩
end Go.Proofs.Ytaiabehbappdaaa.PCpu
