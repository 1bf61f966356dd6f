/- Own texts of this claim, merged by a program of the claim's own: what the claim's theorem reaches. -/
import Derived.Test.YtaiabehbappdaaaQT5
import Derived.Deep.DrawnRows
import Derived.Outline
import Derived.Stop.BytesEq
import Derived.Deep.RegionHeld3
import Derived.LoopTactic
import Derived.Deep.DeepCutAuto
import Derived.Deep.LoopGhost
import Derived.StillTailTactics
import Derived.Laws.Rows
import Derived.Test.YtaiabehbappdaaaRows
import Derived.WalkKit
import Derived.ProofKit
import Derived.OpenShut
import Derived.ShutString
import Derived.ChangeOld
import Derived.Below
import Derived.SizedLaws
set_option linter.unusedVariables false
set_option linter.unusedSimpArgs false
set_option maxHeartbeats 4000000
namespace Go.Proofs.Ytaiabehbappdaaa.Cpu
open Go Go.RowKit Go.Proofs.YtaiabehbappdaaaW.PrintWords Go.Proofs.Ytaiabehbappdaaa.PCpu
theorem Told_c {b : Int} (x c : Bool) (w : World) (h0 : 0 ≤ b) (h1 : b < 256) : Calls Try.prog 84 #[.int .u8 b, .bool x, .bool c] w fun e w' => e = .returned (pairV (b, tellF b x c)) ∧ Below w.heap.size w w' :=
  word_told.calls b x c _ _ _ _ _ _ w (told_is h0 h1 x c)
def daaS (a : Int) (f : Fl) : Int × Fl :=
  let n := if a % 16 > 9 ∨ f.a = true then a + 6 else a
  let hi := decide (n / 16 > 9) || f.c
  let m := if hi = true then n + 96 else n
  (m % 256, tellF (m % 256) (decide (a % 16 > 9)) hi)
theorem fl_at {w w1 : World} {c0 : Array Value} {c1 : Array Value} {n : Nat} (hn : ((w.alloc (.cells c0 n (0, 0))).alloc (.cells c1 n (0, 0))).heap.size = w.heap.size + 1 + 1 := by simp)
    (hb : Below ((w.alloc (.cells c0 n (0, 0))).alloc (.cells c1 n (0, 0))).heap.size ((w.alloc (.cells c0 n (0, 0))).alloc (.cells c1 n (0, 0))) w1) : w1.heap[w.heap.size + 1]? = some (.cells c1 n (0, 0)) := by
  have h0 : ((w.alloc (.cells c0 n (0, 0))).alloc (.cells c1 n (0, 0))).heap[(w.alloc (.cells c0 n (0, 0))).heap.size]? = some (.cells c1 n (0, 0)) := blk_new _ _
  have e : (w.alloc (.cells c0 n (0, 0))).heap.size = w.heap.size + 1 := by simp
  rw [e] at h0
  exact (hb.block _ (by omega)).trans h0
theorem fl_put {w : World} {g n : Nat} {a b c d e : Value} (h : w.heap[g]? = some (.cells #[a, b, c, d, e] n (0, 0))) (x : Fl) :
    (((((w.setCell ⟨g, 0, none⟩ (.bool x.s)).setCell ⟨g, 1, none⟩ (.bool x.z)).setCell ⟨g, 2, none⟩ (.bool x.a)).setCell ⟨g, 3, none⟩ (.bool x.p)).setCell ⟨g, 4, none⟩ (.bool x.c)).heap[g]? =
      some (.cells #[.bool x.s, .bool x.z, .bool x.a, .bool x.p, .bool x.c] n (0, 0)) :=
  blk_put (cs := #[.bool x.s, .bool x.z, .bool x.a, .bool x.p, e]) (blk_put (cs := #[.bool x.s, .bool x.z, .bool x.a, d, e]) (blk_put (cs := #[.bool x.s, .bool x.z, c, d, e]) (blk_put (cs := #[.bool x.s, b, c, d, e]) (blk_put h 0 _ rfl) 1 _ rfl) 2 _ rfl) 3 _ rfl) 4 _ rfl
theorem fl_below {w W : World} {g : Nat} (h : Below w.heap.size w W) (hg : w.heap.size ≤ g) (x : Fl) :
    Below w.heap.size w (((((W.setCell ⟨g, 0, none⟩ (.bool x.s)).setCell ⟨g, 1, none⟩ (.bool x.z)).setCell ⟨g, 2, none⟩ (.bool x.a)).setCell ⟨g, 3, none⟩ (.bool x.p)).setCell ⟨g, 4, none⟩ (.bool x.c)) :=
  below_set (below_set (below_set (below_set (below_set h hg) hg) hg) hg) hg
set_option maxHeartbeats 1000000 in
theorem Daa_1 {a : Int} (fs fz fa fp fc : Bool) (w : World) (a0 : 0 ≤ a) (a1 : a < 256) (h9 : a % 16 > 9) (hh : (a + 6) / 16 > 9) : Calls Try.prog 81 #[.int .u8 a, .agg #[.bool fs, .bool fz, .bool fa, .bool fp, .bool fc]] w fun e w' => e = .returned (pairV (daaS a ⟨fs, fz, fa, fp, fc⟩)) ∧ Below w.heap.size w w' := by
  have h15 : Go.bits .and .u8 a 15 = a % 16 := u8_and15 _ a0 a1
  have d9 : decide (9 < a % 16) = true := decide_eq_true h9
  have dh : decide (9 < (a + 6) / 16) = true := decide_eq_true hh
  have hd : daaS a ⟨fs, fz, fa, fp, fc⟩ = ((a + 6 + 96) % 256, tellF ((a + 6 + 96) % 256) true true) := by
    unfold daaS
    simp [h9, hh]
  have HD := Aside0.mk hd
  clear hd
  go_enter Try.func81, Try.ntmps81
  go_wp2_with (go_at_call 84; refine (Told_c _ _ _ (by omega) (by omega)).mono ?_; rintro e w1 ⟨rfl, hb⟩; have HR := Aside0.mk (fl_at (by simp) hb); have HB := Aside0.mk hb; clear hb; have e0 := blk_cell HR.out 0; have e1 := blk_cell HR.out 1; have e2 := blk_cell HR.out 2; have e3 := blk_cell HR.out 3; have e4 := blk_cell HR.out 4; have ez := blk_frozen HR.out)
  refine bodyPost_ret (results_tc rfl _ _ (w.heap.size + 1) 48 _ (0, 0) _ rfl (fl_put HR.out _) Try.underlying48 rfl (by kernel_rfl)) rfl ⟨?_, fl_below (below_step (below_alloc (below_alloc (Below.refl _ _) _) _) HB.out) (by omega) _⟩
  rw [HD.out]
  first | rfl | (rw [show (a + 6 + 96) % 256 = a + 6 + 96 by omega]; rfl)
set_option maxHeartbeats 1000000 in
theorem Daa_2 {a : Int} (fs fz fa fp fc : Bool) (w : World) (a0 : 0 ≤ a) (a1 : a < 256) (h9 : a % 16 > 9) (hh : ¬ (a + 6) / 16 > 9) (hfc : fc = true) : Calls Try.prog 81 #[.int .u8 a, .agg #[.bool fs, .bool fz, .bool fa, .bool fp, .bool fc]] w fun e w' => e = .returned (pairV (daaS a ⟨fs, fz, fa, fp, fc⟩)) ∧ Below w.heap.size w w' := by
  have h15 : Go.bits .and .u8 a 15 = a % 16 := u8_and15 _ a0 a1
  have d9 : decide (9 < a % 16) = true := decide_eq_true h9
  have dh : decide (9 < (a + 6) / 16) = false := decide_eq_false hh
  subst hfc
  have hd : daaS a ⟨fs, fz, fa, fp, true⟩ = ((a + 6 + 96) % 256, tellF ((a + 6 + 96) % 256) true true) := by
    unfold daaS
    simp [h9, hh]
  have HD := Aside0.mk hd
  clear hd
  go_enter Try.func81, Try.ntmps81
  go_wp2_with (go_at_call 84; refine (Told_c _ _ _ (by omega) (by omega)).mono ?_; rintro e w1 ⟨rfl, hb⟩; have HR := Aside0.mk (fl_at (by simp) hb); have HB := Aside0.mk hb; clear hb; have e0 := blk_cell HR.out 0; have e1 := blk_cell HR.out 1; have e2 := blk_cell HR.out 2; have e3 := blk_cell HR.out 3; have e4 := blk_cell HR.out 4; have ez := blk_frozen HR.out)
  refine bodyPost_ret (results_tc rfl _ _ (w.heap.size + 1) 48 _ (0, 0) _ rfl (fl_put HR.out _) Try.underlying48 rfl (by kernel_rfl)) rfl ⟨?_, fl_below (below_step (below_alloc (below_alloc (Below.refl _ _) _) _) HB.out) (by omega) _⟩
  rw [HD.out]
  first | rfl | (rw [show (a + 6 + 96) % 256 = a + 6 + 96 by omega]; rfl)
set_option maxHeartbeats 1000000 in
theorem Daa_3 {a : Int} (fs fz fa fp fc : Bool) (w : World) (a0 : 0 ≤ a) (a1 : a < 256) (h9 : a % 16 > 9) (hh : ¬ (a + 6) / 16 > 9) (hfc : fc = false) : Calls Try.prog 81 #[.int .u8 a, .agg #[.bool fs, .bool fz, .bool fa, .bool fp, .bool fc]] w fun e w' => e = .returned (pairV (daaS a ⟨fs, fz, fa, fp, fc⟩)) ∧ Below w.heap.size w w' := by
  have h15 : Go.bits .and .u8 a 15 = a % 16 := u8_and15 _ a0 a1
  have d9 : decide (9 < a % 16) = true := decide_eq_true h9
  have dh : decide (9 < (a + 6) / 16) = false := decide_eq_false hh
  subst hfc
  have hd : daaS a ⟨fs, fz, fa, fp, false⟩ = ((a + 6) % 256, tellF ((a + 6) % 256) true false) := by
    unfold daaS
    simp [h9, hh]
  have HD := Aside0.mk hd
  clear hd
  go_enter Try.func81, Try.ntmps81
  go_wp2_with (go_at_call 84; refine (Told_c _ _ _ (by omega) (by omega)).mono ?_; rintro e w1 ⟨rfl, hb⟩; have HR := Aside0.mk (fl_at (by simp) hb); have HB := Aside0.mk hb; clear hb; have e0 := blk_cell HR.out 0; have e1 := blk_cell HR.out 1; have e2 := blk_cell HR.out 2; have e3 := blk_cell HR.out 3; have e4 := blk_cell HR.out 4; have ez := blk_frozen HR.out)
  refine bodyPost_ret (results_tc rfl _ _ (w.heap.size + 1) 48 _ (0, 0) _ rfl (fl_put HR.out _) Try.underlying48 rfl (by kernel_rfl)) rfl ⟨?_, fl_below (below_step (below_alloc (below_alloc (Below.refl _ _) _) _) HB.out) (by omega) _⟩
  rw [HD.out]
  first | rfl | (rw [show (a + 6) % 256 = a + 6 by omega]; rfl)
set_option maxHeartbeats 1000000 in
theorem Daa_4 {a : Int} (fs fz fa fp fc : Bool) (w : World) (a0 : 0 ≤ a) (a1 : a < 256) (h9 : ¬ a % 16 > 9) (hfa : fa = true) (hh : (a + 6) / 16 > 9) : Calls Try.prog 81 #[.int .u8 a, .agg #[.bool fs, .bool fz, .bool fa, .bool fp, .bool fc]] w fun e w' => e = .returned (pairV (daaS a ⟨fs, fz, fa, fp, fc⟩)) ∧ Below w.heap.size w w' := by
  have h15 : Go.bits .and .u8 a 15 = a % 16 := u8_and15 _ a0 a1
  have d9 : decide (9 < a % 16) = false := decide_eq_false h9
  have dh : decide (9 < (a + 6) / 16) = true := decide_eq_true hh
  subst hfa
  have hd : daaS a ⟨fs, fz, true, fp, fc⟩ = ((a + 6 + 96) % 256, tellF ((a + 6 + 96) % 256) false true) := by
    unfold daaS
    simp [h9, hh]
  have HD := Aside0.mk hd
  clear hd
  go_enter Try.func81, Try.ntmps81
  go_wp2_with (go_at_call 84; refine (Told_c _ _ _ (by omega) (by omega)).mono ?_; rintro e w1 ⟨rfl, hb⟩; have HR := Aside0.mk (fl_at (by simp) hb); have HB := Aside0.mk hb; clear hb; have e0 := blk_cell HR.out 0; have e1 := blk_cell HR.out 1; have e2 := blk_cell HR.out 2; have e3 := blk_cell HR.out 3; have e4 := blk_cell HR.out 4; have ez := blk_frozen HR.out)
  refine bodyPost_ret (results_tc rfl _ _ (w.heap.size + 1) 48 _ (0, 0) _ rfl (fl_put HR.out _) Try.underlying48 rfl (by kernel_rfl)) rfl ⟨?_, fl_below (below_step (below_alloc (below_alloc (Below.refl _ _) _) _) HB.out) (by omega) _⟩
  rw [HD.out]
  first | rfl | (rw [show (a + 6 + 96) % 256 = a + 6 + 96 by omega]; rfl)
set_option maxHeartbeats 1000000 in
theorem Daa_5 {a : Int} (fs fz fa fp fc : Bool) (w : World) (a0 : 0 ≤ a) (a1 : a < 256) (h9 : ¬ a % 16 > 9) (hfa : fa = true) (hh : ¬ (a + 6) / 16 > 9) (hfc : fc = true) : Calls Try.prog 81 #[.int .u8 a, .agg #[.bool fs, .bool fz, .bool fa, .bool fp, .bool fc]] w fun e w' => e = .returned (pairV (daaS a ⟨fs, fz, fa, fp, fc⟩)) ∧ Below w.heap.size w w' := by
  have h15 : Go.bits .and .u8 a 15 = a % 16 := u8_and15 _ a0 a1
  have d9 : decide (9 < a % 16) = false := decide_eq_false h9
  have dh : decide (9 < (a + 6) / 16) = false := decide_eq_false hh
  subst hfa
  subst hfc
  have hd : daaS a ⟨fs, fz, true, fp, true⟩ = ((a + 6 + 96) % 256, tellF ((a + 6 + 96) % 256) false true) := by
    unfold daaS
    simp [h9, hh]
  have HD := Aside0.mk hd
  clear hd
  go_enter Try.func81, Try.ntmps81
  go_wp2_with (go_at_call 84; refine (Told_c _ _ _ (by omega) (by omega)).mono ?_; rintro e w1 ⟨rfl, hb⟩; have HR := Aside0.mk (fl_at (by simp) hb); have HB := Aside0.mk hb; clear hb; have e0 := blk_cell HR.out 0; have e1 := blk_cell HR.out 1; have e2 := blk_cell HR.out 2; have e3 := blk_cell HR.out 3; have e4 := blk_cell HR.out 4; have ez := blk_frozen HR.out)
  refine bodyPost_ret (results_tc rfl _ _ (w.heap.size + 1) 48 _ (0, 0) _ rfl (fl_put HR.out _) Try.underlying48 rfl (by kernel_rfl)) rfl ⟨?_, fl_below (below_step (below_alloc (below_alloc (Below.refl _ _) _) _) HB.out) (by omega) _⟩
  rw [HD.out]
  first | rfl | (rw [show (a + 6 + 96) % 256 = a + 6 + 96 by omega]; rfl)
set_option maxHeartbeats 1000000 in
theorem Daa_6 {a : Int} (fs fz fa fp fc : Bool) (w : World) (a0 : 0 ≤ a) (a1 : a < 256) (h9 : ¬ a % 16 > 9) (hfa : fa = true) (hh : ¬ (a + 6) / 16 > 9) (hfc : fc = false) : Calls Try.prog 81 #[.int .u8 a, .agg #[.bool fs, .bool fz, .bool fa, .bool fp, .bool fc]] w fun e w' => e = .returned (pairV (daaS a ⟨fs, fz, fa, fp, fc⟩)) ∧ Below w.heap.size w w' := by
  have h15 : Go.bits .and .u8 a 15 = a % 16 := u8_and15 _ a0 a1
  have d9 : decide (9 < a % 16) = false := decide_eq_false h9
  have dh : decide (9 < (a + 6) / 16) = false := decide_eq_false hh
  subst hfa
  subst hfc
  have hd : daaS a ⟨fs, fz, true, fp, false⟩ = ((a + 6) % 256, tellF ((a + 6) % 256) false false) := by
    unfold daaS
    simp [h9, hh]
  have HD := Aside0.mk hd
  clear hd
  go_enter Try.func81, Try.ntmps81
  go_wp2_with (go_at_call 84; refine (Told_c _ _ _ (by omega) (by omega)).mono ?_; rintro e w1 ⟨rfl, hb⟩; have HR := Aside0.mk (fl_at (by simp) hb); have HB := Aside0.mk hb; clear hb; have e0 := blk_cell HR.out 0; have e1 := blk_cell HR.out 1; have e2 := blk_cell HR.out 2; have e3 := blk_cell HR.out 3; have e4 := blk_cell HR.out 4; have ez := blk_frozen HR.out)
  refine bodyPost_ret (results_tc rfl _ _ (w.heap.size + 1) 48 _ (0, 0) _ rfl (fl_put HR.out _) Try.underlying48 rfl (by kernel_rfl)) rfl ⟨?_, fl_below (below_step (below_alloc (below_alloc (Below.refl _ _) _) _) HB.out) (by omega) _⟩
  rw [HD.out]
  first | rfl | (rw [show (a + 6) % 256 = a + 6 by omega]; rfl)
set_option maxHeartbeats 1000000 in
theorem Daa_7 {a : Int} (fs fz fa fp fc : Bool) (w : World) (a0 : 0 ≤ a) (a1 : a < 256) (h9 : ¬ a % 16 > 9) (hfa : fa = false) (hh : (a) / 16 > 9) : Calls Try.prog 81 #[.int .u8 a, .agg #[.bool fs, .bool fz, .bool fa, .bool fp, .bool fc]] w fun e w' => e = .returned (pairV (daaS a ⟨fs, fz, fa, fp, fc⟩)) ∧ Below w.heap.size w w' := by
  have h15 : Go.bits .and .u8 a 15 = a % 16 := u8_and15 _ a0 a1
  have d9 : decide (9 < a % 16) = false := decide_eq_false h9
  have dh : decide (9 < (a) / 16) = true := decide_eq_true hh
  subst hfa
  have hd : daaS a ⟨fs, fz, false, fp, fc⟩ = ((a + 96) % 256, tellF ((a + 96) % 256) false true) := by
    unfold daaS
    simp [h9, hh]
  have HD := Aside0.mk hd
  clear hd
  go_enter Try.func81, Try.ntmps81
  go_wp2_with (go_at_call 84; refine (Told_c _ _ _ (by omega) (by omega)).mono ?_; rintro e w1 ⟨rfl, hb⟩; have HR := Aside0.mk (fl_at (by simp) hb); have HB := Aside0.mk hb; clear hb; have e0 := blk_cell HR.out 0; have e1 := blk_cell HR.out 1; have e2 := blk_cell HR.out 2; have e3 := blk_cell HR.out 3; have e4 := blk_cell HR.out 4; have ez := blk_frozen HR.out)
  refine bodyPost_ret (results_tc rfl _ _ (w.heap.size + 1) 48 _ (0, 0) _ rfl (fl_put HR.out _) Try.underlying48 rfl (by kernel_rfl)) rfl ⟨?_, fl_below (below_step (below_alloc (below_alloc (Below.refl _ _) _) _) HB.out) (by omega) _⟩
  rw [HD.out]
  first | rfl | (rw [show (a + 96) % 256 = a + 96 by omega]; rfl)
set_option maxHeartbeats 1000000 in
theorem Daa_8 {a : Int} (fs fz fa fp fc : Bool) (w : World) (a0 : 0 ≤ a) (a1 : a < 256) (h9 : ¬ a % 16 > 9) (hfa : fa = false) (hh : ¬ (a) / 16 > 9) (hfc : fc = true) : Calls Try.prog 81 #[.int .u8 a, .agg #[.bool fs, .bool fz, .bool fa, .bool fp, .bool fc]] w fun e w' => e = .returned (pairV (daaS a ⟨fs, fz, fa, fp, fc⟩)) ∧ Below w.heap.size w w' := by
  have h15 : Go.bits .and .u8 a 15 = a % 16 := u8_and15 _ a0 a1
  have d9 : decide (9 < a % 16) = false := decide_eq_false h9
  have dh : decide (9 < (a) / 16) = false := decide_eq_false hh
  subst hfa
  subst hfc
  have hd : daaS a ⟨fs, fz, false, fp, true⟩ = ((a + 96) % 256, tellF ((a + 96) % 256) false true) := by
    unfold daaS
    simp [h9, hh]
  have HD := Aside0.mk hd
  clear hd
  go_enter Try.func81, Try.ntmps81
  go_wp2_with (go_at_call 84; refine (Told_c _ _ _ (by omega) (by omega)).mono ?_; rintro e w1 ⟨rfl, hb⟩; have HR := Aside0.mk (fl_at (by simp) hb); have HB := Aside0.mk hb; clear hb; have e0 := blk_cell HR.out 0; have e1 := blk_cell HR.out 1; have e2 := blk_cell HR.out 2; have e3 := blk_cell HR.out 3; have e4 := blk_cell HR.out 4; have ez := blk_frozen HR.out)
  refine bodyPost_ret (results_tc rfl _ _ (w.heap.size + 1) 48 _ (0, 0) _ rfl (fl_put HR.out _) Try.underlying48 rfl (by kernel_rfl)) rfl ⟨?_, fl_below (below_step (below_alloc (below_alloc (Below.refl _ _) _) _) HB.out) (by omega) _⟩
  rw [HD.out]
  first | rfl | (rw [show (a + 96) % 256 = a + 96 by omega]; rfl)
set_option maxHeartbeats 1000000 in
theorem Daa_9 {a : Int} (fs fz fa fp fc : Bool) (w : World) (a0 : 0 ≤ a) (a1 : a < 256) (h9 : ¬ a % 16 > 9) (hfa : fa = false) (hh : ¬ (a) / 16 > 9) (hfc : fc = false) : Calls Try.prog 81 #[.int .u8 a, .agg #[.bool fs, .bool fz, .bool fa, .bool fp, .bool fc]] w fun e w' => e = .returned (pairV (daaS a ⟨fs, fz, fa, fp, fc⟩)) ∧ Below w.heap.size w w' := by
  have h15 : Go.bits .and .u8 a 15 = a % 16 := u8_and15 _ a0 a1
  have d9 : decide (9 < a % 16) = false := decide_eq_false h9
  have dh : decide (9 < (a) / 16) = false := decide_eq_false hh
  subst hfa
  subst hfc
  have hd : daaS a ⟨fs, fz, false, fp, false⟩ = ((a) % 256, tellF ((a) % 256) false false) := by
    unfold daaS
    simp [h9, hh]
  have HD := Aside0.mk hd
  clear hd
  go_enter Try.func81, Try.ntmps81
  go_wp2_with (go_at_call 84; refine (Told_c _ _ _ (by omega) (by omega)).mono ?_; rintro e w1 ⟨rfl, hb⟩; have HR := Aside0.mk (fl_at (by simp) hb); have HB := Aside0.mk hb; clear hb; have e0 := blk_cell HR.out 0; have e1 := blk_cell HR.out 1; have e2 := blk_cell HR.out 2; have e3 := blk_cell HR.out 3; have e4 := blk_cell HR.out 4; have ez := blk_frozen HR.out)
  refine bodyPost_ret (results_tc rfl _ _ (w.heap.size + 1) 48 _ (0, 0) _ rfl (fl_put HR.out _) Try.underlying48 rfl (by kernel_rfl)) rfl ⟨?_, fl_below (below_step (below_alloc (below_alloc (Below.refl _ _) _) _) HB.out) (by omega) _⟩
  rw [HD.out]
  first | rfl | (rw [show (a) % 256 = a by omega]; rfl)
theorem Daa_c {a : Int} (f : Fl) (w : World) (a0 : 0 ≤ a) (a1 : a < 256) : Calls Try.prog 81 #[.int .u8 a, .agg #[.bool f.s, .bool f.z, .bool f.a, .bool f.p, .bool f.c]] w fun e w' => e = .returned (pairV (daaS a f)) ∧ Below w.heap.size w w' := by
  obtain ⟨fs, fz, fa, fp, fc⟩ := f
  by_cases h9 : a % 16 > 9
  · by_cases hh : (a + 6) / 16 > 9
    · exact Daa_1 fs fz fa fp fc w a0 a1 h9 hh
    · cases hfc : fc
      · exact Daa_3 fs fz fa fp false w a0 a1 h9 hh rfl
      · exact Daa_2 fs fz fa fp true w a0 a1 h9 hh rfl
  · cases hfa : fa
    · by_cases hh : a / 16 > 9
      · exact Daa_7 fs fz false fp fc w a0 a1 h9 rfl hh
      · cases hfc : fc
        · exact Daa_9 fs fz false fp false w a0 a1 h9 rfl hh rfl
        · exact Daa_8 fs fz false fp true w a0 a1 h9 rfl hh rfl
    · by_cases hh : (a + 6) / 16 > 9
      · exact Daa_4 fs fz true fp fc w a0 a1 h9 rfl hh
      · cases hfc : fc
        · exact Daa_6 fs fz true fp false w a0 a1 h9 rfl hh rfl
        · exact Daa_5 fs fz true fp true w a0 a1 h9 rfl hh rfl
def turnS (k a : Int) (c : Bool) : Int × Bool :=
  if k = 0 then ((a * 2 + a / 128) % 256, decide (a ≥ 128)) else if k = 1 then (a / 2 + a % 2 * 128, decide (a % 2 = 1))
  else if k = 2 then ((a * 2 + c2i c) % 256, decide (a ≥ 128)) else if k = 3 then (a / 2 + c2i c * 128, decide (a % 2 = 1)) else (a, c)
theorem turn_all : (List.range 256).all (fun a => [0, 1, 2, 3].all (fun k : Int => [true, false].all (fun c => decide (word_Turn.f k (a : Int) c = some (turnS k a c))))) = true := by decide +kernel
theorem turn_is {k a : Int} (c : Bool) (k0 : 0 ≤ k) (k3 : k ≤ 3) (a0 : 0 ≤ a) (a1 : a < 256) : word_Turn.f k a c = some (turnS k a c) := by
  have h := byte_all (P := fun a => [0, 1, 2, 3].all (fun k : Int => [true, false].all (fun c => decide (word_Turn.f k a c = some (turnS k a c))))) turn_all a0 a1
  have h2 := List.all_eq_true.mp h k (by simp; omega)
  have h3 := List.all_eq_true.mp h2 c (by cases c <;> simp)
  exact of_decide_eq_true h3
theorem Turn_c {k a : Int} (c : Bool) (w : World) (k0 : 0 ≤ k) (k3 : k ≤ 3) (a0 : 0 ≤ a) (a1 : a < 256) : Calls Try.prog 82 #[.int .i64 k, .int .u8 a, .bool c] w fun e w' => e = .returned (.tuple #[.int .u8 (turnS k a c).1, .bool (turnS k a c).2]) ∧ Drawn0 w w' :=
  word_Turn.calls k a c _ _ w (turn_is c k0 k3 a0 a1)
def St.setCF (s : St) (c : Bool) : St := { s with f := { s.f with c := c } }
def St.turn (s : St) (k : Int) : St :=
  if k = 4 then { s.setR 7 (daaS (s.r 7) s.f).1 with f := (daaS (s.r 7) s.f).2 } else if k = 5 then s.setR 7 (255 - s.r 7)
  else if k = 6 then s.setCF true else if k = 7 then s.setCF (!s.f.c) else (s.setR 7 (turnS k (s.r 7) s.f.c).1).setCF (turnS k (s.r 7) s.f.c).2
theorem daaS_bd (a : Int) (f : Fl) : 0 ≤ (daaS a f).1 ∧ (daaS a f).1 < 256 := by
  unfold daaS
  simp only
  omega
theorem turnS_bd {k a : Int} {c : Bool} (h0 : 0 ≤ a) (h1 : a < 256) : 0 ≤ (turnS k a c).1 ∧ (turnS k a c).1 < 256 := by
  have hc := c2i_bd c
  unfold turnS
  (repeat' split) <;> simp only <;> omega
set_option maxHeartbeats 2000000 in
theorem turn_4 {s : St} {L : Loc} (w : World) (h : Rep w s L) :
    Calls Try.prog 49 #[.pointer (some ⟨L.g, 0, none⟩), .int .u8 4] w (Did L w (.tuple #[]) (s.turn 4)) := by
  obtain ⟨c0, c1, c2, c3, c4, c5, c6, c7, c8, c9, c10, c11, c12, c13, c14, c15, c16, c17, c18, c19⟩ := h.all
  have hz := h.z
  have b7 := h.bd 7
  go_enter Try.func49, Try.ntmps49
  go_wp2_with fail
  go_region_with (go_at_call 81; refine (Daa_c s.f _ b7.1 b7.2).mono ?_; rintro e w' ⟨rfl, hb⟩; have HB := Aside0.mk hb; have H' := Aside0.mk (Rep.below h.drew hb); clear hb; obtain ⟨d0, d1, d2, d3, d4, d5, d6, d7, d8, d9, d10, d11, d12, d13, d14, d15, d16, d17, d18, d19⟩ := H'.out.all; have dz := H'.out.z)
  all_goals go_end0
  all_goals exact ⟨rfl, Rep.setF (s := s.setR 7 (daaS (s.r 7) s.f).1) (Rep.put H'.out 7 _ rfl rfl (h.wf.setR 7 _ (daaS_bd _ _).1 (daaS_bd _ _).2)) _, ((((Same.refl w L).drew).below HB.out).put 7 _).setF _⟩
set_option maxHeartbeats 2000000 in
theorem turn_5 {s : St} {L : Loc} (w : World) (h : Rep w s L) :
    Calls Try.prog 49 #[.pointer (some ⟨L.g, 0, none⟩), .int .u8 5] w (Did L w (.tuple #[]) (s.turn 5)) := by
  obtain ⟨c0, c1, c2, c3, c4, c5, c6, c7, c8, c9, c10, c11, c12, c13, c14, c15, c16, c17, c18, c19⟩ := h.all
  have hz := h.z
  have b7 := h.bd 7
  have hx := xor255 b7.1 b7.2
  go_enter Try.func49, Try.ntmps49
  go_wp2_with fail
  go_region
  all_goals go_end0
  all_goals rw [show Go.bits .xor .u8 (if IntKind.u8.signed = true then -1 else IntKind.u8.max) (s.r 7) = 255 - s.r 7 from hx]
  all_goals exact ⟨rfl, (Rep.put (s' := s.turn 5) h 7 _ rfl rfl (h.wf.setR 7 _ (by omega) (by omega))).drew, ((Same.refl w L).put 7 _).drew⟩
set_option maxHeartbeats 2000000 in
theorem turn_67 {s : St} {L : Loc} (w : World) (h : Rep w s L) (k : Int) (hk : k = 6 ∨ k = 7) :
    Calls Try.prog 49 #[.pointer (some ⟨L.g, 0, none⟩), .int .u8 k] w (Did L w (.tuple #[]) (s.turn k)) := by
  obtain ⟨c0, c1, c2, c3, c4, c5, c6, c7, c8, c9, c10, c11, c12, c13, c14, c15, c16, c17, c18, c19⟩ := h.all
  have hz := h.z
  have wf : ∀ c, (s.setCF c).Wf := fun c => ⟨h.wf.r0, h.wf.r1, h.wf.sp0, h.wf.sp1, h.wf.pc0, h.wf.pc1, h.wf.m0, h.wf.m1⟩
  rcases hk with rfl | rfl
  all_goals
    go_enter Try.func49, Try.ntmps49
    go_wp2_with fail
  all_goals first | go_end0 | ((try simp only [Exit.inBlock, Exit.then]); refine bodyPost_end (results_none rfl _ _ _) rfl ?_)
  · exact ⟨rfl, Rep.put (s' := s.turn 6) h 12 _ rfl rfl (wf _), (Same.refl w L).put 12 _⟩
  · exact ⟨rfl, Rep.put (s' := s.turn 7) h 12 _ rfl rfl (wf _), (Same.refl w L).put 12 _⟩
theorem turn_03 {s : St} {L : Loc} (w : World) (h : Rep w s L) (k : Int) (k0 : 0 ≤ k) (k3 : k ≤ 3) :
    Calls Try.prog 49 #[.pointer (some ⟨L.g, 0, none⟩), .int .u8 k] w (Did L w (.tuple #[]) (s.turn k)) := by
  obtain ⟨c0, c1, c2, c3, c4, c5, c6, c7, c8, c9, c10, c11, c12, c13, c14, c15, c16, c17, c18, c19⟩ := h.all
  have hz := h.z
  have b7 := h.bd 7
  have tb := turnS_bd (k := k) (c := s.f.c) b7.1 b7.2
  have TB := Aside0.mk tb
  clear tb
  have w0 : IntKind.i64.wrap k = k := by simp [IntKind.wrap, IntKind.bits, IntKind.signed]; omega
  have k4 : (k == 4) = false := beq_eq_false_iff_ne.mpr (by omega)
  have k5 : (k == 5) = false := beq_eq_false_iff_ne.mpr (by omega)
  have k6 : (k == 6) = false := beq_eq_false_iff_ne.mpr (by omega)
  have k7 : (k == 7) = false := beq_eq_false_iff_ne.mpr (by omega)
  have e : s.turn k = (s.setR 7 (turnS k (s.r 7) s.f.c).1).setCF (turnS k (s.r 7) s.f.c).2 := by
    unfold St.turn
    rw [if_neg (by omega), if_neg (by omega), if_neg (by omega), if_neg (by omega)]
  rw [e]
  clear e
  go_enter Try.func49, Try.ntmps49
  go_wp2_with fail
  go_region_with (go_at_call 82; refine (Turn_c s.f.c _ k0 k3 b7.1 b7.2).mono ?_; rintro e w' ⟨rfl, ⟨nd, rfl⟩⟩)
  all_goals first | go_end0 | ((try simp only [Exit.inBlock, Exit.then]); refine bodyPost_end (results_none rfl _ _ _) rfl ?_)
  all_goals
    have wf := h.wf.setR 7 _ TB.out.1 TB.out.2
    exact ⟨rfl, Rep.put (Rep.put (s' := s.setR 7 (turnS k (s.r 7) s.f.c).1) (h.drewN _) 7 _ rfl rfl wf) 12 _ rfl rfl ⟨wf.r0, wf.r1, wf.sp0, wf.sp1, wf.pc0, wf.pc1, wf.m0, wf.m1⟩, (((Same.refl w L).drewN _).put 7 _).put 12 _⟩
theorem turn_any {s : St} {L : Loc} (w : World) (h : Rep w s L) (k : Int) (k0 : 0 ≤ k) (k7 : k ≤ 7) :
    Calls Try.prog 49 #[.pointer (some ⟨L.g, 0, none⟩), .int .u8 k] w (Did L w (.tuple #[]) (s.turn k)) := by
  by_cases e : k ≤ 3
  · exact turn_03 w h k k0 e
  · rcases (by omega : k = 4 ∨ k = 5 ∨ k = 6 ∨ k = 7) with rfl | rfl | rfl | rfl
    · exact turn_4 w h
    · exact turn_5 w h
    · exact turn_67 w h 6 (.inl rfl)
    · exact turn_67 w h 7 (.inr rfl)
end Go.Proofs.Ytaiabehbappdaaa.Cpu
namespace Go.Proofs.Ytaiabehbappdaaa.Cpu
open Go Go.RowKit Go.Proofs.YtaiabehbappdaaaW.PrintWords
def St.low (s : St) (op n : Int) : St :=
  if op % 16 = 1 then s.setPair (op / 16) n
  else if op % 16 = 9 then (s.setPair 2 (add16S (s.pair 2) (s.pair (op / 16))).1).setCF (add16S (s.pair 2) (s.pair (op / 16))).2
  else if op % 16 = 3 then s.setPair (op / 16) ((s.pair (op / 16) + 1) % 65536)
  else if op % 16 = 11 then s.setPair (op / 16) ((s.pair (op / 16) - 1) % 65536)
  else if op % 8 = 2 then s.moves op n
  else if op % 8 = 4 then { s.set (op / 8) (incS (s.get (op / 8)) s.f).1 with f := (incS (s.get (op / 8)) s.f).2 }
  else if op % 8 = 5 then { s.set (op / 8) (decS (s.get (op / 8)) s.f).1 with f := (decS (s.get (op / 8)) s.f).2 }
  else if op % 8 = 6 then s.set (op / 8) (n % 256)
  else if op % 8 = 7 then s.turn (op / 8)
  else s
theorem incS_bd (a : Int) (f : Fl) : 0 ≤ (incS a f).1 ∧ (incS a f).1 < 256 := addS_bd _ _ _
theorem decS_bd (a : Int) (f : Fl) : 0 ≤ (decS a f).1 ∧ (decS a f).1 < 256 := subS_bd _ _ _
theorem regp_ne (L : Loc) {k hl : Int} (hne : L.g ≠ L.mb) (hk : k ≤ 7) {j : Nat} (hj : 8 ≤ j) : regp L k hl ≠ ⟨L.g, j, none⟩ := by
  unfold regp
  split
  · intro e; injection e with e1; exact hne e1.symm
  · intro e; injection e with e1 e2; omega
abbrev LowGoal (w : World) (s : St) (L : Loc) (op n : Int) : Prop := Calls Try.prog 28 #[.pointer (some ⟨L.g, 0, none⟩), .int .u8 op, .int .u16 n] w (Did L w (.tuple #[]) (s.low op n))
set_option maxHeartbeats 2000000 in
theorem low_1 {s : St} {L : Loc} (w : World) (h : Rep w s L) (op n : Int) (o0 : 0 ≤ op) (o1 : op < 64) (n0 : 0 ≤ n) (n1 : n < 65536) (ho : op % 16 = 1) : LowGoal w s L op n := by
  have e : s.low op n = s.setPair (op / 16) n := by unfold St.low; rw [if_pos ho]
  unfold LowGoal
  rw [e]
  clear e
  have hj : Go.bits .and .u8 op 15 = 1 := by rw [u8_and15 _ o0 (by omega)]; exact ho
  go_enter Try.func28, Try.ntmps28
  go_wp2_with (go_at_call 44; refine (pair_any _ h (op / 16) n (by omega) (by omega) n0 n1).mono ?_; rintro e w' ⟨rfl, hr, hs⟩; have HR := Aside0.mk hr; have HS := Aside0.mk hs; clear hr hs)
  first | go_end0 | ((try simp only [Exit.inBlock, Exit.then]); refine bodyPost_ret (results_none rfl _ _ _) rfl ?_)
  exact ⟨rfl, HR.out, HS.out⟩
set_option maxHeartbeats 2000000 in
theorem low_9 {s : St} {L : Loc} (w : World) (h : Rep w s L) (op n : Int) (o0 : 0 ≤ op) (o1 : op < 64) (ho : op % 16 = 9) : LowGoal w s L op n := by
  have e : s.low op n = (s.setPair 2 (add16S (s.pair 2) (s.pair (op / 16))).1).setCF (add16S (s.pair 2) (s.pair (op / 16))).2 := by unfold St.low; rw [if_neg (by omega), if_pos ho]
  unfold LowGoal
  rw [e]
  clear e
  have hj : Go.bits .and .u8 op 15 = 9 := by rw [u8_and15 _ o0 (by omega)]; exact ho
  have p2 := St.pair_bd h.wf 2
  have pp := St.pair_bd h.wf (op / 16)
  have bd : 0 ≤ (add16S (s.pair 2) (s.pair (op / 16))).1 ∧ (add16S (s.pair 2) (s.pair (op / 16))).1 < 65536 := by unfold add16S; simp only; omega
  go_enter Try.func28, Try.ntmps28
  have P2 := Aside0.mk p2
  have PP := Aside0.mk pp
  have BD := Aside0.mk bd
  clear p2 pp bd
  go_wp2_with fail
  refine (Pair_any _ h 2 (by omega) (by omega)).mono ?_
  rintro e w' ⟨rfl, ⟨nd, rfl⟩⟩
  go_wp2_with fail
  refine (Pair_any _ (h.drewN nd) (op / 16) (by omega) (by omega)).mono ?_
  rintro e w' ⟨rfl, ⟨nd2, rfl⟩⟩
  go_wp2_with fail
  refine (Add16_c _ P2.out.1 P2.out.2 PP.out.1 PP.out.2).mono ?_
  rintro e w' ⟨rfl, hb⟩
  have HB := Aside0.mk hb
  have H1 := Aside0.mk ((h.drewN (nd + nd2)).below hb)
  clear hb
  go_wp2_with fail
  refine (pair_any _ H1.out 2 _ (by omega) (by omega) BD.out.1 BD.out.2).mono ?_
  rintro e w2 ⟨rfl, hr, hs⟩
  have HR := Aside0.mk hr
  have HS := Aside0.mk hs
  clear hr hs
  have c12 := HR.out.c 12
  have z12 := HR.out.z 12
  go_wp2_with fail
  first | go_end0 | ((try simp only [Exit.inBlock, Exit.then]); first | refine bodyPost_ret (results_none rfl _ _ _) rfl ?_ | refine bodyPost_end (results_none rfl _ _ _) rfl ?_)
  have wf := HR.out.wf
  exact ⟨rfl, Rep.put (s' := (s.setPair 2 (add16S (s.pair 2) (s.pair (op / 16))).1).setCF (add16S (s.pair 2) (s.pair (op / 16))).2) HR.out 12 _ rfl rfl ⟨wf.r0, wf.r1, wf.sp0, wf.sp1, wf.pc0, wf.pc1, wf.m0, wf.m1⟩, (Same.trans (((Same.refl w L).drewN _).below HB.out) HS.out).put 12 _⟩
theorem low_3 {s : St} {L : Loc} (w : World) (h : Rep w s L) (op n : Int) (o0 : 0 ≤ op) (o1 : op < 64) (ho : op % 16 = 3) : LowGoal w s L op n := by
  have e : s.low op n = s.setPair (op / 16) ((s.pair (op / 16) + 1) % 65536) := by unfold St.low; rw [if_neg (by omega), if_neg (by omega), if_pos ho]
  unfold LowGoal
  rw [e]
  clear e
  have hj : Go.bits .and .u8 op 15 = 3 := by rw [u8_and15 _ o0 (by omega)]; exact ho
  have hw : IntKind.u16.wrap (s.pair (op / 16) + 1) = (s.pair (op / 16) + 1) % 65536 := by simp [IntKind.wrap, IntKind.bits, IntKind.signed]
  have g0 : 0 ≤ (s.pair (op / 16) + 1) % 65536 := by omega
  have g1 : (s.pair (op / 16) + 1) % 65536 < 65536 := by omega
  generalize (s.pair (op / 16) + 1) % 65536 = v at *
  go_enter Try.func28, Try.ntmps28
  go_wp2_with fail
  refine (Pair_any _ h (op / 16) (by omega) (by omega)).mono ?_
  rintro e w' ⟨rfl, ⟨nd, rfl⟩⟩
  go_wp2_with fail
  refine (pair_any _ (h.drewN nd) (op / 16) v (by omega) (by omega) g0 g1).mono ?_
  rintro e w2 ⟨rfl, hr, hs⟩
  have HR := Aside0.mk hr
  have HS := Aside0.mk hs
  clear hr hs
  go_wp2_with fail
  first | go_end0 | ((try simp only [Exit.inBlock, Exit.then]); first | refine bodyPost_ret (results_none rfl _ _ _) rfl ?_ | refine bodyPost_end (results_none rfl _ _ _) rfl ?_)
  exact ⟨rfl, HR.out, Same.trans ((Same.refl w L).drewN _) HS.out⟩
theorem low_11 {s : St} {L : Loc} (w : World) (h : Rep w s L) (op n : Int) (o0 : 0 ≤ op) (o1 : op < 64) (ho : op % 16 = 11) : LowGoal w s L op n := by
  have e : s.low op n = s.setPair (op / 16) ((s.pair (op / 16) - 1) % 65536) := by unfold St.low; rw [if_neg (by omega), if_neg (by omega), if_neg (by omega), if_pos ho]
  unfold LowGoal
  rw [e]
  clear e
  have hj : Go.bits .and .u8 op 15 = 11 := by rw [u8_and15 _ o0 (by omega)]; exact ho
  have hw : IntKind.u16.wrap (s.pair (op / 16) - 1) = (s.pair (op / 16) - 1) % 65536 := by simp [IntKind.wrap, IntKind.bits, IntKind.signed]
  have g0 : 0 ≤ (s.pair (op / 16) - 1) % 65536 := by omega
  have g1 : (s.pair (op / 16) - 1) % 65536 < 65536 := by omega
  generalize (s.pair (op / 16) - 1) % 65536 = v at *
  go_enter Try.func28, Try.ntmps28
  go_wp2_with fail
  refine (Pair_any _ h (op / 16) (by omega) (by omega)).mono ?_
  rintro e w' ⟨rfl, ⟨nd, rfl⟩⟩
  go_wp2_with fail
  refine (pair_any _ (h.drewN nd) (op / 16) v (by omega) (by omega) g0 g1).mono ?_
  rintro e w2 ⟨rfl, hr, hs⟩
  have HR := Aside0.mk hr
  have HS := Aside0.mk hs
  clear hr hs
  go_wp2_with fail
  first | go_end0 | ((try simp only [Exit.inBlock, Exit.then]); first | refine bodyPost_ret (results_none rfl _ _ _) rfl ?_ | refine bodyPost_end (results_none rfl _ _ _) rfl ?_)
  exact ⟨rfl, HR.out, Same.trans ((Same.refl w L).drewN _) HS.out⟩
theorem low_m {s : St} {L : Loc} (w : World) (h : Rep w s L) (op n : Int) (o0 : 0 ≤ op) (o1 : op < 64) (n0 : 0 ≤ n) (n1 : n < 65536) (ho : op % 8 = 2) : LowGoal w s L op n := by
  have e : s.low op n = s.moves op n := by unfold St.low; rw [if_neg (by omega), if_neg (by omega), if_neg (by omega), if_neg (by omega), if_pos ho]
  unfold LowGoal
  rw [e]
  clear e
  have hj : Go.bits .and .u8 op 15 = op % 16 := u8_and15 _ o0 (by omega)
  have j1 : (op % 16 == 1) = false := beq_eq_false_iff_ne.mpr (by omega)
  have j9 : (op % 16 == 9) = false := beq_eq_false_iff_ne.mpr (by omega)
  have j3 : (op % 16 == 3) = false := beq_eq_false_iff_ne.mpr (by omega)
  have j11 : (op % 16 == 11) = false := beq_eq_false_iff_ne.mpr (by omega)
  have hk : Go.bits .and .u8 op 7 = 2 := by rw [u8_and7 _ o0 (by omega)]; exact ho
  go_enter Try.func28, Try.ntmps28
  go_wp2_with fail
  refine (moves_any _ h op n n0 n1 (by omega)).mono ?_
  rintro e w2 ⟨rfl, hr, hs⟩
  have HR := Aside0.mk hr
  have HS := Aside0.mk hs
  clear hr hs
  go_wp2_with fail
  first | go_end0 | ((try simp only [Exit.inBlock, Exit.then]); first | refine bodyPost_ret (results_none rfl _ _ _) rfl ?_ | refine bodyPost_end (results_none rfl _ _ _) rfl ?_)
  exact ⟨rfl, HR.out, HS.out⟩
theorem low_t {s : St} {L : Loc} (w : World) (h : Rep w s L) (op n : Int) (o0 : 0 ≤ op) (o1 : op < 64) (ho : op % 8 = 7) : LowGoal w s L op n := by
  have e : s.low op n = s.turn (op / 8) := by unfold St.low; rw [if_neg (by omega), if_neg (by omega), if_neg (by omega), if_neg (by omega), if_neg (by omega), if_neg (by omega), if_neg (by omega), if_neg (by omega), if_pos ho]
  unfold LowGoal
  rw [e]
  clear e
  have hj : Go.bits .and .u8 op 15 = op % 16 := u8_and15 _ o0 (by omega)
  have j1 : (op % 16 == 1) = false := beq_eq_false_iff_ne.mpr (by omega)
  have j9 : (op % 16 == 9) = false := beq_eq_false_iff_ne.mpr (by omega)
  have j3 : (op % 16 == 3) = false := beq_eq_false_iff_ne.mpr (by omega)
  have j11 : (op % 16 == 11) = false := beq_eq_false_iff_ne.mpr (by omega)
  have hk : Go.bits .and .u8 op 7 = 7 := by rw [u8_and7 _ o0 (by omega)]; exact ho
  go_enter Try.func28, Try.ntmps28
  go_wp2_with fail
  refine (turn_any _ h (op / 8) (by omega) (by omega)).mono ?_
  rintro e w2 ⟨rfl, hr, hs⟩
  have HR := Aside0.mk hr
  have HS := Aside0.mk hs
  clear hr hs
  go_wp2_with fail
  first | go_end0 | ((try simp only [Exit.inBlock, Exit.then]); first | refine bodyPost_ret (results_none rfl _ _ _) rfl ?_ | refine bodyPost_end (results_none rfl _ _ _) rfl ?_)
  exact ⟨rfl, HR.out, HS.out⟩
theorem low_0 {s : St} {L : Loc} (w : World) (h : Rep w s L) (op n : Int) (o0 : 0 ≤ op) (o1 : op < 64) (ho : op % 8 = 0) : LowGoal w s L op n := by
  have e : s.low op n = s := by unfold St.low; rw [if_neg (by omega), if_neg (by omega), if_neg (by omega), if_neg (by omega), if_neg (by omega), if_neg (by omega), if_neg (by omega), if_neg (by omega), if_neg (by omega)]
  unfold LowGoal
  rw [e]
  clear e
  have hj : Go.bits .and .u8 op 15 = op % 16 := u8_and15 _ o0 (by omega)
  have j1 : (op % 16 == 1) = false := beq_eq_false_iff_ne.mpr (by omega)
  have j9 : (op % 16 == 9) = false := beq_eq_false_iff_ne.mpr (by omega)
  have j3 : (op % 16 == 3) = false := beq_eq_false_iff_ne.mpr (by omega)
  have j11 : (op % 16 == 11) = false := beq_eq_false_iff_ne.mpr (by omega)
  have hk : Go.bits .and .u8 op 7 = 0 := by rw [u8_and7 _ o0 (by omega)]; exact ho
  go_enter Try.func28, Try.ntmps28
  go_wp2_with fail
  first | go_end0 | ((try simp only [Exit.inBlock, Exit.then]); first | refine bodyPost_ret (results_none rfl _ _ _) rfl ?_ | refine bodyPost_end (results_none rfl _ _ _) rfl ?_)
  exact ⟨rfl, h, Same.refl w L⟩
theorem low_6 {s : St} {L : Loc} (w : World) (h : Rep w s L) (op n : Int) (o0 : 0 ≤ op) (o1 : op < 64) (n0 : 0 ≤ n) (n1 : n < 65536) (ho : op % 8 = 6) : LowGoal w s L op n := by
  have e : s.low op n = s.set (op / 8) (n % 256) := by unfold St.low; rw [if_neg (by omega), if_neg (by omega), if_neg (by omega), if_neg (by omega), if_neg (by omega), if_neg (by omega), if_neg (by omega), if_pos ho]
  unfold LowGoal
  rw [e]
  clear e
  have hj : Go.bits .and .u8 op 15 = op % 16 := u8_and15 _ o0 (by omega)
  have j1 : (op % 16 == 1) = false := beq_eq_false_iff_ne.mpr (by omega)
  have j9 : (op % 16 == 9) = false := beq_eq_false_iff_ne.mpr (by omega)
  have j3 : (op % 16 == 3) = false := beq_eq_false_iff_ne.mpr (by omega)
  have j11 : (op % 16 == 11) = false := beq_eq_false_iff_ne.mpr (by omega)
  have hk : Go.bits .and .u8 op 7 = 6 := by rw [u8_and7 _ o0 (by omega)]; exact ho
  have hk8 : Go.bits .and .u8 (op / 8) 7 = op / 8 := by rw [u8_and7 _ (by omega) (by omega)]; omega
  have rg := h.reg (k := op / 8) (by omega) (by omega)
  have pr := h.pr
  have v0 : 0 ≤ s.get (op / 8) := by unfold St.get; split; exact h.wf.m0 _; exact h.wf.r0 _
  have v1 : s.get (op / 8) < 256 := by unfold St.get; split; exact h.wf.m1 _; exact h.wf.r1 _
  have RG := Aside0.mk rg
  clear rg
  go_enter Try.func28, Try.ntmps28
  go_wp2_with fail
  refine (reg_any _ h (op / 8) (op / 8) hk8 (by omega) (by omega)).mono ?_
  rintro e w' ⟨rfl, ⟨nd, rfl⟩⟩
  have HP := Aside0.mk (Rep.setreg (h.drewN nd) (k := op / 8) (v := n % 256) (by omega) (by omega) (by omega) (by omega))
  have HQ := Aside0.mk (Same.setreg ((Same.refl w L).drewN nd) (op / 8) (s.pair 2) (.int .u8 (n % 256)))
  have r1 := RG.out.1
  have r2 := RG.out.2
  generalize regp L (op / 8) (s.pair 2) = ad at *
  go_wp2_with fail
  first | go_end0 | ((try simp only [Exit.inBlock, Exit.then]); first | refine bodyPost_ret (results_none rfl _ _ _) rfl ?_ | refine bodyPost_end (results_none rfl _ _ _) rfl ?_)
  exact ⟨rfl, HP.out, HQ.out⟩
theorem low_4 {s : St} {L : Loc} (w : World) (h : Rep w s L) (op n : Int) (o0 : 0 ≤ op) (o1 : op < 64) (ho : op % 8 = 4) : LowGoal w s L op n := by
  have e : s.low op n = { s.set (op / 8) (incS (s.get (op / 8)) s.f).1 with f := (incS (s.get (op / 8)) s.f).2 } := by unfold St.low; rw [if_neg (by omega), if_neg (by omega), if_neg (by omega), if_neg (by omega), if_neg (by omega), if_pos ho]
  unfold LowGoal
  rw [e]
  clear e
  have hj : Go.bits .and .u8 op 15 = op % 16 := u8_and15 _ o0 (by omega)
  have j1 : (op % 16 == 1) = false := beq_eq_false_iff_ne.mpr (by omega)
  have j9 : (op % 16 == 9) = false := beq_eq_false_iff_ne.mpr (by omega)
  have j3 : (op % 16 == 3) = false := beq_eq_false_iff_ne.mpr (by omega)
  have j11 : (op % 16 == 11) = false := beq_eq_false_iff_ne.mpr (by omega)
  have hk : Go.bits .and .u8 op 7 = 4 := by rw [u8_and7 _ o0 (by omega)]; exact ho
  have hk8 : Go.bits .and .u8 (op / 8) 7 = op / 8 := by rw [u8_and7 _ (by omega) (by omega)]; omega
  have rg := h.reg (k := op / 8) (by omega) (by omega)
  have pr := h.pr
  have v0 : 0 ≤ s.get (op / 8) := by unfold St.get; split; exact h.wf.m0 _; exact h.wf.r0 _
  have v1 : s.get (op / 8) < 256 := by unfold St.get; split; exact h.wf.m1 _; exact h.wf.r1 _
  have RG := Aside0.mk rg
  clear rg
  obtain ⟨c0, c1, c2, c3, c4, c5, c6, c7, c8, c9, c10, c11, c12, c13, c14, c15, c16, c17, c18, c19⟩ := h.all
  have hz := h.z
  have bd : 0 ≤ (incS (s.get (op / 8)) s.f).1 ∧ (incS (s.get (op / 8)) s.f).1 < 256 := incS_bd _ _
  have BD := Aside0.mk bd
  clear bd
  go_enter Try.func28, Try.ntmps28
  go_wp2_with fail
  refine (reg_any _ h (op / 8) (op / 8) hk8 (by omega) (by omega)).mono ?_
  rintro e w' ⟨rfl, ⟨nd, rfl⟩⟩
  have NE := Aside0.mk (fun j (h8 : 8 ≤ j) => regp_ne L (hl := s.pair 2) h.ne (show (op / 8 : Int) ≤ 7 by omega) h8)
  have r1 := RG.out.1
  have r2 := RG.out.2
  have n8 := NE.out 8 (by omega)
  have n9 := NE.out 9 (by omega)
  have n10 := NE.out 10 (by omega)
  have n11 := NE.out 11 (by omega)
  have n12 := NE.out 12 (by omega)
  have PUT := Aside0.mk (fun (W : World) (hW : Rep W s L) => Rep.setreg hW (k := op / 8) (v := (incS (s.get (op / 8)) s.f).1) (by omega) (by omega) BD.out.1 BD.out.2)
  have SPUT := Aside0.mk (fun (W : World) (hW : Same w W L) => Same.setreg hW (op / 8) (s.pair 2) (.int .u8 (incS (s.get (op / 8)) s.f).1))
  have RGW := Aside0.mk (fun (W : World) (hW : Rep W s L) => hW.reg (k := op / 8) (by omega) (by omega))
  generalize regp L (op / 8) (s.pair 2) = ad at *
  go_wp2_with fail
  go_region_with (go_at_call 47; refine (Inc_c s.f _ v0 v1).mono ?_; rintro e w' ⟨rfl, hb⟩; have HB := Aside0.mk hb; have H' := Aside0.mk (Rep.below (h.drewN _) hb); clear hb; obtain ⟨d0, d1, d2, d3, d4, d5, d6, d7, d8, d9, d10, d11, d12, d13, d14, d15, d16, d17, d18, d19⟩ := H'.out.all; have dz := H'.out.z; have q1 := (RGW.out _ H'.out).1; have q2 := (RGW.out _ H'.out).2)
  all_goals first | go_end0 | ((try simp only [Exit.inBlock, Exit.then]); first | refine bodyPost_ret (results_none rfl _ _ _) rfl ?_ | refine bodyPost_end (results_none rfl _ _ _) rfl ?_)
  all_goals exact ⟨rfl, Rep.setF (s := s.set (op / 8) _) (PUT.out _ H'.out) _, (SPUT.out _ (((Same.refl w L).drewN _).below HB.out)).setF _⟩
theorem low_5 {s : St} {L : Loc} (w : World) (h : Rep w s L) (op n : Int) (o0 : 0 ≤ op) (o1 : op < 64) (ho : op % 8 = 5) : LowGoal w s L op n := by
  have e : s.low op n = { s.set (op / 8) (decS (s.get (op / 8)) s.f).1 with f := (decS (s.get (op / 8)) s.f).2 } := by unfold St.low; rw [if_neg (by omega), if_neg (by omega), if_neg (by omega), if_neg (by omega), if_neg (by omega), if_neg (by omega), if_pos ho]
  unfold LowGoal
  rw [e]
  clear e
  have hj : Go.bits .and .u8 op 15 = op % 16 := u8_and15 _ o0 (by omega)
  have j1 : (op % 16 == 1) = false := beq_eq_false_iff_ne.mpr (by omega)
  have j9 : (op % 16 == 9) = false := beq_eq_false_iff_ne.mpr (by omega)
  have j3 : (op % 16 == 3) = false := beq_eq_false_iff_ne.mpr (by omega)
  have j11 : (op % 16 == 11) = false := beq_eq_false_iff_ne.mpr (by omega)
  have hk : Go.bits .and .u8 op 7 = 5 := by rw [u8_and7 _ o0 (by omega)]; exact ho
  have hk8 : Go.bits .and .u8 (op / 8) 7 = op / 8 := by rw [u8_and7 _ (by omega) (by omega)]; omega
  have rg := h.reg (k := op / 8) (by omega) (by omega)
  have pr := h.pr
  have v0 : 0 ≤ s.get (op / 8) := by unfold St.get; split; exact h.wf.m0 _; exact h.wf.r0 _
  have v1 : s.get (op / 8) < 256 := by unfold St.get; split; exact h.wf.m1 _; exact h.wf.r1 _
  have RG := Aside0.mk rg
  clear rg
  obtain ⟨c0, c1, c2, c3, c4, c5, c6, c7, c8, c9, c10, c11, c12, c13, c14, c15, c16, c17, c18, c19⟩ := h.all
  have hz := h.z
  have bd : 0 ≤ (decS (s.get (op / 8)) s.f).1 ∧ (decS (s.get (op / 8)) s.f).1 < 256 := decS_bd _ _
  have BD := Aside0.mk bd
  clear bd
  go_enter Try.func28, Try.ntmps28
  go_wp2_with fail
  refine (reg_any _ h (op / 8) (op / 8) hk8 (by omega) (by omega)).mono ?_
  rintro e w' ⟨rfl, ⟨nd, rfl⟩⟩
  have NE := Aside0.mk (fun j (h8 : 8 ≤ j) => regp_ne L (hl := s.pair 2) h.ne (show (op / 8 : Int) ≤ 7 by omega) h8)
  have r1 := RG.out.1
  have r2 := RG.out.2
  have n8 := NE.out 8 (by omega)
  have n9 := NE.out 9 (by omega)
  have n10 := NE.out 10 (by omega)
  have n11 := NE.out 11 (by omega)
  have n12 := NE.out 12 (by omega)
  have PUT := Aside0.mk (fun (W : World) (hW : Rep W s L) => Rep.setreg hW (k := op / 8) (v := (decS (s.get (op / 8)) s.f).1) (by omega) (by omega) BD.out.1 BD.out.2)
  have SPUT := Aside0.mk (fun (W : World) (hW : Same w W L) => Same.setreg hW (op / 8) (s.pair 2) (.int .u8 (decS (s.get (op / 8)) s.f).1))
  have RGW := Aside0.mk (fun (W : World) (hW : Rep W s L) => hW.reg (k := op / 8) (by omega) (by omega))
  generalize regp L (op / 8) (s.pair 2) = ad at *
  go_wp2_with fail
  go_region_with (go_at_call 48; refine (Dec_c s.f _ v0 v1).mono ?_; rintro e w' ⟨rfl, hb⟩; have HB := Aside0.mk hb; have H' := Aside0.mk (Rep.below (h.drewN _) hb); clear hb; obtain ⟨d0, d1, d2, d3, d4, d5, d6, d7, d8, d9, d10, d11, d12, d13, d14, d15, d16, d17, d18, d19⟩ := H'.out.all; have dz := H'.out.z; have q1 := (RGW.out _ H'.out).1; have q2 := (RGW.out _ H'.out).2)
  all_goals first | go_end0 | ((try simp only [Exit.inBlock, Exit.then]); first | refine bodyPost_ret (results_none rfl _ _ _) rfl ?_ | refine bodyPost_end (results_none rfl _ _ _) rfl ?_)
  all_goals exact ⟨rfl, Rep.setF (s := s.set (op / 8) _) (PUT.out _ H'.out) _, (SPUT.out _ (((Same.refl w L).drewN _).below HB.out)).setF _⟩
theorem low_any {s : St} {L : Loc} (w : World) (h : Rep w s L) (op n : Int) (o0 : 0 ≤ op) (o1 : op < 64) (n0 : 0 ≤ n) (n1 : n < 65536) : LowGoal w s L op n := by
  rcases (by omega : op % 16 = 1 ∨ op % 16 = 9 ∨ op % 16 = 3 ∨ op % 16 = 11 ∨ op % 8 = 2 ∨ op % 8 = 7 ∨ op % 8 = 0 ∨ op % 8 = 6 ∨ op % 8 = 4 ∨ op % 8 = 5) with e | e | e | e | e | e | e | e | e | e
  · exact low_1 w h op n o0 o1 n0 n1 e
  · exact low_9 w h op n o0 o1 e
  · exact low_3 w h op n o0 o1 e
  · exact low_11 w h op n o0 o1 e
  · exact low_m w h op n o0 o1 n0 n1 e
  · exact low_t w h op n o0 o1 e
  · exact low_0 w h op n o0 o1 e
  · exact low_6 w h op n o0 o1 n0 n1 e
  · exact low_4 w h op n o0 o1 e
  · exact low_5 w h op n o0 o1 e
end Go.Proofs.Ytaiabehbappdaaa.Cpu
namespace Go.Proofs.Ytaiabehbappdaaa.Cpu
open Go Go.RowKit Go.Proofs.YtaiabehbappdaaaW.PrintWords Go.Proofs.Ytaiabehbappdaaa.PCpu
def sizeS (op : Int) : Int :=
  if op < 64 ∧ op % 8 = 0 ∧ op ≠ 0 ∨ op = 203 ∨ op = 217 ∨ op = 221 ∨ op = 237 ∨ op = 253 then 0
  else if op < 64 ∧ op % 16 = 1 ∨ op = 34 ∨ op = 42 ∨ op = 50 ∨ op = 58 ∨ 192 ≤ op ∧ (op % 8 = 2 ∨ op % 8 = 4) ∨ op = 195 ∨ op = 205 then 3
  else if (op < 64 ∨ 192 ≤ op) ∧ op % 8 = 6 ∨ op = 211 ∨ op = 219 then 2 else 1
theorem size_all : (List.range 256).all (fun n => decide (isa80_Size.f 10 (n : Int) = some (sizeS n))) = true := by decide +kernel
theorem size_is {b : Int} (h0 : 0 ≤ b) (h1 : b < 256) : isa80_Size.f 10 b = some (sizeS b) :=
  of_decide_eq_true (byte_all (P := fun n => decide (isa80_Size.f 10 n = some (sizeS n))) size_all h0 h1)
theorem size_bd (b : Int) : sizeS b = 0 ∨ sizeS b = 1 ∨ sizeS b = 2 ∨ sizeS b = 3 := by
  unfold sizeS
  (repeat' split) <;> simp
def argS (b0 b1 b2 : Int) : Int := if sizeS b0 = 3 then b2 * 256 + b1 else if sizeS b0 = 2 then b1 else 0
theorem rd3_0 (a b c : Int) : rd [a, b, c] 0 = a := rfl
theorem rd3_1 (a b c : Int) : rd [a, b, c] 1 = b := rfl
theorem rd3_2 (a b c : Int) : rd [a, b, c] 2 = c := rfl
theorem or_0 {y : Int} (h0 : 0 ≤ y) (h1 : y < 256) : Go.bits .or .u16 0 y = y := by
  have := or_join (x := 0) (y := y) (by omega) (by omega) h0 h1
  simpa using this
theorem read_is {b0 b1 b2 : Int} (h0 : 0 ≤ b0) (h0' : b0 < 256) (h1 : 0 ≤ b1) (h1' : b1 < 256) (h2 : 0 ≤ b2) (h2' : b2 < 256) :
    isa80_Read.f 10 [b0, b1, b2] = some (if sizeS b0 = 0 then (0, 0, 0, 8) else (b0, argS b0 b1 b2, sizeS b0, 0)) := by
  unfold isa80_Read.f
  rw [if_neg (by simp), if_pos (by simp), rd3_0, size_is h0 h0']
  simp only [Option.bind_some]
  have l3 : (([b0, b1, b2] : List Int).length : Int) = 3 := rfl
  rw [l3]
  unfold argS
  rcases size_bd b0 with e | e | e | e
  · rw [e]; rfl
  · rw [e, if_neg (by omega), if_neg (by omega), show wrap64 (1 - 1) = 0 by decide +kernel, isa80_Read.l0, if_neg (by omega), l3, if_pos (by omega)]; rfl
  · rw [e, if_neg (by omega), if_neg (by omega), show wrap64 (2 - 1) = 1 by decide +kernel, isa80_Read.l0, if_pos (by omega), if_pos (by omega), l3, if_pos (by omega), show wrap64 (1 - 1) = 0 by decide +kernel, isa80_Read.l0, if_neg (by omega), l3, if_pos (by omega), rd3_1, w16, w16, show (0 * 256 : Int) % 65536 = 0 by decide, show b1 % 65536 = b1 by omega, or_0 h1 h1']; rfl
  · rw [e, if_neg (by omega), if_neg (by omega), show wrap64 (3 - 1) = 2 by decide +kernel, isa80_Read.l0, if_pos (by omega), if_pos (by omega), l3, if_pos (by omega), show wrap64 (2 - 1) = 1 by decide +kernel, isa80_Read.l0, if_pos (by omega), if_pos (by omega), l3, if_pos (by omega), show wrap64 (1 - 1) = 0 by decide +kernel, isa80_Read.l0, if_neg (by omega), l3, if_pos (by omega), rd3_1, rd3_2, w16, w16, w16, w16, show (0 * 256 : Int) % 65536 = 0 by decide, show b2 % 65536 = b2 by omega, show b1 % 65536 = b1 by omega, or_0 h2 h2', show b2 * 256 % 65536 = b2 * 256 by omega, or_join h2 h2' h1 h1']; rfl
theorem C3 {w : World} {g c : Nat} {b0 b1 b2 : Int} {t : Nat} {fr : Nat × Nat} (hb : w.heap[g]? = some (.cells #[.int .u8 b0, .int .u8 b1, .int .u8 b2] t (0, 0))) : (Kd.int .u8).C w (some ⟨g, 0, none⟩) 3 [b0, b1, b2] := by
  refine Kd.C_of_reads (d := (0 : Int)) ⟨rfl, by omega, fun _ => ⟨_, rfl, fun j hj => ?_⟩⟩
  have e : (⟨g, 0, none⟩ : Addr).add j = ⟨g, j, none⟩ := by unfold Addr.add; split <;> simp_all
  rw [e, blk_cell hb j]
  rcases (by omega : j = 0 ∨ j = 1 ∨ j = 2) with rfl | rfl | rfl <;> rfl
theorem Read_no {b0 b1 b2 : Int} (w : World) (g : Nat) (h0 : 0 ≤ b0) (h0' : b0 < 256) (h1 : 0 ≤ b1) (h1' : b1 < 256) (h2 : 0 ≤ b2) (h2' : b2 < 256) (hb : w.heap[g]? = some (.cells #[.int .u8 b0, .int .u8 b1, .int .u8 b2] 5 (0, 0))) (hs : sizeS b0 = 0) :
    Calls Try.prog 27 #[.slice (some ⟨g, 0, none⟩) 3 3] w fun e w' => e = .returned (.tuple #[.agg #[.int .u8 0, .int .u16 0], .int .i64 0, .int .i64 8]) ∧ Below w.heap.size w w' := by
  have h := read_is h0 h0' h1 h1' h2 h2'
  rw [if_pos hs] at h
  exact isa80_Read.calls 10 _ 3 [b0, b1, b2] _ _ _ _ w (C3 (fr := (0, 0)) (c := 3) hb) (Nat.le_refl _) h
theorem Read_yes {b0 b1 b2 : Int} (w : World) (g : Nat) (h0 : 0 ≤ b0) (h0' : b0 < 256) (h1 : 0 ≤ b1) (h1' : b1 < 256) (h2 : 0 ≤ b2) (h2' : b2 < 256) (hb : w.heap[g]? = some (.cells #[.int .u8 b0, .int .u8 b1, .int .u8 b2] 5 (0, 0))) (hs : sizeS b0 ≠ 0) :
    Calls Try.prog 27 #[.slice (some ⟨g, 0, none⟩) 3 3] w fun e w' => e = .returned (.tuple #[.agg #[.int .u8 b0, .int .u16 (argS b0 b1 b2)], .int .i64 (sizeS b0), .int .i64 0]) ∧ Below w.heap.size w w' := by
  have h := read_is h0 h0' h1 h1' h2 h2'
  rw [if_neg hs] at h
  exact isa80_Read.calls 10 _ 3 [b0, b1, b2] _ _ _ _ w (C3 (fr := (0, 0)) (c := 3) hb) (Nat.le_refl _) h
end Go.Proofs.Ytaiabehbappdaaa.Cpu
namespace Go.Proofs.Ytaiabehbappdaaa.Cpu
open Go Go.RowKit Go.Proofs.YtaiabehbappdaaaW.PrintWords Go.Proofs.Ytaiabehbappdaaa.PCpu
theorem wpStill_one {P : Program} {ops : Array Oper} {w : World} {Q : Act → Prop} {a : Act} {o : Oper} {rest : List Oper} (hg : o.guard = none) (h : ∀ K : Act → Prop, (∀ a, wpStill P ops w Q rest a → K a) → o.still P a w K) : wpStill P ops w Q (o :: rest) a :=
  wpStill_step fun K hK => by
    have hw : Region.wanted o (yielded ops a.tmps) = true := by simp [Region.wanted, hg]
    rw [if_pos hw]
    exact h K hK
attribute [local go_sem ↓] Go.wp_at_zero Go.wp_at_succ
def St.at1 (s : St) : Int := s.m ((s.pc + 1) % 65536).toNat
def St.at2 (s : St) : Int := s.m ((s.pc + 2) % 65536).toNat
def St.does (s : St) (op n : Int) : St :=
  if op = 118 then { s with halt := true } else if op < 64 then s.low op n else if op < 128 then s.set (op / 8 % 8) (s.get (op % 8))
  else if op < 192 then s.sum (op / 8 % 8) (s.get (op % 8)) else s.high op n
def St.step (s : St) : Int × St :=
  if s.halt = true then (13, s) else if sizeS (s.m s.pc.toNat) = 0 then (8, s)
  else (0, { s with pc := (s.pc + sizeS (s.m s.pc.toNat)) % 65536 }.does (s.m s.pc.toNat) (argS (s.m s.pc.toNat) s.at1 s.at2))
abbrev StepGoal (w : World) (L : Loc) (k : Int) (s' : St) : Prop := Calls Try.prog 13 #[.pointer (some ⟨L.g, 0, none⟩)] w (Goes L w (.int .i64 k) s')
set_option maxRecDepth 100000 in
theorem step_halted {s : St} {L : Loc} (w : World) (h : Rep w s L) (hh : s.halt = true) : StepGoal w L 13 s := by
  have c16 : w.cell? ⟨L.g, 16, none⟩ = some (.bool s.halt) := h.c 16
  rw [hh] at c16
  clear hh
  go_enter Try.func13, Try.ntmps13
  go_wp2_with fail
  go_ret
  exact ⟨L, To.refl _ _, rfl, h, Same.refl w L⟩
set_option maxRecDepth 100000 in
theorem step_undoc {s : St} {L : Loc} (w : World) (h : Rep w s L) (hh : s.halt = false) (b0 b1 b2 : Int) (e0 : s.m s.pc.toNat = b0) (e1 : s.at1 = b1) (e2 : s.at2 = b2) (hs : sizeS b0 = 0) : StepGoal w L 8 s := by
  obtain ⟨c0, c1, c2, c3, c4, c5, c6, c7, c8, c9, c10, c11, c12, c13, c14, c15, c16, c17, c18, c19⟩ := h.drew.all
  have x16 : w.cell? ⟨L.g, 16, none⟩ = some (.bool s.halt) := h.c 16
  have hz := h.drew.z
  rw [hh] at c16 x16
  have pc0 := h.wf.pc0
  have pc1 := h.wf.pc1
  have p1w : IntKind.u16.wrap (s.pc + 1) = (s.pc + 1) % 65536 := w16
  have p2w : IntKind.u16.wrap (s.pc + 2) = (s.pc + 2) % 65536 := w16
  have q0 : 0 ≤ (s.pc + 1) % 65536 := by omega
  have q1 : (s.pc + 1) % 65536 < 65536 := by omega
  have r0 : 0 ≤ (s.pc + 2) % 65536 := by omega
  have r1 : (s.pc + 2) % 65536 < 65536 := by omega
  have m0 := h.drew.cm (i := s.pc.toNat) (by omega)
  have m1 := h.drew.cm (i := ((s.pc + 1) % 65536).toNat) (by omega)
  have m2 := h.drew.cm (i := ((s.pc + 2) % 65536).toNat) (by omega)
  have bb0 : 0 ≤ b0 := by rw [← e0]; exact h.wf.m0 _
  have bb1 : b0 < 256 := by rw [← e0]; exact h.wf.m1 _
  have bb2 : 0 ≤ b1 := by rw [← e1]; exact h.wf.m0 _
  have bb3 : b1 < 256 := by rw [← e1]; exact h.wf.m1 _
  have bb4 : 0 ≤ b2 := by rw [← e2]; exact h.wf.m0 _
  have bb5 : b2 < 256 := by rw [← e2]; exact h.wf.m1 _
  rw [e0] at m0
  unfold St.at1 at e1
  unfold St.at2 at e2
  rw [e1] at m1
  rw [e2] at m2
  clear e0 e1 e2 hh
  have H0 := Aside0.mk h.drew
  have S0 := Aside0.mk ((Same.refl w L).drew)
  generalize (s.pc + 1) % 65536 = a1 at *
  generalize (s.pc + 2) % 65536 = a2 at *
  go_enter Try.func13, Try.ntmps13
  go_wp2_with fail
  refine wp_region_still_tail 35 ?m1_ ?m2_ ?_
  case m1_ => kernel_rfl
  case m2_ => kernel_rfl
  simp only [List.take_succ_cons, List.take_zero, List.drop_succ_cons, List.drop_zero]
  change wpStill _ _ w.drew (fun a' => wpList _ _ _ _ a' w.drew) _ _
  generalize w.drew = w2 at *
  iterate 35 (refine wpStill_one rfl (fun K hK => ?_); have HK := Aside0.mk hK; clear hK; go_simp; refine Aside0.out HK _ ?_; clear HK K)
  refine wpStill_nil ?_
  go_wp2_with fail
  refine (Read_no _ w2.heap.size bb0 bb1 bb2 bb3 bb4 bb5 (blk_new _ _) hs).mono ?_
  rintro e w3 ⟨rfl, hb⟩
  have H3 := Aside0.mk ((H0.out.alloc _).below hb)
  have S3 := Aside0.mk ((S0.out.alloc _).below hb)
  clear hb
  go_wp2_with fail
  go_ret
  exact ⟨L, To.refl _ _, rfl, H3.out.alloc _, S3.out.alloc _⟩
set_option maxRecDepth 100000 in
theorem step_hlt {s : St} {L : Loc} (w : World) (h : Rep w s L) (hh : s.halt = false) (b0 b1 b2 : Int) (e0 : s.m s.pc.toNat = b0) (e1 : s.at1 = b1) (e2 : s.at2 = b2) (hs : sizeS b0 ≠ 0) (hop : b0 = 118) : StepGoal w L 0 ({ { s with pc := (s.pc + sizeS b0) % 65536 } with halt := true }) := by
  have j118 : (b0 == 118) = true := beq_iff_eq.mpr hop
  clear hop
  obtain ⟨c0, c1, c2, c3, c4, c5, c6, c7, c8, c9, c10, c11, c12, c13, c14, c15, c16, c17, c18, c19⟩ := h.drew.all
  have x16 : w.cell? ⟨L.g, 16, none⟩ = some (.bool s.halt) := h.c 16
  have hz := h.drew.z
  rw [hh] at c16 x16
  have pc0 := h.wf.pc0
  have pc1 := h.wf.pc1
  have p1w : IntKind.u16.wrap (s.pc + 1) = (s.pc + 1) % 65536 := w16
  have p2w : IntKind.u16.wrap (s.pc + 2) = (s.pc + 2) % 65536 := w16
  have q0 : 0 ≤ (s.pc + 1) % 65536 := by omega
  have q1 : (s.pc + 1) % 65536 < 65536 := by omega
  have r0 : 0 ≤ (s.pc + 2) % 65536 := by omega
  have r1 : (s.pc + 2) % 65536 < 65536 := by omega
  have m0 := h.drew.cm (i := s.pc.toNat) (by omega)
  have m1 := h.drew.cm (i := ((s.pc + 1) % 65536).toNat) (by omega)
  have m2 := h.drew.cm (i := ((s.pc + 2) % 65536).toNat) (by omega)
  have bb0 : 0 ≤ b0 := by rw [← e0]; exact h.wf.m0 _
  have bb1 : b0 < 256 := by rw [← e0]; exact h.wf.m1 _
  have bb2 : 0 ≤ b1 := by rw [← e1]; exact h.wf.m0 _
  have bb3 : b1 < 256 := by rw [← e1]; exact h.wf.m1 _
  have bb4 : 0 ≤ b2 := by rw [← e2]; exact h.wf.m0 _
  have bb5 : b2 < 256 := by rw [← e2]; exact h.wf.m1 _
  rw [e0] at m0
  unfold St.at1 at e1
  unfold St.at2 at e2
  rw [e1] at m1
  rw [e2] at m2
  clear e0 e1 e2 hh
  have H0 := Aside0.mk h.drew
  have S0 := Aside0.mk ((Same.refl w L).drew)
  generalize (s.pc + 1) % 65536 = a1 at *
  generalize (s.pc + 2) % 65536 = a2 at *
  go_enter Try.func13, Try.ntmps13
  go_wp2_with fail
  refine wp_region_still_tail 35 ?m1_ ?m2_ ?_
  case m1_ => kernel_rfl
  case m2_ => kernel_rfl
  simp only [List.take_succ_cons, List.take_zero, List.drop_succ_cons, List.drop_zero]
  change wpStill _ _ w.drew (fun a' => wpList _ _ _ _ a' w.drew) _ _
  generalize w.drew = w2 at *
  iterate 35 (refine wpStill_one rfl (fun K hK => ?_); have HK := Aside0.mk hK; clear hK; go_simp; refine Aside0.out HK _ ?_; clear HK K)
  refine wpStill_nil ?_
  go_wp2_with fail
  refine (Read_yes _ w2.heap.size bb0 bb1 bb2 bb3 bb4 bb5 (blk_new _ _) hs).mono ?_
  rintro e w3 ⟨rfl, hb⟩
  have h3 := (H0.out.alloc (.cells #[.int .u8 b0, .int .u8 b1, .int .u8 b2] 5)).below hb
  have H3 := Aside0.mk h3
  have S3 := Aside0.mk ((S0.out.alloc (.cells #[.int .u8 b0, .int .u8 b1, .int .u8 b2] 5)).below hb)
  clear hb m0 m1 m2
  obtain ⟨d0, d1, d2, d3, d4, d5, d6, d7, d8, d9, d10, d11, d12, d13, d14, d15, d16, d17, d18, d19⟩ := h3.all
  have dz := h3.z
  have gl := h3.glt
  have gne : L.g ≠ w3.heap.size := by omega
  clear h3
  clear c0 c1 c2 c3 c4 c5 c6 c7 c8 c9 c10 c11 c12 c13 c14 c15 c16 c17 c18 c19 hz
  have sb := size_bd b0
  have nb : 0 ≤ argS b0 b1 b2 ∧ argS b0 b1 b2 < 65536 := by unfold argS; (repeat' split) <;> omega
  generalize argS b0 b1 b2 = n at *
  generalize sizeS b0 = z at *
  have wz : IntKind.u16.wrap z = z := by rw [w16]; omega
  have wp : IntKind.u16.wrap (s.pc + z) = (s.pc + z) % 65536 := w16
  have wp0 : 0 ≤ (s.pc + z) % 65536 := by omega
  have wp1 : (s.pc + z) % 65536 < 65536 := by omega
  clear sb hs
  generalize (s.pc + z) % 65536 = p at *
  have H4 := Aside0.mk (H3.out.setPC p wp0 wp1)
  have S4 := Aside0.mk (S3.out.put 14 (.int .u16 p))
  clear H3 S3
  go_wp2_with fail
  go_ret
  have wf := H4.out.wf
  have R : Rep _ { { s with pc := p } with halt := true } L := Rep.put H4.out 16 (.bool true) rfl rfl ⟨wf.r0, wf.r1, wf.sp0, wf.sp1, wf.pc0, wf.pc1, wf.m0, wf.m1⟩
  exact ⟨L, To.refl _ _, rfl, R.alloc _, (S4.out.put 16 _).alloc _⟩
set_option maxRecDepth 100000 in
theorem step_low {s : St} {L : Loc} (w : World) (h : Rep w s L) (hh : s.halt = false) (b0 b1 b2 : Int) (e0 : s.m s.pc.toNat = b0) (e1 : s.at1 = b1) (e2 : s.at2 = b2) (hs : sizeS b0 ≠ 0) (hop : b0 ≠ 118) (hl : b0 < 64) : StepGoal w L 0 (St.low { s with pc := (s.pc + sizeS b0) % 65536 } b0 (argS b0 b1 b2)) := by
  have j118 : (b0 == 118) = false := beq_eq_false_iff_ne.mpr (by omega)
  have hq : b0 / 64 = 0 := by have := h.wf.m0 s.pc.toNat; omega
  obtain ⟨c0, c1, c2, c3, c4, c5, c6, c7, c8, c9, c10, c11, c12, c13, c14, c15, c16, c17, c18, c19⟩ := h.drew.all
  have x16 : w.cell? ⟨L.g, 16, none⟩ = some (.bool s.halt) := h.c 16
  have hz := h.drew.z
  rw [hh] at c16 x16
  have pc0 := h.wf.pc0
  have pc1 := h.wf.pc1
  have p1w : IntKind.u16.wrap (s.pc + 1) = (s.pc + 1) % 65536 := w16
  have p2w : IntKind.u16.wrap (s.pc + 2) = (s.pc + 2) % 65536 := w16
  have q0 : 0 ≤ (s.pc + 1) % 65536 := by omega
  have q1 : (s.pc + 1) % 65536 < 65536 := by omega
  have r0 : 0 ≤ (s.pc + 2) % 65536 := by omega
  have r1 : (s.pc + 2) % 65536 < 65536 := by omega
  have m0 := h.drew.cm (i := s.pc.toNat) (by omega)
  have m1 := h.drew.cm (i := ((s.pc + 1) % 65536).toNat) (by omega)
  have m2 := h.drew.cm (i := ((s.pc + 2) % 65536).toNat) (by omega)
  have bb0 : 0 ≤ b0 := by rw [← e0]; exact h.wf.m0 _
  have bb1 : b0 < 256 := by rw [← e0]; exact h.wf.m1 _
  have bb2 : 0 ≤ b1 := by rw [← e1]; exact h.wf.m0 _
  have bb3 : b1 < 256 := by rw [← e1]; exact h.wf.m1 _
  have bb4 : 0 ≤ b2 := by rw [← e2]; exact h.wf.m0 _
  have bb5 : b2 < 256 := by rw [← e2]; exact h.wf.m1 _
  rw [e0] at m0
  unfold St.at1 at e1
  unfold St.at2 at e2
  rw [e1] at m1
  rw [e2] at m2
  clear e0 e1 e2 hh
  have H0 := Aside0.mk h.drew
  have S0 := Aside0.mk ((Same.refl w L).drew)
  generalize (s.pc + 1) % 65536 = a1 at *
  generalize (s.pc + 2) % 65536 = a2 at *
  go_enter Try.func13, Try.ntmps13
  go_wp2_with fail
  refine wp_region_still_tail 35 ?m1_ ?m2_ ?_
  case m1_ => kernel_rfl
  case m2_ => kernel_rfl
  simp only [List.take_succ_cons, List.take_zero, List.drop_succ_cons, List.drop_zero]
  change wpStill _ _ w.drew (fun a' => wpList _ _ _ _ a' w.drew) _ _
  generalize w.drew = w2 at *
  iterate 35 (refine wpStill_one rfl (fun K hK => ?_); have HK := Aside0.mk hK; clear hK; go_simp; refine Aside0.out HK _ ?_; clear HK K)
  refine wpStill_nil ?_
  go_wp2_with fail
  refine (Read_yes _ w2.heap.size bb0 bb1 bb2 bb3 bb4 bb5 (blk_new _ _) hs).mono ?_
  rintro e w3 ⟨rfl, hb⟩
  have h3 := (H0.out.alloc (.cells #[.int .u8 b0, .int .u8 b1, .int .u8 b2] 5)).below hb
  have H3 := Aside0.mk h3
  have S3 := Aside0.mk ((S0.out.alloc (.cells #[.int .u8 b0, .int .u8 b1, .int .u8 b2] 5)).below hb)
  clear hb m0 m1 m2
  obtain ⟨d0, d1, d2, d3, d4, d5, d6, d7, d8, d9, d10, d11, d12, d13, d14, d15, d16, d17, d18, d19⟩ := h3.all
  have dz := h3.z
  have gl := h3.glt
  have gne : L.g ≠ w3.heap.size := by omega
  clear h3
  clear c0 c1 c2 c3 c4 c5 c6 c7 c8 c9 c10 c11 c12 c13 c14 c15 c16 c17 c18 c19 hz
  have sb := size_bd b0
  have nb : 0 ≤ argS b0 b1 b2 ∧ argS b0 b1 b2 < 65536 := by unfold argS; (repeat' split) <;> omega
  generalize argS b0 b1 b2 = n at *
  generalize sizeS b0 = z at *
  have wz : IntKind.u16.wrap z = z := by rw [w16]; omega
  have wp : IntKind.u16.wrap (s.pc + z) = (s.pc + z) % 65536 := w16
  have wp0 : 0 ≤ (s.pc + z) % 65536 := by omega
  have wp1 : (s.pc + z) % 65536 < 65536 := by omega
  clear sb hs
  generalize (s.pc + z) % 65536 = p at *
  have H4 := Aside0.mk (H3.out.setPC p wp0 wp1)
  have S4 := Aside0.mk (S3.out.put 14 (.int .u16 p))
  clear H3 S3
  go_wp2_with fail
  refine (low_any _ (H4.out.alloc _) b0 n bb0 hl nb.1 nb.2).mono ?_
  rintro e w5 ⟨rfl, hr, hs5⟩
  have H5 := Aside0.mk hr
  have S5 := Aside0.mk (Same.trans (S4.out.alloc _) hs5)
  clear hr hs5
  go_wp2_with fail
  go_ret
  exact ⟨L, To.refl _ _, rfl, H5.out, S5.out⟩
set_option maxRecDepth 100000 in
theorem step_high {s : St} {L : Loc} (w : World) (h : Rep w s L) (hh : s.halt = false) (b0 b1 b2 : Int) (e0 : s.m s.pc.toNat = b0) (e1 : s.at1 = b1) (e2 : s.at2 = b2) (hs : sizeS b0 ≠ 0) (hop : b0 ≠ 118) (hl : 192 ≤ b0) (hlen : s.outs.length < 1000000) : StepGoal w L 0 (St.high { s with pc := (s.pc + sizeS b0) % 65536 } b0 (argS b0 b1 b2)) := by
  have j118 : (b0 == 118) = false := beq_eq_false_iff_ne.mpr (by omega)
  have hq : b0 / 64 = 3 := by have := h.wf.m1 s.pc.toNat; omega
  obtain ⟨c0, c1, c2, c3, c4, c5, c6, c7, c8, c9, c10, c11, c12, c13, c14, c15, c16, c17, c18, c19⟩ := h.drew.all
  have x16 : w.cell? ⟨L.g, 16, none⟩ = some (.bool s.halt) := h.c 16
  have hz := h.drew.z
  rw [hh] at c16 x16
  have pc0 := h.wf.pc0
  have pc1 := h.wf.pc1
  have p1w : IntKind.u16.wrap (s.pc + 1) = (s.pc + 1) % 65536 := w16
  have p2w : IntKind.u16.wrap (s.pc + 2) = (s.pc + 2) % 65536 := w16
  have q0 : 0 ≤ (s.pc + 1) % 65536 := by omega
  have q1 : (s.pc + 1) % 65536 < 65536 := by omega
  have r0 : 0 ≤ (s.pc + 2) % 65536 := by omega
  have r1 : (s.pc + 2) % 65536 < 65536 := by omega
  have m0 := h.drew.cm (i := s.pc.toNat) (by omega)
  have m1 := h.drew.cm (i := ((s.pc + 1) % 65536).toNat) (by omega)
  have m2 := h.drew.cm (i := ((s.pc + 2) % 65536).toNat) (by omega)
  have bb0 : 0 ≤ b0 := by rw [← e0]; exact h.wf.m0 _
  have bb1 : b0 < 256 := by rw [← e0]; exact h.wf.m1 _
  have bb2 : 0 ≤ b1 := by rw [← e1]; exact h.wf.m0 _
  have bb3 : b1 < 256 := by rw [← e1]; exact h.wf.m1 _
  have bb4 : 0 ≤ b2 := by rw [← e2]; exact h.wf.m0 _
  have bb5 : b2 < 256 := by rw [← e2]; exact h.wf.m1 _
  rw [e0] at m0
  unfold St.at1 at e1
  unfold St.at2 at e2
  rw [e1] at m1
  rw [e2] at m2
  clear e0 e1 e2 hh
  have H0 := Aside0.mk h.drew
  have S0 := Aside0.mk ((Same.refl w L).drew)
  generalize (s.pc + 1) % 65536 = a1 at *
  generalize (s.pc + 2) % 65536 = a2 at *
  go_enter Try.func13, Try.ntmps13
  go_wp2_with fail
  refine wp_region_still_tail 35 ?m1_ ?m2_ ?_
  case m1_ => kernel_rfl
  case m2_ => kernel_rfl
  simp only [List.take_succ_cons, List.take_zero, List.drop_succ_cons, List.drop_zero]
  change wpStill _ _ w.drew (fun a' => wpList _ _ _ _ a' w.drew) _ _
  generalize w.drew = w2 at *
  iterate 35 (refine wpStill_one rfl (fun K hK => ?_); have HK := Aside0.mk hK; clear hK; go_simp; refine Aside0.out HK _ ?_; clear HK K)
  refine wpStill_nil ?_
  go_wp2_with fail
  refine (Read_yes _ w2.heap.size bb0 bb1 bb2 bb3 bb4 bb5 (blk_new _ _) hs).mono ?_
  rintro e w3 ⟨rfl, hb⟩
  have h3 := (H0.out.alloc (.cells #[.int .u8 b0, .int .u8 b1, .int .u8 b2] 5)).below hb
  have H3 := Aside0.mk h3
  have S3 := Aside0.mk ((S0.out.alloc (.cells #[.int .u8 b0, .int .u8 b1, .int .u8 b2] 5)).below hb)
  clear hb m0 m1 m2
  obtain ⟨d0, d1, d2, d3, d4, d5, d6, d7, d8, d9, d10, d11, d12, d13, d14, d15, d16, d17, d18, d19⟩ := h3.all
  have dz := h3.z
  have gl := h3.glt
  have gne : L.g ≠ w3.heap.size := by omega
  clear h3
  clear c0 c1 c2 c3 c4 c5 c6 c7 c8 c9 c10 c11 c12 c13 c14 c15 c16 c17 c18 c19 hz
  have sb := size_bd b0
  have nb : 0 ≤ argS b0 b1 b2 ∧ argS b0 b1 b2 < 65536 := by unfold argS; (repeat' split) <;> omega
  generalize argS b0 b1 b2 = n at *
  generalize sizeS b0 = z at *
  have wz : IntKind.u16.wrap z = z := by rw [w16]; omega
  have wp : IntKind.u16.wrap (s.pc + z) = (s.pc + z) % 65536 := w16
  have wp0 : 0 ≤ (s.pc + z) % 65536 := by omega
  have wp1 : (s.pc + z) % 65536 < 65536 := by omega
  clear sb hs
  generalize (s.pc + z) % 65536 = p at *
  have H4 := Aside0.mk (H3.out.setPC p wp0 wp1)
  have S4 := Aside0.mk (S3.out.put 14 (.int .u16 p))
  clear H3 S3
  go_wp2_with fail
  refine (high_any _ (H4.out.alloc _) b0 n hl bb1 nb.1 nb.2 hlen).mono ?_
  rintro e w5 ⟨L', hto, rfl, hr, hs5⟩
  have H5 := Aside0.mk hr
  have TT := Aside0.mk hto
  have S5 := Aside0.mk (Same.trans (S4.out.alloc _) hs5)
  have SZ := Aside0.mk (S4.out.alloc (.cells #[.int .u8 b0, .int .u16 n] 67)).size
  clear hr hs5 hto
  go_wp2_with fail
  go_ret
  exact ⟨L', ⟨TT.out.g, TT.out.mb, TT.out.mc, fun k hk => (TT.out.ob k hk).imp id (fun e => Nat.le_trans SZ.out e), TT.out.ib⟩, rfl, H5.out, S5.out⟩
set_option maxRecDepth 100000 in
theorem step_mov {s : St} {L : Loc} (w : World) (h : Rep w s L) (hh : s.halt = false) (b0 b1 b2 : Int) (e0 : s.m s.pc.toNat = b0) (e1 : s.at1 = b1) (e2 : s.at2 = b2) (hs : sizeS b0 ≠ 0) (hop : b0 ≠ 118) (hl : 64 ≤ b0) (hl2 : b0 < 128) : StepGoal w L 0 (St.set { s with pc := (s.pc + sizeS b0) % 65536 } (b0 / 8 % 8) (St.get { s with pc := (s.pc + sizeS b0) % 65536 } (b0 % 8))) := by
  have j118 : (b0 == 118) = false := beq_eq_false_iff_ne.mpr (by omega)
  have hq : b0 / 64 = 1 := by omega
  obtain ⟨c0, c1, c2, c3, c4, c5, c6, c7, c8, c9, c10, c11, c12, c13, c14, c15, c16, c17, c18, c19⟩ := h.drew.all
  have x16 : w.cell? ⟨L.g, 16, none⟩ = some (.bool s.halt) := h.c 16
  have hz := h.drew.z
  rw [hh] at c16 x16
  have pc0 := h.wf.pc0
  have pc1 := h.wf.pc1
  have p1w : IntKind.u16.wrap (s.pc + 1) = (s.pc + 1) % 65536 := w16
  have p2w : IntKind.u16.wrap (s.pc + 2) = (s.pc + 2) % 65536 := w16
  have q0 : 0 ≤ (s.pc + 1) % 65536 := by omega
  have q1 : (s.pc + 1) % 65536 < 65536 := by omega
  have r0 : 0 ≤ (s.pc + 2) % 65536 := by omega
  have r1 : (s.pc + 2) % 65536 < 65536 := by omega
  have m0 := h.drew.cm (i := s.pc.toNat) (by omega)
  have m1 := h.drew.cm (i := ((s.pc + 1) % 65536).toNat) (by omega)
  have m2 := h.drew.cm (i := ((s.pc + 2) % 65536).toNat) (by omega)
  have bb0 : 0 ≤ b0 := by rw [← e0]; exact h.wf.m0 _
  have bb1 : b0 < 256 := by rw [← e0]; exact h.wf.m1 _
  have bb2 : 0 ≤ b1 := by rw [← e1]; exact h.wf.m0 _
  have bb3 : b1 < 256 := by rw [← e1]; exact h.wf.m1 _
  have bb4 : 0 ≤ b2 := by rw [← e2]; exact h.wf.m0 _
  have bb5 : b2 < 256 := by rw [← e2]; exact h.wf.m1 _
  rw [e0] at m0
  unfold St.at1 at e1
  unfold St.at2 at e2
  rw [e1] at m1
  rw [e2] at m2
  clear e0 e1 e2 hh
  have H0 := Aside0.mk h.drew
  have S0 := Aside0.mk ((Same.refl w L).drew)
  generalize (s.pc + 1) % 65536 = a1 at *
  generalize (s.pc + 2) % 65536 = a2 at *
  go_enter Try.func13, Try.ntmps13
  go_wp2_with fail
  refine wp_region_still_tail 35 ?m1_ ?m2_ ?_
  case m1_ => kernel_rfl
  case m2_ => kernel_rfl
  simp only [List.take_succ_cons, List.take_zero, List.drop_succ_cons, List.drop_zero]
  change wpStill _ _ w.drew (fun a' => wpList _ _ _ _ a' w.drew) _ _
  generalize w.drew = w2 at *
  iterate 35 (refine wpStill_one rfl (fun K hK => ?_); have HK := Aside0.mk hK; clear hK; go_simp; refine Aside0.out HK _ ?_; clear HK K)
  refine wpStill_nil ?_
  go_wp2_with fail
  refine (Read_yes _ w2.heap.size bb0 bb1 bb2 bb3 bb4 bb5 (blk_new _ _) hs).mono ?_
  rintro e w3 ⟨rfl, hb⟩
  have h3 := (H0.out.alloc (.cells #[.int .u8 b0, .int .u8 b1, .int .u8 b2] 5)).below hb
  have H3 := Aside0.mk h3
  have S3 := Aside0.mk ((S0.out.alloc (.cells #[.int .u8 b0, .int .u8 b1, .int .u8 b2] 5)).below hb)
  clear hb m0 m1 m2
  obtain ⟨d0, d1, d2, d3, d4, d5, d6, d7, d8, d9, d10, d11, d12, d13, d14, d15, d16, d17, d18, d19⟩ := h3.all
  have dz := h3.z
  have gl := h3.glt
  have gne : L.g ≠ w3.heap.size := by omega
  clear h3
  clear c0 c1 c2 c3 c4 c5 c6 c7 c8 c9 c10 c11 c12 c13 c14 c15 c16 c17 c18 c19 hz
  have sb := size_bd b0
  have nb : 0 ≤ argS b0 b1 b2 ∧ argS b0 b1 b2 < 65536 := by unfold argS; (repeat' split) <;> omega
  generalize argS b0 b1 b2 = n at *
  generalize sizeS b0 = z at *
  have wz : IntKind.u16.wrap z = z := by rw [w16]; omega
  have wp : IntKind.u16.wrap (s.pc + z) = (s.pc + z) % 65536 := w16
  have wp0 : 0 ≤ (s.pc + z) % 65536 := by omega
  have wp1 : (s.pc + z) % 65536 < 65536 := by omega
  clear sb hs
  generalize (s.pc + z) % 65536 = p at *
  have H4 := Aside0.mk (H3.out.setPC p wp0 wp1)
  have S4 := Aside0.mk (S3.out.put 14 (.int .u16 p))
  clear H3 S3
  go_wp2_with fail
  have k0 : 0 ≤ b0 / 8 % 8 := by omega
  have k7 : b0 / 8 % 8 ≤ 7 := by omega
  have l0 : 0 ≤ b0 % 8 := by omega
  have l7 : b0 % 8 ≤ 7 := by omega
  have hk1 : Go.bits .and .u8 (b0 / 8) 7 = b0 / 8 % 8 := u8_and7 _ (by omega) (by omega)
  have hk2 : Go.bits .and .u8 b0 7 = b0 % 8 := u8_and7 _ bb0 bb1
  have h5 := H4.out.alloc (.cells #[.int .u8 b0, .int .u16 n] 67)
  have s5 := S4.out.alloc (.cells #[.int .u8 b0, .int .u16 n] 67)
  have ci : ((w3.setCell ⟨L.g, 14, none⟩ (.int .u16 p)).alloc (.cells #[.int .u8 b0, .int .u16 n] 67)).cell? ⟨w3.heap.size, 0, none⟩ = some (.int .u8 b0) := new_cell _ _ 67 (by simp) 0
  clear H4 S4 d0 d1 d2 d3 d4 d5 d6 d7 d8 d9 d10 d11 d12 d13 d14 d15 d16 d17 d18 d19 dz
  generalize World.alloc (w3.setCell _ _) _ = w4 at *
  have H5 := Aside0.mk h5
  have S5 := Aside0.mk s5
  clear h5 s5
  generalize hs1 : ({ s with pc := p } : St) = s1 at *
  clear hs1
  have g0 : 0 ≤ s1.get (b0 % 8) := by unfold St.get; split; exact H5.out.wf.m0 _; exact H5.out.wf.r0 _
  have g1 : s1.get (b0 % 8) < 256 := by unfold St.get; split; exact H5.out.wf.m1 _; exact H5.out.wf.r1 _
  have rg2 := (H5.out.reg (k := b0 % 8) l0 l7).1
  have rg1 := H5.out.reg (k := b0 / 8 % 8) k0 k7
  obtain ⟨r1, hr1⟩ : ∃ r1, b0 / 8 = r1 := ⟨_, rfl⟩
  have hk1' : Go.bits .and .u8 r1 7 = b0 / 8 % 8 := by rw [← hr1]; exact hk1
  have hk1'' := Aside0.mk hk1
  clear hk1
  have RF1 := Aside0.mk (reg_any (s := s1) (L := L) (r := r1) (k := b0 / 8 % 8) (hk := hk1') (h0 := k0) (h7 := k7))
  have RF2 := Aside0.mk (reg_any (s := s1) (L := L) (r := b0) (k := b0 % 8) (hk := hk2) (h0 := l0) (h7 := l7))
  have PUT := Aside0.mk (fun (W : World) (hW : Rep W s1 L) => Rep.setreg hW (k := b0 / 8 % 8) (v := s1.get (b0 % 8)) k0 k7 g0 g1)
  have SPUT := Aside0.mk (fun (W : World) (hW : Same w W L) => Same.setreg hW (b0 / 8 % 8) (s1.pair 2) (.int .u8 (s1.get (b0 % 8))))
  generalize hkk : b0 / 8 % 8 = kk at *
  have HKK := Aside0.mk hkk
  clear hkk
  have z1 := rg1.2
  have y1 := rg1.1
  clear rg1
  generalize regp L (b0 / 8 % 8) (s1.pair 2) = ad1 at *
  generalize regp L (b0 % 8) (s1.pair 2) = ad2 at *
  go_region_with (go_at_call 29; (first | (with_reducible refine (RF1.out _ ?hR_).mono ?_) | (with_reducible refine (RF2.out _ ?hR_).mono ?_)); (case hR_ => (with_reducible repeat (first | exact H5.out | apply Rep.drewN | apply Rep.drew))); rintro e w' ⟨rfl, ⟨nd, rfl⟩⟩)
  all_goals
    go_wp2_with fail
    go_ret
    refine ⟨L, To.refl _ _, rfl, ?_, ?_⟩
    · repeat (first | with_reducible apply Rep.drewN | with_reducible apply Rep.drew)
      refine PUT.out _ ?_
      (with_reducible repeat (first | exact H5.out | apply Rep.drewN | apply Rep.drew))
    · repeat (first | with_reducible apply Same.drewN | with_reducible apply Same.drew)
      refine SPUT.out _ ?_
      (with_reducible repeat (first | exact S5.out | apply Same.drewN | apply Same.drew))
set_option maxRecDepth 100000 in
theorem step_alu {s : St} {L : Loc} (w : World) (h : Rep w s L) (hh : s.halt = false) (b0 b1 b2 : Int) (e0 : s.m s.pc.toNat = b0) (e1 : s.at1 = b1) (e2 : s.at2 = b2) (hs : sizeS b0 ≠ 0) (hop : b0 ≠ 118) (hl : 128 ≤ b0) (hl2 : b0 < 192) : StepGoal w L 0 (St.sum { s with pc := (s.pc + sizeS b0) % 65536 } (b0 / 8 % 8) (St.get { s with pc := (s.pc + sizeS b0) % 65536 } (b0 % 8))) := by
  have j118 : (b0 == 118) = false := beq_eq_false_iff_ne.mpr (by omega)
  have hq : b0 / 64 = 2 := by omega
  obtain ⟨c0, c1, c2, c3, c4, c5, c6, c7, c8, c9, c10, c11, c12, c13, c14, c15, c16, c17, c18, c19⟩ := h.drew.all
  have x16 : w.cell? ⟨L.g, 16, none⟩ = some (.bool s.halt) := h.c 16
  have hz := h.drew.z
  rw [hh] at c16 x16
  have pc0 := h.wf.pc0
  have pc1 := h.wf.pc1
  have p1w : IntKind.u16.wrap (s.pc + 1) = (s.pc + 1) % 65536 := w16
  have p2w : IntKind.u16.wrap (s.pc + 2) = (s.pc + 2) % 65536 := w16
  have q0 : 0 ≤ (s.pc + 1) % 65536 := by omega
  have q1 : (s.pc + 1) % 65536 < 65536 := by omega
  have r0 : 0 ≤ (s.pc + 2) % 65536 := by omega
  have r1 : (s.pc + 2) % 65536 < 65536 := by omega
  have m0 := h.drew.cm (i := s.pc.toNat) (by omega)
  have m1 := h.drew.cm (i := ((s.pc + 1) % 65536).toNat) (by omega)
  have m2 := h.drew.cm (i := ((s.pc + 2) % 65536).toNat) (by omega)
  have bb0 : 0 ≤ b0 := by rw [← e0]; exact h.wf.m0 _
  have bb1 : b0 < 256 := by rw [← e0]; exact h.wf.m1 _
  have bb2 : 0 ≤ b1 := by rw [← e1]; exact h.wf.m0 _
  have bb3 : b1 < 256 := by rw [← e1]; exact h.wf.m1 _
  have bb4 : 0 ≤ b2 := by rw [← e2]; exact h.wf.m0 _
  have bb5 : b2 < 256 := by rw [← e2]; exact h.wf.m1 _
  rw [e0] at m0
  unfold St.at1 at e1
  unfold St.at2 at e2
  rw [e1] at m1
  rw [e2] at m2
  clear e0 e1 e2 hh
  have H0 := Aside0.mk h.drew
  have S0 := Aside0.mk ((Same.refl w L).drew)
  generalize (s.pc + 1) % 65536 = a1 at *
  generalize (s.pc + 2) % 65536 = a2 at *
  go_enter Try.func13, Try.ntmps13
  go_wp2_with fail
  refine wp_region_still_tail 35 ?m1_ ?m2_ ?_
  case m1_ => kernel_rfl
  case m2_ => kernel_rfl
  simp only [List.take_succ_cons, List.take_zero, List.drop_succ_cons, List.drop_zero]
  change wpStill _ _ w.drew (fun a' => wpList _ _ _ _ a' w.drew) _ _
  generalize w.drew = w2 at *
  iterate 35 (refine wpStill_one rfl (fun K hK => ?_); have HK := Aside0.mk hK; clear hK; go_simp; refine Aside0.out HK _ ?_; clear HK K)
  refine wpStill_nil ?_
  go_wp2_with fail
  refine (Read_yes _ w2.heap.size bb0 bb1 bb2 bb3 bb4 bb5 (blk_new _ _) hs).mono ?_
  rintro e w3 ⟨rfl, hb⟩
  have h3 := (H0.out.alloc (.cells #[.int .u8 b0, .int .u8 b1, .int .u8 b2] 5)).below hb
  have H3 := Aside0.mk h3
  have S3 := Aside0.mk ((S0.out.alloc (.cells #[.int .u8 b0, .int .u8 b1, .int .u8 b2] 5)).below hb)
  clear hb m0 m1 m2
  obtain ⟨d0, d1, d2, d3, d4, d5, d6, d7, d8, d9, d10, d11, d12, d13, d14, d15, d16, d17, d18, d19⟩ := h3.all
  have dz := h3.z
  have gl := h3.glt
  have gne : L.g ≠ w3.heap.size := by omega
  clear h3
  clear c0 c1 c2 c3 c4 c5 c6 c7 c8 c9 c10 c11 c12 c13 c14 c15 c16 c17 c18 c19 hz
  have sb := size_bd b0
  have nb : 0 ≤ argS b0 b1 b2 ∧ argS b0 b1 b2 < 65536 := by unfold argS; (repeat' split) <;> omega
  generalize argS b0 b1 b2 = n at *
  generalize sizeS b0 = z at *
  have wz : IntKind.u16.wrap z = z := by rw [w16]; omega
  have wp : IntKind.u16.wrap (s.pc + z) = (s.pc + z) % 65536 := w16
  have wp0 : 0 ≤ (s.pc + z) % 65536 := by omega
  have wp1 : (s.pc + z) % 65536 < 65536 := by omega
  clear sb hs
  generalize (s.pc + z) % 65536 = p at *
  have H4 := Aside0.mk (H3.out.setPC p wp0 wp1)
  have S4 := Aside0.mk (S3.out.put 14 (.int .u16 p))
  clear H3 S3
  go_wp2_with fail
  have k0 : 0 ≤ b0 / 8 % 8 := by omega
  have k7 : b0 / 8 % 8 ≤ 7 := by omega
  have l0 : 0 ≤ b0 % 8 := by omega
  have l7 : b0 % 8 ≤ 7 := by omega
  have hk1 : Go.bits .and .u8 (b0 / 8) 7 = b0 / 8 % 8 := u8_and7 _ (by omega) (by omega)
  have hk2 : Go.bits .and .u8 b0 7 = b0 % 8 := u8_and7 _ bb0 bb1
  have h5 := H4.out.alloc (.cells #[.int .u8 b0, .int .u16 n] 67)
  have s5 := S4.out.alloc (.cells #[.int .u8 b0, .int .u16 n] 67)
  have ci : ((w3.setCell ⟨L.g, 14, none⟩ (.int .u16 p)).alloc (.cells #[.int .u8 b0, .int .u16 n] 67)).cell? ⟨w3.heap.size, 0, none⟩ = some (.int .u8 b0) := new_cell _ _ 67 (by simp) 0
  clear H4 S4 d0 d1 d2 d3 d4 d5 d6 d7 d8 d9 d10 d11 d12 d13 d14 d15 d16 d17 d18 d19 dz
  generalize World.alloc (w3.setCell _ _) _ = w4 at *
  have H5 := Aside0.mk h5
  have S5 := Aside0.mk s5
  clear h5 s5
  generalize hs1 : ({ s with pc := p } : St) = s1 at *
  clear hs1
  have g0 : 0 ≤ s1.get (b0 % 8) := by unfold St.get; split; exact H5.out.wf.m0 _; exact H5.out.wf.r0 _
  have g1 : s1.get (b0 % 8) < 256 := by unfold St.get; split; exact H5.out.wf.m1 _; exact H5.out.wf.r1 _
  have rg2 := (H5.out.reg (k := b0 % 8) l0 l7).1
  have rg1 := H5.out.reg (k := b0 / 8 % 8) k0 k7
  have RF2 := Aside0.mk (reg_any (s := s1) (L := L) (r := b0) (k := b0 % 8) (hk := hk2) (h0 := l0) (h7 := l7))
  generalize regp L (b0 % 8) (s1.pair 2) = ad2 at *
  go_region_with (first | (go_at_call 29; refine (RF2.out _ (H5.out.drewN _)).mono ?_; rintro e w' ⟨rfl, ⟨nd, rfl⟩⟩) | (go_at_call 30; refine (sum_any _ (H5.out.drewN _) (b0 / 8) (s1.get (b0 % 8)) (by omega) (by omega) g0 g1).mono ?_; rintro e w' ⟨rfl, hr, hs6⟩; have HR := Aside0.mk hr; have HS := Aside0.mk hs6; clear hr hs6))
  all_goals
    go_wp2_with fail
    go_ret
    exact ⟨L, To.refl _ _, rfl, HR.out, Same.trans (S5.out.drewN _) HS.out⟩
theorem step_any {s : St} {L : Loc} (w : World) (h : Rep w s L) (hlen : s.outs.length < 1000000) : StepGoal w L s.step.1 s.step.2 := by
  unfold St.step
  by_cases hh' : s.halt = true
  · rw [if_pos hh']; exact step_halted w h hh'
  · have hh : s.halt = false := by simpa using hh'
    rw [if_neg hh']
    by_cases hs : sizeS (s.m s.pc.toNat) = 0
    · rw [if_pos hs]; exact step_undoc w h hh _ _ _ rfl rfl rfl hs
    rw [if_neg hs]
    unfold St.does
    by_cases k118 : s.m s.pc.toNat = 118
    · rw [if_pos k118]; exact step_hlt w h hh _ s.at1 s.at2 rfl rfl rfl hs k118
    rw [if_neg k118]
    by_cases k64 : s.m s.pc.toNat < 64
    · rw [if_pos k64]; exact step_low w h hh _ _ _ rfl rfl rfl hs k118 k64
    rw [if_neg k64]
    by_cases k128 : s.m s.pc.toNat < 128
    · rw [if_pos k128]; exact step_mov w h hh _ s.at1 s.at2 rfl rfl rfl hs k118 (by omega) k128
    rw [if_neg k128]
    by_cases k192 : s.m s.pc.toNat < 192
    · rw [if_pos k192]; exact step_alu w h hh _ s.at1 s.at2 rfl rfl rfl hs k118 (by omega) k192
    rw [if_neg k192]
    exact step_high w h hh _ _ _ rfl rfl rfl hs k118 (by omega) hlen
end Go.Proofs.Ytaiabehbappdaaa.Cpu
namespace Go.Proofs.Ytaiabehbappdaaa.Cpu
open Go Go.RowKit Go.Proofs.YtaiabehbappdaaaW.PrintWords Go.Proofs.Ytaiabehbappdaaa.PCpu
def St.run : Nat → St → Nat × Int × St
  | 0, s => (0, 0, s)
  | n + 1, s => if s.step.1 = 0 then ((s.step.2.run n).1 + 1, (s.step.2.run n).2) else (0, s.step.1, s.step.2)
theorem To.trans {w w' : World} {L L' L'' : Loc} (h : To w L L') (hs : w.heap.size ≤ w'.heap.size) (k : To w' L' L'') : To w L L'' :=
  ⟨k.g.trans h.g, k.mb.trans h.mb, k.mc.trans h.mc, fun j hj => (k.ob j hj).elim (fun e => h.ob j e) (fun e => .inr (Nat.le_trans hs e)), fun j hj => h.ib j (k.ib j hj)⟩
theorem Same.next {w w' w2 : World} {L L' : Loc} (h : Same w w' L) (ht : To w L L') (k : Same w' w2 L') : Same w w2 L :=
  Keep.then_ h k (fun j hj => by
    rcases hj with e | e | e
    · exact .inl (.inl (e.trans ht.g))
    · exact .inl (.inr (.inl (e.trans ht.mb)))
    · exact (ht.ob j e).imp (fun e => .inr (.inr e)) id)
theorem outs_setPair (s : St) (p n : Int) : (s.setPair p n).outs = s.outs := by unfold St.setPair; split <;> rfl
theorem outs_set (s : St) (k v : Int) : (s.set k v).outs = s.outs := by unfold St.set; split <;> rfl
theorem outs_turn (s : St) (k : Int) : (s.turn k).outs = s.outs := by unfold St.turn; (repeat' split) <;> rfl
theorem outs_moves (s : St) (op n : Int) : (s.moves op n).outs = s.outs := by unfold St.moves; (repeat' split) <;> first | rfl | exact outs_setPair _ _ _
theorem outs_low (s : St) (op n : Int) : (s.low op n).outs = s.outs := by
  unfold St.low
  (repeat' split) <;> first | rfl | exact outs_setPair _ _ _ | exact outs_set _ _ _ | exact outs_turn _ _ | exact outs_moves _ _ _
theorem outs_flow (s : St) (op n : Int) : (s.flow op n).2.outs = s.outs := by
  unfold St.flow
  (repeat' split) <;> rfl
theorem outs_stack (s : St) (op : Int) : (s.stack op).2.outs = s.outs := by
  unfold St.stack
  (repeat' split) <;> first | rfl | exact outs_setPair _ _ _
theorem outs_other (s : St) (op n : Int) : (s.other op n).outs.length ≤ s.outs.length + 1 := by
  unfold St.other
  (repeat' split)
  · simp [St.out]
  · unfold St.inn; split <;> simp [St.setR]
  · have : (s.xthl).outs = s.outs := by unfold St.xthl; exact outs_setPair _ _ _
    rw [this]; exact Nat.le_succ _
  all_goals first | exact Nat.le_succ _ | (rw [outs_setPair, outs_setPair]; exact Nat.le_succ _)
theorem outs_high (s : St) (op n : Int) : (s.high op n).outs.length ≤ s.outs.length + 1 := by
  unfold St.high
  (repeat' split)
  · exact Nat.le_succ _
  · rw [outs_flow]; exact Nat.le_succ _
  · rw [outs_stack]; exact Nat.le_succ _
  · exact outs_other s op n
theorem outs_step (s : St) : s.step.2.outs.length ≤ s.outs.length + 1 := by
  unfold St.step
  (repeat' split)
  · exact Nat.le_succ _
  · exact Nat.le_succ _
  · unfold St.does
    (repeat' split)
    · exact Nat.le_succ _
    · rw [outs_low]; exact Nat.le_succ _
    · rw [outs_set]; exact Nat.le_succ _
    · exact Nat.le_succ _
    · exact outs_high _ _ _
end Go.Proofs.Ytaiabehbappdaaa.Cpu
namespace Go.Proofs.Ytaiabehbappdaaa.Cpu
open Go Go.RowKit Go.Proofs.YtaiabehbappdaaaW.PrintWords
structure RunI (s : St) (L : Loc) (w : World) (n : Nat) (d : Nat) (s1 : St) (L1 : Loc) (w1 : World) : Prop where
  too : To w L L1
  rep : Rep w1 s1 L1
  same : Same w w1 L
  sz : w.heap.size ≤ w1.heap.size
  dn : d ≤ n
  outs : s1.outs.length + (n - d) < 300000
  eq : s.run n = ((s1.run (n - d)).1 + d, (s1.run (n - d)).2)
def RunA (g : Nat) (n : Int) (d : Nat) (x7 x10 x11 x12 x13 x14 x15 x16 x17 x18 x19 x20 : Value) : Act :=
  { tmps := #[.pointer (some ⟨g, 0, none⟩), .int .i64 n, undef, undef, .int .i64 0, .int .i64 0, .int .i64 d, x7, .pointer (some ⟨g, 0, none⟩), .bool false, x10, x11, x12, x13, x14, x15, x16, x17, x18, x19, x20, undef], defers := [] }
theorem step_kinds (s : St) : s.step.1 = 0 ∨ s.step.1 = 8 ∨ s.step.1 = 13 := by
  unfold St.step
  (repeat' split) <;> simp
theorem run_go {s : St} {n : Nat} (h : s.step.1 = 0) : s.run (n + 1) = ((s.step.2.run n).1 + 1, (s.step.2.run n).2) := by
  rw [St.run, if_pos h]
theorem run_stop {s : St} {n : Nat} (h : s.step.1 ≠ 0) : s.run (n + 1) = (0, s.step.1, s.step.2) := by
  rw [St.run, if_neg h]
theorem RunI.next {s s1 : St} {L L1 L2 : Loc} {w w1 w2 : World} {n d : Nat} (h : RunI s L w n d s1 L1 w1) (hd : d < n) (hk : s1.step.1 = 0) (ht : To w1 L1 L2) (hr : Rep w2 s1.step.2 L2) (hs : Same w1 w2 L1) (hz : w1.heap.size ≤ w2.heap.size) : RunI s L w n (d + 1) s1.step.2 L2 w2 := by
  have ho := outs_step s1
  have h1 := h.outs
  refine ⟨h.too.trans h.sz ht, hr, h.same.next h.too hs, Nat.le_trans h.sz hz, hd, by omega, ?_⟩
  rw [h.eq, show n - d = (n - (d + 1)) + 1 by omega, run_go hk]
  show (_ + 1 + d, _) = (_ + (d + 1), _)
  rw [Nat.add_assoc, Nat.add_comm 1 d]
theorem Same.size {w w' : World} {L : Loc} (h : Same w w' L) : w.heap.size ≤ w'.heap.size := Keep.size h
def RunInv (s : St) (L : Loc) (w : World) (n : Int) (a : Act) (w1 : World) : Prop := ∃ d s1 L1 x7 x10 x11 x12 x13 x14 x15 x16 x17 x18 x19 x20, a = RunA L.g n d x7 x10 x11 x12 x13 x14 x15 x16 x17 x18 x19 x20 ∧ RunI s L w n.toNat d s1 L1 w1
def RunMu (n : Int) (a : Act) (w : World) : Nat := match a.tmps[6]? with | some (Value.int _ d) => (n - d).toNat | _ => 0
def RunPost (s : St) (L : Loc) (w : World) (n : Int) (e : Ending) (w' : World) : Prop := ∃ L', To w L L' ∧ e = .returned (.tuple #[.int .i64 (s.run n.toNat).1, .int .i64 (s.run n.toNat).2.1]) ∧ Rep w' (s.run n.toNat).2.2 L' ∧ Same w w' L
set_option maxRecDepth 100000 in
theorem Run_any {s : St} {L : Loc} (w : World) (h : Rep w s L) (n : Int) (n1 : n < 100000) (hlen : s.outs.length < 100000) :
    Calls Try.prog 16 #[.pointer (some ⟨L.g, 0, none⟩), .int .i64 n] w (RunPost s L w n) := by
  go_enter Try.func16, Try.ntmps16
  go_wp2_with fail
  refine wp_loop (RunInv s L w n) (RunMu n) ?_ ?_
  · exact ⟨0, s, L, _, _, _, _, _, _, _, _, _, _, _, _, rfl, ⟨To.refl _ _, h, Same.refl _ _, Nat.le_refl _, Nat.zero_le _, by omega, by simp⟩⟩
  · rintro a w1 ⟨d, s1, L1, x7, x10, x11, x12, x13, x14, x15, x16, x17, x18, x19, x20, rfl, hI⟩
    have d0 : (0 : Int) ≤ d := by omega
    have dn := hI.dn
    have hg := hI.too.g
    have HI := Aside0.mk hI
    have HG := Aside0.mk hg
    clear hI hg h hlen
    unfold RunA
    by_cases hlt : (d : Int) < n
    · have d1 : (d : Int) < 100000 := by omega
      have hd : d < n.toNat := by omega
      have HD := Aside0.mk hd
      have HN := Aside0.mk dn
      clear dn hd
      go_wp2_with fail
      rw [← HG.out]
      have HS := Aside0.mk (step_any w1 HI.out.rep (by have := HI.out.outs; omega))
      rcases step_kinds s1 with hk | hk | hk
      all_goals
        have HK := Aside0.mk hk
        clear hk
        refine HS.out.mono ?_
        rintro e w2 ⟨L2, hto, rfl, hrep, hsame⟩
        have HX := Aside0.mk (And.intro hto (And.intro hrep hsame))
        clear hto hrep hsame HS
        rw [HK.out]
        go_wp2_with fail
      · refine ⟨?_, ?_⟩
        · rw [HG.out]
          exact ⟨d + 1, s1.step.2, L2, _, _, _, _, _, _, _, _, _, _, _, _, rfl, HI.out.next HD.out HK.out HX.out.1 HX.out.2.1 HX.out.2.2 HX.out.2.2.size⟩
        · show (n - ((d : Int) + 1)).toNat < (n - (d : Int)).toNat
          omega
      all_goals
        go_ret2
        refine ⟨L2, HI.out.too.trans HI.out.sz HX.out.1, ?_, ?_, HI.out.same.next HI.out.too HX.out.2.2⟩
        · rw [HI.out.eq, show n.toNat - d = (n.toNat - d - 1) + 1 by have := HD.out; omega, run_stop (by rw [HK.out]; decide)]
          show _ = Ending.returned (.tuple #[.int .i64 (((0 + d : Nat)) : Int), .int .i64 s1.step.1])
          rw [HK.out, Nat.zero_add]
          rfl
        · rw [HI.out.eq, show n.toNat - d = (n.toNat - d - 1) + 1 by have := HD.out; omega, run_stop (by rw [HK.out]; decide)]
          exact HX.out.2.1
    · have HN := Aside0.mk dn
      clear dn
      go_wp2_with fail
      go_ret2
      have hz : n.toNat - d = 0 := by omega
      refine ⟨L1, HI.out.too, ?_, ?_, HI.out.same⟩
      · rw [HI.out.eq, hz]
        show _ = Ending.returned (.tuple #[.int .i64 (((0 + d : Nat)) : Int), .int .i64 0])
        rw [Nat.zero_add]
        rfl
      · rw [HI.out.eq, hz]
        exact HI.out.rep
end Go.Proofs.Ytaiabehbappdaaa.Cpu
namespace Go.Proofs.Ytaiabehbappdaaa.Cpu
open Go Go.RowKit Go.Proofs.YtaiabehbappdaaaW.PrintWords Go.Proofs.Ytaiabehbappdaaa.PCpu
def exS : Start := { r := fun i => if i = 7 then 1 else 0, f := ⟨false, false, false, false, false⟩, sp := 0, pc := 0, ie := false, ins := [], ml := [⟨0, 60⟩, ⟨1, 118⟩] }
theorem exS_wf : exS.Wf := by
  refine ⟨fun i => ?_, by decide, by decide, fun y hy => absurd hy List.not_mem_nil, fun y hy => ?_⟩
  · show 0 ≤ (if i = 7 then (1 : Int) else 0) ∧ (if i = 7 then (1 : Int) else 0) < 256
    split <;> decide
  · rcases List.mem_cons.1 hy with rfl | hy
    · unfold ByteOk; decide
    · rcases List.mem_cons.1 hy with rfl | hy
      · unfold ByteOk; decide
      · cases hy
theorem ex_m0 : exS.st.m 0 = 60 := by
  show (memL [⟨0, 60⟩, ⟨1, 118⟩]).getD 0 0 = 60
  unfold memL
  simp only [List.foldl_cons, List.foldl_nil]
  rw [List.getD_eq_getElem?_getD, List.getElem?_set_ne (by decide), show (0 : Int).toNat = 0 from rfl, List.getElem?_set_self (by rw [List.length_replicate]; decide)]
  rfl
theorem ex_m1 : exS.st.m 1 = 118 := by
  show (memL [⟨0, 60⟩, ⟨1, 118⟩]).getD 1 0 = 118
  unfold memL
  simp only [List.foldl_cons, List.foldl_nil]
  rw [List.getD_eq_getElem?_getD, show (1 : Int).toNat = 1 from rfl, List.getElem?_set_self (by rw [List.length_set, List.length_replicate]; decide)]
  rfl
theorem ex_step1 : exS.st.step = (0, ({ exS.st with pc := 1 } : St).low 60 0) := by
  have h0 : exS.st.m exS.st.pc.toNat = 60 := ex_m0
  unfold St.step
  rw [if_neg (by decide), h0, if_neg (by decide)]
  unfold St.does
  rw [if_neg (by decide), if_pos (by decide)]
  rfl
def exA : St := ({ exS.st with pc := 1 } : St).low 60 0
theorem exA_is : exA.halt = false ∧ exA.pc = 1 ∧ exA.r 7 = 2 ∧ exA.m = exS.st.m := by
  have e : exA = { ({ exS.st with pc := 1 } : St).set 7 (incS 1 exS.f).1 with f := (incS 1 exS.f).2 } := by
    unfold exA St.low
    rw [if_neg (by decide), if_neg (by decide), if_neg (by decide), if_neg (by decide), if_neg (by decide), if_pos (by decide)]
    rfl
  rw [e]
  exact ⟨rfl, rfl, rfl, rfl⟩
theorem ex_step2 : exA.step = (0, { exA with pc := 2, halt := true }) := by
  obtain ⟨h1, h2, _, h4⟩ := exA_is
  have h0 : exA.m exA.pc.toNat = 118 := by rw [h4, h2]; exact ex_m1
  unfold St.step
  rw [h1, if_neg (by decide), h0, if_neg (by decide), h2]
  unfold St.does
  rw [if_pos rfl]
  rfl
theorem ex_run : exS.st.run 5 = (2, 13, { exA with pc := 2, halt := true }) := by
  have h3 : ({ exA with pc := 2, halt := true } : St).step = (13, { exA with pc := 2, halt := true }) := by
    unfold St.step
    rw [if_pos rfl]
  rw [run_go (by rw [ex_step1]), ex_step1]
  show (((exA.run 4).1 + 1, (exA.run 4).2) : Nat × Int × St) = _
  rw [run_go (by rw [ex_step2]), ex_step2]
  show ((((({ exA with pc := 2, halt := true } : St).run 3).1 + 1) + 1, (({ exA with pc := 2, halt := true } : St).run 3).2) : Nat × Int × St) = _
  rw [run_stop (by rw [h3]; decide), h3]
theorem ex_at {w : World} {g : Nat} (h : w.heap[g]? = some (.cells #[.int .u16 0, .int .u8 60, .int .u16 1, .int .u8 118] 33 (0, 0))) : StartAt w exS none 0 (some ⟨g, 0, none⟩) 2 := by
  refine ⟨ReadsInt.nil _ _, Nat.le_refl _, ⟨rfl, by decide, fun _ => ⟨_, rfl, fun j p hj => ?_⟩⟩, Nat.le_refl _, fun b o e _ => by cases e⟩
  have hc : ∀ i, w.cell? ((⟨g, 0, none⟩ : Addr).add i) = (#[.int .u16 0, .int .u8 60, .int .u16 1, .int .u8 118] : Array Value)[i]? := fun i => by
    have e : (⟨g, 0, none⟩ : Addr).add i = ⟨g, i, none⟩ := by unfold Addr.add; split <;> simp_all
    rw [e, blk_cell h i]
  match j, hj with
  | 0, hj =>
    have e : (⟨0, 60⟩ : S33) = p := by injection hj
    subst e
    exact ⟨_, rfl, k33_mk w ⟨0, 60⟩, fun i u hu => by
      match i, hu with
      | 0, hu => exact (hc 0).trans hu
      | 1, hu => exact (hc 1).trans hu⟩
  | 1, hj =>
    have e : (⟨1, 118⟩ : S33) = p := by injection hj
    subst e
    exact ⟨_, rfl, k33_mk w ⟨1, 118⟩, fun i u hu => by
      match i, hu with
      | 0, hu => exact (hc 2).trans hu
      | 1, hu => exact (hc 3).trans hu⟩
def Yes (w : World) (e : Ending) (w' : World) : Prop := e = .returned (.bool true) ∧ Below w.heap.size w w'
set_option maxRecDepth 100000 in
theorem alive_c (w : World) : Calls Try.prog 11 #[] w (Yes w) := by
  go_enter Try.func11, Try.ntmps11
  go_wp2_with fail
  refine (Open_c exS _ none (some ⟨w.heap.size, 0, none⟩) 0 2 exS_wf rfl (by decide) (by decide) (ex_at (blk_new _ _))).mono ?_
  rintro e w1 ⟨L, M, rfl, hr, hm, ha, hb, hf, hg⟩
  have HR := Aside0.mk hr
  have HB := Aside0.mk hb
  have HF := Aside0.mk hf
  clear hr hm ha hb hf hg
  go_wp2_with fail
  refine (Run_any w1 HR.out 5 (by decide) (by decide)).mono ?_
  rintro e w2 ⟨L', ht, rfl, hr, hs⟩
  rw [show (5 : Int).toNat = 5 from rfl, ex_run] at hr ⊢
  have HT := Aside0.mk ht
  have HS := Aside0.mk hs
  rw [← ht.g]
  have e7 : w2.cell? ⟨L'.g, 7, none⟩ = some (.int .u8 2) := (hr.c 7).trans (by rw [← exA_is.2.2.1]; rfl)
  have e14 : w2.cell? ⟨L'.g, 14, none⟩ = some (.int .u16 2) := hr.c 14
  clear ht hs hr
  go_wp2_with fail
  go_ret
  have hb1 := below_step (below_alloc (Below.refl _ _) _) HB.out
  exact ⟨rfl, Keep.is_below hb1 hb1.size HS.out (HF.out.of (by simp))⟩
end Go.Proofs.Ytaiabehbappdaaa.Cpu
namespace Go.Proofs.Ytaiabehbappdaaa.Cpu
open Go Go.RowKit Go.Proofs.YtaiabehbappdaaaW.PrintWords Go.Proofs.Ytaiabehbappdaaa.PCpu
theorem regs_cell {r : Nat → Int} (h : ∀ i, 0 ≤ r i ∧ r i < 256) : (#[.int .u8 (r 0), .int .u8 (r 1), .int .u8 (r 2), .int .u8 (r 3), .int .u8 (r 4), .int .u8 (r 5), .int .u8 (r 6), .int .u8 (r 7)] : Array Value) = (([UInt8.ofNat (r 0).toNat, UInt8.ofNat (r 1).toNat, UInt8.ofNat (r 2).toNat, UInt8.ofNat (r 3).toNat, UInt8.ofNat (r 4).toNat, UInt8.ofNat (r 5).toNat, UInt8.ofNat (r 6).toNat, UInt8.ofNat (r 7).toNat].map Extern.Stop.cell).toArray) := by
  have one : ∀ i, Extern.Stop.cell (UInt8.ofNat (r i).toNat) = .int .u8 (r i) := fun i => by
    have := h i
    unfold Extern.Stop.cell
    congr 1
    rw [UInt8.toNat_ofNat']
    show (((r i).toNat % 2 ^ 8 : Nat) : Int) = r i
    omega
  simp only [List.map_cons, List.map_nil, one]
theorem eqA22 {r : Nat → Int} (h : ∀ i, 0 ≤ r i ∧ r i < 256) (w : World) : (Op.equalIn 10000 22 (.agg #[.int .u8 (r 0), .int .u8 (r 1), .int .u8 (r 2), .int .u8 (r 3), .int .u8 (r 4), .int .u8 (r 5), .int .u8 (r 6), .int .u8 (r 7)]) (.agg #[.int .u8 (r 0), .int .u8 (r 1), .int .u8 (r 2), .int .u8 (r 3), .int .u8 (r 4), .int .u8 (r 5), .int .u8 (r 6), .int .u8 (r 7)])).run Try.prog w = .ok true w := by
  rw [regs_cell h, run_equalIn_bytes w 9998 22 5 8 Try.underlying22 Try.underlying5 (fun _ => by kernel_rfl) _ _ rfl rfl]
  simp
end Go.Proofs.Ytaiabehbappdaaa.Cpu
namespace Go.Proofs.Ytaiabehbappdaaa.Cpu
open Go Go.RowKit Go.Proofs.YtaiabehbappdaaaW.PrintWords Go.Proofs.Ytaiabehbappdaaa.PCpu
attribute [local go_sem ↓] Go.wp_at_zero Go.wp_at_succ
theorem Back_c (f : Fl) (w : World) : Calls Try.prog 24 #[flV f] w fun e w' => e = .returned (flV f) ∧ Below w.heap.size w w' :=
  pidginlaw01_Back.calls f.s f.z f.a f.p f.c f.s f.z f.a f.p f.c w rfl
end Go.Proofs.Ytaiabehbappdaaa.Cpu
namespace Go.Proofs.Ytaiabehbappdaaa.Cpu
open Go Go.RowKit Go.Proofs.YtaiabehbappdaaaW.PrintWords Go.Proofs.Ytaiabehbappdaaa.PCpu
theorem step_pure {s : St} {op z : Int} (hh : s.halt = false) (h0 : s.m s.pc.toNat = op) (hz : sizeS op = z) (hne : z ≠ 0) : s.step = (0, ({ s with pc := (s.pc + z) % 65536 } : St).does op (argS op s.at1 s.at2)) := by
  unfold St.step
  rw [if_neg (by rw [hh]; decide), h0, hz, if_neg hne]
def memF (l : List S33) (j : Nat) (v : Int) : Int := l.foldl (fun a x => if x.f0.toNat = j then x.f1 else a) v
theorem foldl_get (l : List S33) (j : Nat) : ∀ m : List Int, j < m.length → (l.foldl (fun m x => m.set x.f0.toNat x.f1) m).getD j 0 = memF l j (m.getD j 0) := by
  induction l with
  | nil => intro m _; rfl
  | cons x l ih =>
    intro m hj
    have h := ih (m.set x.f0.toNat x.f1) (by simpa using hj)
    simp only [List.foldl_cons] at h ⊢
    rw [h]
    unfold memF
    simp only [List.foldl_cons]
    congr 1
    by_cases e : x.f0.toNat = j
    · rw [if_pos e, e, List.getD_eq_getElem?_getD, List.getElem?_set_self hj]
      rfl
    · rw [if_neg e, List.getD_eq_getElem?_getD, List.getD_eq_getElem?_getD, List.getElem?_set_ne e]
theorem memL_get (l : List S33) {j : Nat} (hj : j < 65536) : (memL l).getD j 0 = memF l j 0 := by
  unfold memL
  rw [foldl_get l j _ (by rw [List.length_replicate]; exact hj)]
  congr 1
  rw [List.getD_eq_getElem?_getD, List.getElem?_replicate_of_lt hj]
  rfl
theorem memF_cons (x : S33) (l : List S33) (j : Nat) (v : Int) : memF (x :: l) j v = memF l j (if x.f0.toNat = j then x.f1 else v) := rfl
theorem memF_nil (j : Nat) (v : Int) : memF [] j v = v := rfl
def St.pv (s : St) (p : Int) : Int := if p = 3 then s.r 7 * 256 + pswS s.f else s.pair p
theorem push_is {s : St} {p : Int} (p0 : 0 ≤ p) (p3 : p ≤ 3) (hh : s.halt = false) (h0 : s.m s.pc.toNat = 197 + 16 * p) : s.step = (0, ({ s with pc := (s.pc + 1) % 65536 } : St).push (s.pv p)) := by
  have hz : sizeS (197 + 16 * p) = 1 := by rcases (by omega : p = 0 ∨ p = 1 ∨ p = 2 ∨ p = 3) with rfl | rfl | rfl | rfl <;> decide
  rw [step_pure hh h0 hz (by decide)]
  congr 1
  unfold St.does
  rw [if_neg (by omega), if_neg (by omega), if_neg (by omega), if_neg (by omega)]
  unfold St.high
  have hf : ∀ (s : St) (n : Int), s.flow (197 + 16 * p) n = (false, s) := fun s n => by
    unfold St.flow
    rw [if_neg (by omega), if_neg (by omega), if_neg (by omega), if_neg (by omega)]
  rw [if_neg (by omega), hf, if_neg (show ¬ ((false : Bool) = true) from Bool.false_ne_true)]
  have hs : ∀ s : St, s.stack (197 + 16 * p) = (true, s.push (s.pv p)) := fun s => by
    unfold St.stack St.pv
    rw [if_pos (by omega), show (197 + 16 * p) / 16 % 4 = p by omega]
  rw [hs, if_pos rfl]
  rfl
def St.pp (s : St) (p n : Int) : St := if p = 3 then { s.popped.setR 7 (n / 256) with f := ofS (n % 256) } else s.popped.setPair p n
theorem pop_is {s : St} {p : Int} (p0 : 0 ≤ p) (p3 : p ≤ 3) (hh : s.halt = false) (h0 : s.m s.pc.toNat = 193 + 16 * p) : s.step = (0, ({ s with pc := (s.pc + 1) % 65536 } : St).pp p (s.word s.sp)) := by
  have hz : sizeS (193 + 16 * p) = 1 := by rcases (by omega : p = 0 ∨ p = 1 ∨ p = 2 ∨ p = 3) with rfl | rfl | rfl | rfl <;> decide
  rw [step_pure hh h0 hz (by decide)]
  congr 1
  unfold St.does
  rw [if_neg (by omega), if_neg (by omega), if_neg (by omega), if_neg (by omega)]
  unfold St.high
  have hf : ∀ (s : St) (n : Int), s.flow (193 + 16 * p) n = (false, s) := fun s n => by
    unfold St.flow
    rw [if_neg (by omega), if_neg (by omega), if_neg (by omega), if_neg (by omega)]
  rw [if_neg (by omega), hf, if_neg (show ¬ ((false : Bool) = true) from Bool.false_ne_true)]
  have hs : ∀ s : St, s.stack (193 + 16 * p) = (true, s.pp p (s.word s.sp)) := fun s => by
    unfold St.stack St.pp
    rw [if_neg (by omega), if_pos (by omega), show (193 + 16 * p) / 16 % 4 = p by omega]
  rw [hs, if_pos rfl]
  rfl
theorem call_is {s : St} (hh : s.halt = false) (h0 : s.m s.pc.toNat = 205) : s.step = (0, { ({ s with pc := (s.pc + 3) % 65536 } : St).push ((s.pc + 3) % 65536) with pc := s.at2 * 256 + s.at1 }) := by
  rw [step_pure hh h0 (z := 3) (by decide) (by decide)]
  rfl
theorem ret_is {s : St} (hh : s.halt = false) (h0 : s.m s.pc.toNat = 201) : s.step = (0, { ({ s with pc := (s.pc + 1) % 65536 } : St).popped with pc := s.word s.sp }) := by
  rw [step_pure hh h0 (z := 1) (by decide) (by decide)]
  rfl
theorem of_psw (f : Fl) : ofS (pswS f) = f := by
  obtain ⟨fs, fz, fa, fp, fc⟩ := f
  cases fs <;> cases fz <;> cases fa <;> cases fp <;> cases fc <;> (unfold ofS; congr 1 <;> decide +kernel)
theorem pv_bd {s : St} (h : s.Wf) {p : Int} (p0 : 0 ≤ p) (p3 : p ≤ 3) : 0 ≤ s.pv p ∧ s.pv p < 65536 := by
  unfold St.pv
  have h7 := h.r0 7
  have h7' := h.r1 7
  have hp := pswS_bd s.f
  split
  · omega
  · exact St.pair_bd h p
end Go.Proofs.Ytaiabehbappdaaa.Cpu
namespace Go.Proofs.Ytaiabehbappdaaa.Cpu
open Go Go.RowKit Go.Proofs.YtaiabehbappdaaaW.PrintWords Go.Proofs.Ytaiabehbappdaaa.PCpu
theorem push_m (s : St) (n : Int) (j : Nat) : (s.push n).m j = if j = (((s.sp - 2) % 65536 + 1) % 65536).toNat then n / 256 else if j = ((s.sp - 2) % 65536).toNat then n % 256 else s.m j := rfl
theorem pp_m (s : St) (p n : Int) : (s.pp p n).m = s.m := by unfold St.pp St.setPair; (repeat' split) <;> rfl
theorem pp_pc (s : St) (p n : Int) : (s.pp p n).pc = s.pc := by unfold St.pp St.setPair; (repeat' split) <;> rfl
theorem pp_halt (s : St) (p n : Int) : (s.pp p n).halt = s.halt := by unfold St.pp St.setPair; (repeat' split) <;> rfl
theorem pp_sp {s : St} {p n : Int} (p0 : 0 ≤ p) (p3 : p ≤ 3) : (s.pp p n).sp = (s.sp + 2) % 65536 := by
  unfold St.pp
  split
  · rfl
  · unfold St.setPair
    rw [if_neg (by omega)]
    rfl
theorem pp_r {s t : St} {p n : Int} (h : t.Wf) (p0 : 0 ≤ p) (p3 : p ≤ 3) (hr : s.r = t.r) (hn : n = t.pv p) : (s.pp p n).r = t.r := by
  subst hn
  unfold St.pp St.pv
  by_cases e : p = 3
  · rw [if_pos e, if_pos e]
    funext j
    show (if j = 7 then (t.r 7 * 256 + pswS t.f) / 256 else s.r j) = t.r j
    have hp := pswS_bd t.f
    split
    · rename_i e7
      rw [e7]
      omega
    · rw [hr]
  · rw [if_neg e, if_neg e]
    unfold St.setPair St.pair
    rw [if_neg e, if_neg e]
    funext j
    show (if j = (2 * p).toNat then (t.r (2 * p).toNat * 256 + t.r (2 * p + 1).toNat) / 256 else if j = (2 * p + 1).toNat then (t.r (2 * p).toNat * 256 + t.r (2 * p + 1).toNat) % 256 else s.r j) = t.r j
    have h0 := h.r0 (2 * p + 1).toNat
    have h1 := h.r1 (2 * p + 1).toNat
    split
    · rename_i ej
      rw [ej]
      omega
    · split
      · rename_i _ ej
        rw [ej]
        omega
      · rw [hr]
theorem pp_f {s t : St} {p n : Int} (hf : s.f = t.f) (hn : n = t.pv p) : (s.pp p n).f = t.f := by
  subst hn
  unfold St.pp St.pv
  split
  · show ofS ((t.r 7 * 256 + pswS t.f) % 256) = t.f
    have hp := pswS_bd t.f
    rw [show (t.r 7 * 256 + pswS t.f) % 256 = pswS t.f by omega, of_psw]
  · unfold St.setPair
    split
    · exact hf
    · exact hf
structure Four (s s1 s2 s3 s4 : St) (tx : Int) : Prop where
  a1 : s.step = (0, s1)
  a2 : s1.step = (0, s2)
  a3 : s2.step = (0, s3)
  a4 : s3.step = (0, s4)
  b1 : s1.sp = s.sp - 2
  b2 : s2.sp = s.sp
  r2 : s2.r = s.r
  f2 : s2.f = s.f
  pc3 : s3.pc = tx
  pc4 : s4.pc = 5
  b4 : s4.sp = s.sp
  r4 : s4.r = s.r
theorem four {s : St} {p tx : Int} (h : s.Wf) (hh : s.halt = false) (hpc : s.pc = 0) (p0 : 0 ≤ p) (p3 : p ≤ 3) (t0 : 16 ≤ tx) (t1 : tx ≤ 65000) (hsp : 256 ≤ s.sp) (hap : ¬ (s.sp > tx ∧ s.sp - tx < 8))
    (m0 : s.m 0 = 197 + 16 * p) (m1 : s.m 1 = 193 + 16 * p) (m2 : s.m 2 = 205) (m3 : s.m 3 = tx % 256) (m4 : s.m 4 = tx / 256) (mt : s.m tx.toNat = 201) : ∃ s1 s2 s3 s4, Four s s1 s2 s3 s4 tx := by
  have hs1 := h.sp1
  have v := pv_bd h p0 p3
  have a1 := push_is (s := s) p0 p3 hh (by rw [hpc]; exact m0)
  rw [hpc, show ((0 : Int) + 1) % 65536 = 1 by decide] at a1
  have e1 : ∀ j, (({ s with pc := 1 } : St).push (s.pv p)).m j = if j = (s.sp - 1).toNat then s.pv p / 256 else if j = (s.sp - 2).toNat then s.pv p % 256 else s.m j := fun j => by
    rw [push_m]
    show (if j = (((s.sp - 2) % 65536 + 1) % 65536).toNat then _ else if j = ((s.sp - 2) % 65536).toNat then _ else _) = _
    rw [show ((s.sp - 2) % 65536 + 1) % 65536 = s.sp - 1 by omega, show (s.sp - 2) % 65536 = s.sp - 2 by omega]
  have q1 : (({ s with pc := 1 } : St).push (s.pv p)).sp = s.sp - 2 := by
    show (s.sp - 2) % 65536 = s.sp - 2
    omega
  have r1 : (({ s with pc := 1 } : St).push (s.pv p)).r = s.r := rfl
  have f1 : (({ s with pc := 1 } : St).push (s.pv p)).f = s.f := rfl
  have g1 : (({ s with pc := 1 } : St).push (s.pv p)).pc = 1 := rfl
  have h1 : (({ s with pc := 1 } : St).push (s.pv p)).halt = false := hh
  generalize ({ s with pc := 1 } : St).push (s.pv p) = s1 at *
  have a2 := pop_is (s := s1) p0 p3 h1 (by rw [g1]; show s1.m 1 = _; rw [e1, if_neg (by omega), if_neg (by omega)]; exact m1)
  have w1 : s1.word s1.sp = s.pv p := by
    unfold St.word
    rw [q1, e1, e1, if_neg (by omega), if_pos rfl, if_pos (by omega)]
    omega
  rw [w1, g1, show ((1 : Int) + 1) % 65536 = 2 by decide] at a2
  have e2 : (({ s1 with pc := 2 } : St).pp p (s.pv p)).m = s1.m := pp_m _ _ _
  have q2 : (({ s1 with pc := 2 } : St).pp p (s.pv p)).sp = s.sp := by
    rw [pp_sp p0 p3]
    show (s1.sp + 2) % 65536 = s.sp
    rw [q1]
    omega
  have r2 : (({ s1 with pc := 2 } : St).pp p (s.pv p)).r = s.r := pp_r h p0 p3 r1 rfl
  have f2 : (({ s1 with pc := 2 } : St).pp p (s.pv p)).f = s.f := pp_f f1 rfl
  have g2 : (({ s1 with pc := 2 } : St).pp p (s.pv p)).pc = 2 := pp_pc _ _ _
  have h2 : (({ s1 with pc := 2 } : St).pp p (s.pv p)).halt = false := (pp_halt _ _ _).trans h1
  generalize ({ s1 with pc := 2 } : St).pp p (s.pv p) = s2 at *
  have n2 : s2.m 2 = 205 := by rw [e2, e1, if_neg (by omega), if_neg (by omega)]; exact m2
  have n3 : s2.at1 = tx % 256 := by unfold St.at1; rw [g2]; show s2.m 3 = _; rw [e2, e1, if_neg (by omega), if_neg (by omega)]; exact m3
  have n4 : s2.at2 = tx / 256 := by unfold St.at2; rw [g2]; show s2.m 4 = _; rw [e2, e1, if_neg (by omega), if_neg (by omega)]; exact m4
  have a3 := call_is (s := s2) h2 (by rw [g2]; exact n2)
  rw [n3, n4, g2, show ((2 : Int) + 3) % 65536 = 5 by decide, show tx / 256 * 256 + tx % 256 = tx by omega] at a3
  have e3 : ∀ j, ({ ({ s2 with pc := 5 } : St).push 5 with pc := tx } : St).m j = if j = (s.sp - 1).toNat then 0 else if j = (s.sp - 2).toNat then 5 else s2.m j := fun j => by
    show (({ s2 with pc := 5 } : St).push 5).m j = _
    rw [push_m]
    show (if j = (((s2.sp - 2) % 65536 + 1) % 65536).toNat then _ else if j = ((s2.sp - 2) % 65536).toNat then _ else _) = _
    rw [q2, show ((s.sp - 2) % 65536 + 1) % 65536 = s.sp - 1 by omega, show (s.sp - 2) % 65536 = s.sp - 2 by omega]
    rfl
  have q3 : ({ ({ s2 with pc := 5 } : St).push 5 with pc := tx } : St).sp = s.sp - 2 := by
    show (s2.sp - 2) % 65536 = s.sp - 2
    rw [q2]
    omega
  have r3 : ({ ({ s2 with pc := 5 } : St).push 5 with pc := tx } : St).r = s.r := r2
  have g3 : ({ ({ s2 with pc := 5 } : St).push 5 with pc := tx } : St).pc = tx := rfl
  have h3 : ({ ({ s2 with pc := 5 } : St).push 5 with pc := tx } : St).halt = false := h2
  generalize ({ ({ s2 with pc := 5 } : St).push 5 with pc := tx } : St) = s3 at *
  have n5 : s3.m s3.pc.toNat = 201 := by
    rw [g3, e3, if_neg (by omega), if_neg (by omega), e2, e1, if_neg (by omega), if_neg (by omega)]
    exact mt
  have a4 := ret_is (s := s3) h3 n5
  have w3 : s3.word s3.sp = 5 := by
    unfold St.word
    rw [q3, e3, e3, if_neg (by omega), if_pos rfl, if_pos (by omega)]
    rfl
  rw [w3] at a4
  refine ⟨s1, s2, s3, _, a1, a2, a3, a4, q1, q2, r2, f2, g3, rfl, ?_, r3⟩
  show (s3.sp + 2) % 65536 = s.sp
  rw [q3]
  omega
end Go.Proofs.Ytaiabehbappdaaa.Cpu
namespace Go.Proofs.Ytaiabehbappdaaa.Cpu
open Go Go.RowKit Go.Proofs.YtaiabehbappdaaaW.PrintWords Go.Proofs.Ytaiabehbappdaaa.PCpu
attribute [local go_sem ↓] Go.wp_at_zero Go.wp_at_succ wp_store52
attribute [local go_sem] ptrB_mk isPtr_mk isAgg19_st isSt_drew
theorem size29 : (Try.prog.info? 29).map (·.size) = some 18 := by kernel_rfl
def Start.zero6 (x : Start) : Start := { x with r := fun i => if i = 6 then 0 else x.r i }
theorem zero6_wf {x : Start} (h : x.Wf) : x.zero6.Wf := ⟨fun i => by show 0 ≤ (if i = 6 then 0 else x.r i) ∧ (if i = 6 then 0 else x.r i) < 256; have := h.r i; split <;> omega, h.sp, h.pc, h.ins, h.ml⟩
theorem wpStill_go {P : Program} {ops : Array Oper} {w : World} {Q : Act → Prop} {a : Act} {o : Oper} {rest : List Oper} (hw : Region.wanted o (yielded ops a.tmps) = true) (h : ∀ K : Act → Prop, (∀ a, wpStill P ops w Q rest a → K a) → o.still P a w K) : wpStill P ops w Q (o :: rest) a :=
  wpStill_step fun K hK => by
    rw [if_pos hw]
    exact h K hK
end Go.Proofs.Ytaiabehbappdaaa.Cpu
namespace Go.Proofs.Ytaiabehbappdaaa.Cpu
open Go Go.RowKit Go.Proofs.YtaiabehbappdaaaW.PrintWords
structure At (m n g G : Nat) (o : Obj) (w0 w : World) (s : St) (L : Loc) : Prop where
  rep : Rep w s L
  fresh : ∀ k, (k = L.g ∨ k = L.mb ∨ L.outv.ownBlock = some k) → n ≤ k
  g : L.g = g
  below : Below n w0 w
  size : n ≤ w.heap.size
  box : w.heap[G]? = some o
  lt : G < n
  outs : s.outs.length ≤ m
theorem At.drew {m n g G : Nat} {o : Obj} {w0 w : World} {s : St} {L : Loc} (h : At m n g G o w0 w s L) : At m n g G o w0 w.drew s L :=
  ⟨h.rep.drew, h.fresh, h.g, h.below.drew, h.size, h.box, h.lt, h.outs⟩
theorem At.made {m n g G : Nat} {o : Obj} {w0 w w' : World} {s : St} {L : Loc} (h : At m n g G o w0 w s L) (hb : Below w.heap.size w w') : At m n g G o w0 w' s L :=
  ⟨h.rep.below hb, h.fresh, h.g, h.below.trans (hb.mono h.size), Nat.le_trans h.size hb.size, blk_below h.box hb, h.lt, h.outs⟩
theorem At.next {m m' n g G : Nat} {o : Obj} {w0 w w' : World} {s s' : St} {L L' : Loc} (h : At m n g G o w0 w s L) (ht : To w L L') (hr : Rep w' s' L') (hs : Same w w' L) (ho : s'.outs.length ≤ m') : At m' n g G o w0 w' s' L' := by
  refine ⟨hr, fun k hk => ?_, ht.g.trans h.g, Keep.is_below h.below h.size hs h.fresh, Nat.le_trans h.size hs.size, ?_, h.lt, ho⟩
  · rcases hk with e | e | e
    · exact h.fresh k (.inl (e.trans ht.g))
    · exact h.fresh k (.inr (.inl (e.trans ht.mb)))
    · rcases ht.ob k e with e | e
      · exact h.fresh k (.inr (.inr e))
      · exact Nat.le_trans h.size e
  · rw [hs.block G (Nat.lt_of_lt_of_le h.lt h.size) (fun e => by have := h.fresh G e; have := h.lt; omega)]
    exact h.box
theorem At.step {m n g G : Nat} {o : Obj} {w0 w : World} {s : St} {L : Loc} (h : At m n g G o w0 w s L) (hm : m < 100000) : Calls Try.prog 13 #[.pointer (some ⟨g, 0, none⟩)] w fun e w' => e = .returned (.int .i64 s.step.1) ∧ ∃ L', At (m + 1) n g G o w0 w' s.step.2 L' := by
  have hg := h.g
  subst hg
  refine (step_any w h.rep (by have := h.outs; omega)).mono ?_
  rintro e w' ⟨L', ht, rfl, hr, hs⟩
  exact ⟨rfl, L', h.next ht hr hs (by have := outs_step s; have := h.outs; omega)⟩
theorem At.of {n G : Nat} {o : Obj} {w0 w : World} {s : St} {L : Loc} (hr : Rep w s L) (hf : Fresh n L) (hb : Below n w0 w) (hn : n ≤ w.heap.size) (hG : w.heap[G]? = some o) (hl : G < n) (ho : s.outs.length ≤ 0) : At 0 n L.g G o w0 w s L :=
  ⟨hr, hf.of (Nat.le_refl _), rfl, hb, hn, hG, hl, ho⟩
end Go.Proofs.Ytaiabehbappdaaa.Cpu
namespace Go.Proofs.Ytaiabehbappdaaa.Cpu
open Go Go.RowKit
theorem wpList_go {P : Program} {ops : Array Oper} {Q : Exit → Act → World → Prop} {a : Act} {w : World} {o : Oper} {rest : List Oper} (hw : Region.wanted o (yielded ops a.tmps) = true) (h : ∀ K : Act → World → Prop, (∀ a w, wpList P ops Q rest a w → K a w) → o.wp P a w K Q) : wpList P ops Q (o :: rest) a w :=
  wpList_step fun K hK => by
    rw [if_pos hw]
    exact h K hK
theorem wpList_skip {P : Program} {ops : Array Oper} {Q : Exit → Act → World → Prop} {a : Act} {w : World} {o : Oper} {rest : List Oper} (hw : Region.wanted o (yielded ops a.tmps) = false) (h : wpList P ops Q rest (a.put o.dst undef) w) : wpList P ops Q (o :: rest) a w :=
  wpList_step fun K hK => by
    rw [if_neg (by rw [hw]; decide)]
    exact hK _ _ h
end Go.Proofs.Ytaiabehbappdaaa.Cpu
namespace Go.Proofs.Ytaiabehbappdaaa.Cpu
open Go Go.RowKit Go.Proofs.YtaiabehbappdaaaW.PrintWords Go.Proofs.Ytaiabehbappdaaa.PCpu
attribute [local go_sem ↓] Go.wp_at_zero Go.wp_at_succ
def behind : Nat → Code → Code
  | 0, c => c
  | k + 1, .seq _ b => behind k b
  | _ + 1, c => c
noncomputable def cS (k : Nat) : Code := behind k (Try.f6.body.getD .skip)
theorem byte_wf {n : Int} (h : (Lit.int .u8 n).wf = true) : 0 ≤ n ∧ n < 256 := by
  simp [Lit.wf, IntKind.min, IntKind.max, IntKind.bits, IntKind.signed] at h
  omega
theorem word_wf {n : Int} (h : (Lit.int .u16 n).wf = true) : 0 ≤ n ∧ n < 65536 := by
  simp [Lit.wf, IntKind.min, IntKind.max, IntKind.bits, IntKind.signed] at h
  omega
theorem flat_get (l : List S33) : ∀ (j : Nat) (q : S33), l[j]? = some q → (l.flatMap fun y => [Value.int .u16 y.f0, Value.int .u8 y.f1])[j * 2]? = some (.int .u16 q.f0) ∧ (l.flatMap fun y => [Value.int .u16 y.f0, Value.int .u8 y.f1])[j * 2 + 1]? = some (.int .u8 q.f1) := by
  induction l with
  | nil => intro j q h; simp at h
  | cons y l ih =>
    intro j q h
    cases j with
    | zero =>
      have e : y = q := by simpa using h
      subst e
      exact ⟨rfl, rfl⟩
    | succ j =>
      have := ih j q (by simpa using h)
      rw [show (j + 1) * 2 = j * 2 + 2 by omega, show j * 2 + 2 + 1 = (j * 2 + 1) + 2 by omega]
      exact this
theorem list_at {w : World} {g : Nat} {l : List S33} {cs : Array Value} (hn : l.length ≤ 1000000) (h : w.heap[g]? = some (.cells cs 33 (0, 0))) (hc : cs.toList = l.flatMap fun y => [Value.int .u16 y.f0, Value.int .u8 y.f1]) : Kd.C k33 w (some ⟨g, 0, none⟩) l.length l := by
  refine ⟨rfl, by omega, fun _ => ⟨_, rfl, fun j q hj => ⟨_, rfl, k33_mk w q, fun i u hu => ?_⟩⟩⟩
  have hg : ∀ i, w.cell? ((⟨g, 0, none⟩ : Addr).add i) = (l.flatMap fun y => [Value.int .u16 y.f0, Value.int .u8 y.f1])[i]? := fun i => by
    have e : (⟨g, 0, none⟩ : Addr).add i = ⟨g, i, none⟩ := by unfold Addr.add; split <;> simp_all
    rw [e, blk_cell h i, ← hc]
    simp
  obtain ⟨h0, h1⟩ := flat_get l j q hj
  match i, hu with
  | 0, hu => exact ((hg (j * 2)).trans h0).trans (by injection hu with hu; rw [hu])
  | 1, hu => exact ((hg (j * 2 + 1)).trans h1).trans (by injection hu with hu; rw [hu])
def stackList (p t : Int) : List S33 := [⟨0, 197 + 16 * p⟩, ⟨1, 193 + 16 * p⟩, ⟨2, 205⟩, ⟨3, t % 256⟩, ⟨4, t / 256⟩, ⟨t, 201⟩]
def Start.with (x : Start) (l : List S33) : Start := { x.zero6 with ml := l }
theorem with_wf {x : Start} (h : x.Wf) {l : List S33} (hl : ∀ y ∈ l, ByteOk y) : (x.with l).Wf := ⟨(zero6_wf h).r, h.sp, h.pc, h.ins, hl⟩
theorem stack_ok {p t : Int} (p0 : 0 ≤ p) (p3 : p ≤ 3) (t0 : 0 ≤ t) (t1 : t ≤ 65000) : ∀ y ∈ stackList p t, ByteOk y := by
  intro y hy
  simp only [stackList, List.mem_cons, List.not_mem_nil, or_false] at hy
  unfold ByteOk
  rcases hy with rfl | rfl | rfl | rfl | rfl | rfl <;> (simp only; omega)
theorem stack_four {x : Start} {p t : Int} (hx : x.Wf) (hpc : x.pc = 0) (p0 : 0 ≤ p) (p3 : p ≤ 3) (t0 : 16 ≤ t) (t1 : t ≤ 65000) (hsp : 256 ≤ x.sp) (hap : ¬ (x.sp > t ∧ x.sp - t < 8)) : ∃ s1 s2 s3 s4, Four (x.with (stackList p t)).st s1 s2 s3 s4 t := by
  refine four (with_wf hx (stack_ok p0 p3 (by omega) t1)).st rfl hpc p0 p3 t0 t1 hsp hap ?_ ?_ ?_ ?_ ?_ ?_
  · show (memL (stackList p t)).getD 0 0 = _
    rw [memL_get _ (by decide), stackList]
    simp only [memF_cons, memF_nil]
    rw [if_neg (by omega), if_neg (by decide), if_neg (by decide), if_neg (by decide), if_neg (by decide), if_pos (by decide)]
  · show (memL (stackList p t)).getD 1 0 = _
    rw [memL_get _ (by decide), stackList]
    simp only [memF_cons, memF_nil]
    rw [if_neg (by omega), if_neg (by decide), if_neg (by decide), if_neg (by decide), if_pos (by decide)]
  · show (memL (stackList p t)).getD 2 0 = _
    rw [memL_get _ (by decide), stackList]
    simp only [memF_cons, memF_nil]
    rw [if_neg (by omega), if_neg (by decide), if_neg (by decide), if_pos (by decide)]
  · show (memL (stackList p t)).getD 3 0 = _
    rw [memL_get _ (by decide), stackList]
    simp only [memF_cons, memF_nil]
    rw [if_neg (by omega), if_neg (by decide), if_pos (by decide)]
  · show (memL (stackList p t)).getD 4 0 = _
    rw [memL_get _ (by decide), stackList]
    simp only [memF_cons, memF_nil]
    rw [if_neg (by omega), if_pos (by decide)]
  · show (memL (stackList p t)).getD t.toNat 0 = _
    rw [memL_get _ (by omega), stackList]
    simp only [memF_cons, memF_nil]
    rw [if_pos trivial]
theorem two_all {w : World} {G g d c : Nat} {B A : Option Addr} {X : Start} {s : St} {L : Loc} (hb : w.heap[G]? = some (.cells (startCells X B d A c) 29 (0, 0))) (hr : Rep w s L) (hg : L.g = g) (er : s.r = X.r) (ef : s.f = X.f) (es : s.sp = X.sp) : w.cell? ⟨G, 0, none⟩ = some (.int .u8 (X.r 0)) ∧ w.cell? ⟨G, 1, none⟩ = some (.int .u8 (X.r 1)) ∧ w.cell? ⟨G, 2, none⟩ = some (.int .u8 (X.r 2)) ∧ w.cell? ⟨G, 3, none⟩ = some (.int .u8 (X.r 3)) ∧ w.cell? ⟨G, 4, none⟩ = some (.int .u8 (X.r 4)) ∧ w.cell? ⟨G, 5, none⟩ = some (.int .u8 (X.r 5)) ∧ w.cell? ⟨G, 6, none⟩ = some (.int .u8 (X.r 6)) ∧ w.cell? ⟨G, 7, none⟩ = some (.int .u8 (X.r 7)) ∧ w.cell? ⟨G, 8, none⟩ = some (.bool X.f.s) ∧ w.cell? ⟨G, 9, none⟩ = some (.bool X.f.z) ∧ w.cell? ⟨G, 10, none⟩ = some (.bool X.f.a) ∧ w.cell? ⟨G, 11, none⟩ = some (.bool X.f.p) ∧ w.cell? ⟨G, 12, none⟩ = some (.bool X.f.c) ∧ w.cell? ⟨G, 13, none⟩ = some (.int .u16 X.sp) ∧ w.cell? ⟨g, 0, none⟩ = some (.int .u8 (X.r 0)) ∧ w.cell? ⟨g, 1, none⟩ = some (.int .u8 (X.r 1)) ∧ w.cell? ⟨g, 2, none⟩ = some (.int .u8 (X.r 2)) ∧ w.cell? ⟨g, 3, none⟩ = some (.int .u8 (X.r 3)) ∧ w.cell? ⟨g, 4, none⟩ = some (.int .u8 (X.r 4)) ∧ w.cell? ⟨g, 5, none⟩ = some (.int .u8 (X.r 5)) ∧ w.cell? ⟨g, 6, none⟩ = some (.int .u8 (X.r 6)) ∧ w.cell? ⟨g, 7, none⟩ = some (.int .u8 (X.r 7)) ∧ w.cell? ⟨g, 8, none⟩ = some (.bool X.f.s) ∧ w.cell? ⟨g, 9, none⟩ = some (.bool X.f.z) ∧ w.cell? ⟨g, 10, none⟩ = some (.bool X.f.a) ∧ w.cell? ⟨g, 11, none⟩ = some (.bool X.f.p) ∧ w.cell? ⟨g, 12, none⟩ = some (.bool X.f.c) ∧ w.cell? ⟨g, 13, none⟩ = some (.int .u16 X.sp) := by
  subst hg
  obtain ⟨a0, a1, a2, a3, a4, a5, a6, a7, a8, a9, a10, a11, a12, a13, -⟩ := start_all hb
  obtain ⟨c0, c1, c2, c3, c4, c5, c6, c7, c8, c9, c10, c11, c12, c13, -⟩ := hr.all
  rw [er] at c0 c1 c2 c3 c4 c5 c6 c7
  rw [ef] at c8 c9 c10 c11 c12
  rw [es] at c13
  exact ⟨a0, a1, a2, a3, a4, a5, a6, a7, a8, a9, a10, a11, a12, a13, c0, c1, c2, c3, c4, c5, c6, c7, c8, c9, c10, c11, c12, c13⟩
theorem two_rest {w : World} {G g d c : Nat} {B A : Option Addr} {X : Start} {s : St} {L : Loc} (hb : w.heap[G]? = some (.cells (startCells X B d A c) 29 (0, 0))) (hr : Rep w s L) (hg : L.g = g) (er : s.r = X.r) (es : s.sp = X.sp) (ep : s.pc = 5) : w.cell? ⟨G, 0, none⟩ = some (.int .u8 (X.r 0)) ∧ w.cell? ⟨G, 1, none⟩ = some (.int .u8 (X.r 1)) ∧ w.cell? ⟨G, 2, none⟩ = some (.int .u8 (X.r 2)) ∧ w.cell? ⟨G, 3, none⟩ = some (.int .u8 (X.r 3)) ∧ w.cell? ⟨G, 4, none⟩ = some (.int .u8 (X.r 4)) ∧ w.cell? ⟨G, 5, none⟩ = some (.int .u8 (X.r 5)) ∧ w.cell? ⟨G, 6, none⟩ = some (.int .u8 (X.r 6)) ∧ w.cell? ⟨G, 7, none⟩ = some (.int .u8 (X.r 7)) ∧ w.cell? ⟨G, 13, none⟩ = some (.int .u16 X.sp) ∧ w.cell? ⟨g, 0, none⟩ = some (.int .u8 (X.r 0)) ∧ w.cell? ⟨g, 1, none⟩ = some (.int .u8 (X.r 1)) ∧ w.cell? ⟨g, 2, none⟩ = some (.int .u8 (X.r 2)) ∧ w.cell? ⟨g, 3, none⟩ = some (.int .u8 (X.r 3)) ∧ w.cell? ⟨g, 4, none⟩ = some (.int .u8 (X.r 4)) ∧ w.cell? ⟨g, 5, none⟩ = some (.int .u8 (X.r 5)) ∧ w.cell? ⟨g, 6, none⟩ = some (.int .u8 (X.r 6)) ∧ w.cell? ⟨g, 7, none⟩ = some (.int .u8 (X.r 7)) ∧ w.cell? ⟨g, 13, none⟩ = some (.int .u16 X.sp) ∧ w.cell? ⟨g, 14, none⟩ = some (.int .u16 5) := by
  subst hg
  obtain ⟨a0, a1, a2, a3, a4, a5, a6, a7, -, -, -, -, -, a13, -⟩ := start_all hb
  obtain ⟨c0, c1, c2, c3, c4, c5, c6, c7, -, -, -, -, -, c13, c14, -⟩ := hr.all
  rw [er] at c0 c1 c2 c3 c4 c5 c6 c7
  rw [es] at c13
  rw [ep] at c14
  exact ⟨a0, a1, a2, a3, a4, a5, a6, a7, a13, c0, c1, c2, c3, c4, c5, c6, c7, c13, c14⟩
def StackMid2 (x : Start) (p t : Int) (B : Option Addr) (d : Nat) (w : World) (s : Value) (wx : World) : Prop := ∃ g, wx.heap[w.heap.size]? = some (.cells (startCells (x.with (stackList p t)) B d (some ⟨g, 0, none⟩) 6) 29 (0, 0)) ∧ Below w.heap.size w wx ∧ Kd.C k33 wx (some ⟨g, 0, none⟩) 6 (stackList p t)
def StackMid (x : Start) (B : Option Addr) (d : Nat) (A : Option Addr) (c : Nat) (w : World) (s : Value) (wx : World) : Prop := s = .bool false ∧ wx.heap[w.heap.size]? = some (.cells (startCells x B d A c) 29 (0, 0)) ∧ Below w.heap.size w wx
theorem to_K {P : Program} {c : Code} {K : Act → World → Prop} {Q : Exit → Act → World → Prop} {a : Act} {w : World} (h : ∀ a w, Code.wp P c Q a w → K a w) (hc : Code.wp P c Q a w) : K a w := h a w hc
end Go.Proofs.Ytaiabehbappdaaa.Cpu
namespace Go.Proofs.Ytaiabehbappdaaa.Cpu
open Go Go.RowKit Go.Proofs.YtaiabehbappdaaaW.PrintWords Go.Proofs.Ytaiabehbappdaaa.PCpu
attribute [local go_sem ↓] Go.wp_at_zero Go.wp_at_succ
set_option maxRecDepth 100000 in
theorem Stack_E (x X : Start) (w w5 wc : World) (B A : Option Addr) (d c d2 c2 : Nat) (A2 : Option Addr) (p t : Int) (g mg m : Nat) (s1 s2 s3 s4 : St) (L2 : Loc) (v6 u16 u17 u18 u19 u20 u21 u22 u23 u24 u25 u26 u27 u28 u29 u30 u31 u32 u33 u34 u35 u36 u37 u38 u39 u40 u41 u42 u43 u44 u45 u46 u47 u48 u49 u50 u51 u52 u53 u54 u55 u56 u57 u58 u59 u60 u61 u62 u63 u64 u65 u66 u67 u68 u69 u70 u71 u72 u73 u74 u75 u76 u77 u78 u79 u80 u81 u82 u83 u84 u85 u86 u87 u88 u89 u90 u91 u92 u93 u94 u95 u96 u97 u98 u99 u100 u101 u102 u103 u104 u105 u106 u107 u108 u109 u110 u111 u112 u113 u114 u115 u116 u117 u118 u119 u120 u121 u122 u123 u124 u125 u126 u127 u128 u129 u130 u131 u132 u133 u134 u135 u136 u137 u138 u139 u140 u141 u142 u143 u144 u145 u146 u147 u148 u149 u150 u151 u152 u153 u154 u155 u156 u157 u158 u159 u160 u161 u162 u163 u164 u165 u166 u167 u168 u169 u170 u171 u172 u173 u174 u175 u176 u177 u178 u179 u180 u181 u182 u183 u184 u185 u186 u187 u188 u189 u190 u191 u192 u193 u194 u195 u196 u197 u198 : Value) (hm : m + 2 < 100000)
    (hA : At m w5.heap.size g w.heap.size (.cells (startCells X B d2 A2 c2) 29 (0, 0)) w5 wc s2 L2) (hB5 : Below w.heap.size w w5) (F : Four X.st s1 s2 s3 s4 t) (hXw : X.Wf) (t0 : 0 ≤ t) (t1 : t < 65536) :
    Code.wp Try.prog (cS 10) (bodyPost Try.prog Try.f6 (Yes w)) ⟨#[startV x B d A c, .int .u8 p, .int .u16 t, .pointer (some ⟨w.heap.size, 0, none⟩), undef, undef, v6, .pointer (some ⟨g, 0, none⟩), .pointer (some ⟨mg, 0, none⟩), .int .i64 0, .int .i64 0, .int .u16 (X.sp - 2), .int .i64 0, undef, undef, undef, u16, u17, u18, u19, u20, u21, u22, u23, u24, u25, u26, u27, u28, u29, u30, u31, u32, u33, u34, u35, u36, u37, u38, u39, u40, u41, u42, u43, u44, u45, u46, u47, u48, u49, u50, u51, u52, u53, u54, u55, u56, u57, u58, u59, u60, u61, u62, u63, u64, u65, u66, u67, u68, u69, u70, u71, u72, u73, u74, u75, u76, u77, u78, u79, u80, u81, u82, u83, u84, u85, u86, u87, u88, u89, u90, u91, u92, u93, u94, u95, u96, u97, u98, u99, u100, u101, u102, u103, u104, u105, u106, u107, u108, u109, u110, u111, u112, u113, u114, u115, u116, u117, u118, u119, u120, u121, u122, u123, u124, u125, u126, u127, u128, u129, u130, u131, u132, u133, u134, u135, u136, u137, u138, u139, u140, u141, u142, u143, u144, u145, u146, u147, u148, u149, u150, u151, u152, u153, u154, u155, u156, u157, u158, u159, u160, u161, u162, u163, u164, u165, u166, u167, u168, u169, u170, u171, u172, u173, u174, u175, u176, u177, u178, u179, u180, u181, u182, u183, u184, u185, u186, u187, u188, u189, u190, u191, u192, u193, u194, u195, u196, u197, u198], []⟩ wc := by
  have HA4 := Aside0.mk hA
  have HB5' := Aside0.mk hB5
  have HF := Aside0.mk F
  have eA := eqA22 (r := X.r) hXw.r
  have b0 := hXw.sp.1
  have b1 := hXw.sp.2
  clear hA hB5 F hXw
  conv => arg 2; whnf
  go_wp2_with fail
  refine (HA4.out.step (by omega)).mono ?_
  rintro e w9 ⟨rfl, L3, h3⟩
  rw [HF.out.a3] at h3 ⊢
  have HA5 := Aside0.mk h3
  have c14 : w9.cell? ⟨g, 14, none⟩ = some (.int .u16 t) := by have := h3.rep.c 14; rw [h3.g] at this; rw [← HF.out.pc3]; exact this
  clear h3
  go_wp2_with fail
  refine (HA5.out.step (by omega)).mono ?_
  rintro e w10 ⟨rfl, L4, h4⟩
  rw [HF.out.a4] at h4 ⊢
  have HA6 := Aside0.mk h4.drew
  have HBf := Aside0.mk (below_step HB5'.out h4.below).drew
  have R4 := Aside0.mk (show s4.r = X.r from HF.out.r4)
  have B4 := Aside0.mk (show s4.sp = X.sp from HF.out.b4)
  clear h4 c14
  go_wp2_with fail
  refine wp_region_still_tail 40 ?m1_ ?m2_ ?_
  case m1_ => kernel_rfl
  case m2_ => kernel_rfl
  simp only [List.append, List.take_succ_cons, List.take_zero, List.drop_succ_cons, List.drop_zero]
  change wpStill _ _ w10.drew (fun a' => wpList _ _ _ _ a' w10.drew) _ _
  generalize w10.drew = w14 at *
  obtain ⟨a0, a1, a2, a3, a4, a5, a6, a7, a13, c0, c1, c2, c3, c4, c5, c6, c7, c13, c14⟩ := two_rest HA6.out.box HA6.out.rep HA6.out.g R4.out B4.out HF.out.pc4
  iterate 40 (refine wpStill_go (by rfl) (fun K hK => ?_); have HK := Aside0.mk hK; clear hK; go_simp; refine Aside0.out HK _ ?_; clear HK K)
  refine wpStill_nil ?_
  go_wp2_with (go_at_call 11; refine (alive_c _).mono ?_; rintro e w16 ⟨rfl, hb⟩; have HBz := Aside0.mk hb; clear hb)
  go_ret
  exact ⟨rfl, below_step HBf.out HBz.out⟩
end Go.Proofs.Ytaiabehbappdaaa.Cpu
namespace Go.Proofs.Ytaiabehbappdaaa.Cpu
open Go Go.RowKit Go.Proofs.YtaiabehbappdaaaW.PrintWords Go.Proofs.Ytaiabehbappdaaa.PCpu
attribute [local go_sem ↓] Go.wp_at_zero Go.wp_at_succ
set_option maxRecDepth 100000 in
theorem Stack_D (x X : Start) (w w5 w7 : World) (B A : Option Addr) (d c d2 c2 : Nat) (A2 : Option Addr) (p t : Int) (g mg m : Nat) (s1 s2 s3 s4 : St) (L2 : Loc) (u16 u17 u18 u19 u20 u21 u22 u23 u24 u25 u26 u27 u28 u29 u30 u31 u32 u33 u34 u35 u36 u37 u38 u39 u40 u41 u42 u43 u44 u45 u46 u47 u48 u49 u50 u51 u52 u53 u54 u55 u56 u57 u58 u59 u60 u61 u62 u63 u64 u65 u66 u67 u68 u69 u70 u71 u72 u73 u74 u75 u76 u77 u78 u79 u80 u81 u82 u83 u84 u85 u86 u87 u88 u89 u90 u91 u92 u93 u94 u95 u96 u97 u98 u99 u100 u101 u102 u103 u104 u105 u106 u107 u108 u109 u110 u111 u112 u113 u114 u115 u116 u117 u118 u119 u120 u121 u122 u123 u124 u125 u126 u127 u128 u129 u130 u131 u132 u133 u134 u135 u136 u137 u138 u139 u140 u141 u142 u143 u144 u145 u146 u147 u148 u149 u150 u151 u152 u153 u154 u155 u156 u157 u158 u159 u160 u161 u162 u163 u164 u165 u166 u167 u168 u169 u170 u171 u172 u173 u174 u175 u176 u177 u178 u179 u180 u181 u182 u183 u184 u185 u186 u187 u188 u189 u190 u191 u192 u193 u194 u195 u196 u197 u198 : Value) (hm : m + 2 < 100000)
    (hA : At m w5.heap.size g w.heap.size (.cells (startCells X B d2 A2 c2) 29 (0, 0)) w5 w7 s2 L2) (hB5 : Below w.heap.size w w5) (F : Four X.st s1 s2 s3 s4 t) (hXw : X.Wf) (t0 : 0 ≤ t) (t1 : t < 65536) (hX256 : 256 ≤ X.sp) :
    Code.wp Try.prog (cS 9) (bodyPost Try.prog Try.f6 (Yes w)) ⟨#[startV x B d A c, .int .u8 p, .int .u16 t, .pointer (some ⟨w.heap.size, 0, none⟩), undef, undef, .bool false, .pointer (some ⟨g, 0, none⟩), .pointer (some ⟨mg, 0, none⟩), .int .i64 0, .int .i64 0, .int .u16 (X.sp - 2), .int .i64 0, undef, undef, undef, u16, u17, u18, u19, u20, u21, u22, u23, u24, u25, u26, u27, u28, u29, u30, u31, u32, u33, u34, u35, u36, u37, u38, u39, u40, u41, u42, u43, u44, u45, u46, u47, u48, u49, u50, u51, u52, u53, u54, u55, u56, u57, u58, u59, u60, u61, u62, u63, u64, u65, u66, u67, u68, u69, u70, u71, u72, u73, u74, u75, u76, u77, u78, u79, u80, u81, u82, u83, u84, u85, u86, u87, u88, u89, u90, u91, u92, u93, u94, u95, u96, u97, u98, u99, u100, u101, u102, u103, u104, u105, u106, u107, u108, u109, u110, u111, u112, u113, u114, u115, u116, u117, u118, u119, u120, u121, u122, u123, u124, u125, u126, u127, u128, u129, u130, u131, u132, u133, u134, u135, u136, u137, u138, u139, u140, u141, u142, u143, u144, u145, u146, u147, u148, u149, u150, u151, u152, u153, u154, u155, u156, u157, u158, u159, u160, u161, u162, u163, u164, u165, u166, u167, u168, u169, u170, u171, u172, u173, u174, u175, u176, u177, u178, u179, u180, u181, u182, u183, u184, u185, u186, u187, u188, u189, u190, u191, u192, u193, u194, u195, u196, u197, u198], []⟩ w7 := by
  have HA2 := Aside0.mk hA
  have HB5' := Aside0.mk hB5
  have HF := Aside0.mk F
  have eA := eqA22 (r := X.r) hXw.r
  have hX1 := hXw.sp.1
  have hX2 := hXw.sp.2
  have R2 := Aside0.mk (show s2.r = X.r from HF.out.r2)
  have F2 := Aside0.mk (show s2.f = X.f from HF.out.f2)
  have B2 := Aside0.mk (show s2.sp = X.sp from HF.out.b2)
  have HXw := Aside0.mk hXw
  clear hA hB5 F hXw
  have hsw : IntKind.u16.wrap (X.sp - 2) = X.sp - 2 := by rw [w16]; omega
  conv => arg 2; whnf
  conv => arg 4; dsimp only
  go_upto_region 11 with (fail)
  go_cut [147] (fun s wx => s = .bool false ∧ Below w7.heap.size w7 wx)
  case first =>
    go_region_held3 (fun w' => w'.cell? ⟨w.heap.size, 0, none⟩ = some (.int .u8 (X.r 0)) ∧ w'.cell? ⟨w.heap.size, 1, none⟩ = some (.int .u8 (X.r 1)) ∧ w'.cell? ⟨w.heap.size, 2, none⟩ = some (.int .u8 (X.r 2)) ∧ w'.cell? ⟨w.heap.size, 3, none⟩ = some (.int .u8 (X.r 3)) ∧ w'.cell? ⟨w.heap.size, 4, none⟩ = some (.int .u8 (X.r 4)) ∧ w'.cell? ⟨w.heap.size, 5, none⟩ = some (.int .u8 (X.r 5)) ∧ w'.cell? ⟨w.heap.size, 6, none⟩ = some (.int .u8 (X.r 6)) ∧ w'.cell? ⟨w.heap.size, 7, none⟩ = some (.int .u8 (X.r 7)) ∧ w'.cell? ⟨w.heap.size, 8, none⟩ = some (.bool X.f.s) ∧ w'.cell? ⟨w.heap.size, 9, none⟩ = some (.bool X.f.z) ∧ w'.cell? ⟨w.heap.size, 10, none⟩ = some (.bool X.f.a) ∧ w'.cell? ⟨w.heap.size, 11, none⟩ = some (.bool X.f.p) ∧ w'.cell? ⟨w.heap.size, 12, none⟩ = some (.bool X.f.c) ∧ w'.cell? ⟨w.heap.size, 13, none⟩ = some (.int .u16 X.sp) ∧ w'.cell? ⟨g, 0, none⟩ = some (.int .u8 (X.r 0)) ∧ w'.cell? ⟨g, 1, none⟩ = some (.int .u8 (X.r 1)) ∧ w'.cell? ⟨g, 2, none⟩ = some (.int .u8 (X.r 2)) ∧ w'.cell? ⟨g, 3, none⟩ = some (.int .u8 (X.r 3)) ∧ w'.cell? ⟨g, 4, none⟩ = some (.int .u8 (X.r 4)) ∧ w'.cell? ⟨g, 5, none⟩ = some (.int .u8 (X.r 5)) ∧ w'.cell? ⟨g, 6, none⟩ = some (.int .u8 (X.r 6)) ∧ w'.cell? ⟨g, 7, none⟩ = some (.int .u8 (X.r 7)) ∧ w'.cell? ⟨g, 8, none⟩ = some (.bool X.f.s) ∧ w'.cell? ⟨g, 9, none⟩ = some (.bool X.f.z) ∧ w'.cell? ⟨g, 10, none⟩ = some (.bool X.f.a) ∧ w'.cell? ⟨g, 11, none⟩ = some (.bool X.f.p) ∧ w'.cell? ⟨g, 12, none⟩ = some (.bool X.f.c) ∧ w'.cell? ⟨g, 13, none⟩ = some (.int .u16 X.sp)) (first | with_reducible exact two_all HA2.out.box HA2.out.rep HA2.out.g R2.out F2.out B2.out | with_reducible exact two_all HA2.out.drew.box HA2.out.drew.rep HA2.out.g R2.out F2.out B2.out | with_reducible exact two_all HA3.out.box HA3.out.rep HA3.out.g R2.out F2.out B2.out)
      ((go_at_call 24; refine (Back_c X.f _).mono ?_; rintro e w8 ⟨rfl, hb⟩; have HB8 := Aside0.mk hb; have HA3 := Aside0.mk (HA2.out.drew.made hb); clear hb))
    all_goals
      go_wp2_with fail
      go_meet
      exact ⟨rfl, below_step (W := w7.drew) (Below.refl _ _).drew HB8.out⟩
  case rest =>
    obtain ⟨rfl, hb⟩ := hcut
    have HA4 := Aside0.mk (HA2.out.made hb)
    clear hb
    go_upto_if 147 with (fail)
    go_cut [147] (fun s wx => At m w5.heap.size g w.heap.size (.cells (startCells X B d2 A2 c2) 29 (0, 0)) w5 wx s2 L2)
    case first =>
      go_wp2_with fail
      go_meet
      exact HA4.out
    case rest =>
      refine to_K (by assumption) ?_
      exact Stack_E x X w w5 wc B A d c d2 c2 A2 p t g mg m s1 s2 s3 s4 L2 u6 u16 u17 u18 u19 u20 u21 u22 u23 u24 u25 u26 u27 u28 u29 u30 u31 u32 u33 u34 u35 u36 u37 u38 u39 u40 u41 u42 u43 u44 u45 u46 u47 u48 u49 u50 u51 u52 u53 u54 u55 u56 u57 u58 u59 u60 u61 u62 u63 u64 u65 u66 u67 u68 u69 u70 u71 u72 u73 u74 u75 u76 u77 u78 u79 u80 u81 u82 u83 u84 u85 u86 u87 u88 u89 u90 u91 u92 u93 u94 u95 u96 u97 u98 u99 u100 u101 u102 u103 u104 u105 u106 u107 u108 u109 u110 u111 u112 u113 u114 u115 u116 u117 u118 u119 u120 u121 u122 u123 u124 u125 u126 u127 u128 u129 u130 u131 u132 u133 u134 u135 u136 u137 u138 u139 u140 u141 u142 u143 u144 u145 u146 u147 u148 u149 u150 u151 u152 u153 u154 u155 u156 u157 u158 u159 u160 u161 u162 u163 u164 u165 u166 u167 u168 u169 u170 u171 u172 u173 u174 u175 u176 u177 u178 u179 u180 u181 u182 u183 u184 u185 u186 u187 u188 u189 u190 u191 u192 u193 u194 u195 u196 u197 u198 hm hcut HB5'.out HF.out HXw.out t0 t1
end Go.Proofs.Ytaiabehbappdaaa.Cpu
namespace Go.Proofs.Ytaiabehbappdaaa.Cpu
open Go Go.RowKit Go.Proofs.YtaiabehbappdaaaW.PrintWords Go.Proofs.Ytaiabehbappdaaa.PCpu
attribute [local go_sem ↓] Go.wp_at_zero Go.wp_at_succ
set_option maxRecDepth 100000 in
theorem Stack_C (x : Start) (w w4 : World) (B A : Option Addr) (d c g : Nat) (p t : Int) (u16 u17 u18 u19 u20 u21 u22 u23 u24 u25 u26 u27 u28 u29 u30 u31 u32 u33 u34 u35 u36 u37 u38 u39 u40 u41 u42 u43 u44 u45 u46 u47 u48 u49 u50 u51 u52 u53 u54 u55 u56 u57 u58 u59 u60 u61 u62 u63 u64 u65 u66 u67 u68 u69 u70 u71 u72 u73 u74 u75 u76 u77 u78 u79 u80 u81 u82 u83 u84 u85 u86 u87 u88 u89 u90 u91 u92 u93 u94 u95 u96 u97 u98 u99 u100 u101 u102 u103 u104 u105 u106 u107 u108 u109 u110 u111 u112 u113 u114 u115 u116 u117 u118 u119 u120 u121 u122 u123 u124 u125 u126 u127 u128 u129 u130 u131 u132 u133 u134 u135 u136 u137 u138 u139 u140 u141 u142 u143 u144 u145 u146 u147 u148 u149 u150 u151 u152 u153 u154 u155 u156 u157 u158 u159 u160 u161 u162 u163 u164 u165 u166 u167 u168 u169 u170 u171 u172 u173 u174 u175 u176 u177 u178 u179 u180 u181 u182 u183 u184 u185 u186 u187 u188 u189 u190 u191 u192 u193 u194 u195 u196 u197 u198 : Value) (hx : x.Wf) (hat : StartAt w x B d A c) (p0 : 0 ≤ p) (n0 : x.ins.length ≤ 256) (n1 : p ≤ 3) (n2 : x.pc = 0) (n3 : 16 ≤ t) (n4 : 256 ≤ x.sp) (n5 : t ≤ 65000) (hap : ¬ (x.sp > t ∧ x.sp - t < 8))
    (hw : w4.heap[w.heap.size]? = some (.cells (startCells (x.with (stackList p t)) B d (some ⟨g, 0, none⟩) 6) 29 (0, 0))) (hb : Below w.heap.size w w4) (hC : Kd.C k33 w4 (some ⟨g, 0, none⟩) 6 (stackList p t)) :
    Code.wp Try.prog (cS 4) (bodyPost Try.prog Try.f6 (Yes w)) ⟨#[startV x B d A c, .int .u8 p, .int .u16 t, .pointer (some ⟨w.heap.size, 0, none⟩), undef, undef, .bool false, undef, undef, undef, undef, undef, undef, undef, undef, undef, u16, u17, u18, u19, u20, u21, u22, u23, u24, u25, u26, u27, u28, u29, u30, u31, u32, u33, u34, u35, u36, u37, u38, u39, u40, u41, u42, u43, u44, u45, u46, u47, u48, u49, u50, u51, u52, u53, u54, u55, u56, u57, u58, u59, u60, u61, u62, u63, u64, u65, u66, u67, u68, u69, u70, u71, u72, u73, u74, u75, u76, u77, u78, u79, u80, u81, u82, u83, u84, u85, u86, u87, u88, u89, u90, u91, u92, u93, u94, u95, u96, u97, u98, u99, u100, u101, u102, u103, u104, u105, u106, u107, u108, u109, u110, u111, u112, u113, u114, u115, u116, u117, u118, u119, u120, u121, u122, u123, u124, u125, u126, u127, u128, u129, u130, u131, u132, u133, u134, u135, u136, u137, u138, u139, u140, u141, u142, u143, u144, u145, u146, u147, u148, u149, u150, u151, u152, u153, u154, u155, u156, u157, u158, u159, u160, u161, u162, u163, u164, u165, u166, u167, u168, u169, u170, u171, u172, u173, u174, u175, u176, u177, u178, u179, u180, u181, u182, u183, u184, u185, u186, u187, u188, u189, u190, u191, u192, u193, u194, u195, u196, u197, u198], []⟩ w4 := by
  have HX := Aside0.mk hx
  have HAT := Aside0.mk hat
  have HW5 := Aside0.mk hw
  have HB5 := Aside0.mk hb
  have HC5 := Aside0.mk hC
  have HI := Aside0.mk n0
  have HK5 := Aside0.mk (stack_ok p0 n1 (by omega) n5)
  have HS5 := Aside0.mk (stack_four (x := x) hx n2 p0 n1 n3 n5 n4 hap)
  have HT := Aside0.mk (show 0 ≤ t ∧ t < 65536 by omega)
  clear hw hb hC n2 hap hx hat n0 p0 n1 n3 n5
  conv => arg 2; whnf
  conv => arg 4; dsimp only
  go_wp2_with (refine wpList_load_row rfl 29 _ rfl w.heap.size rfl 29 (startCells (x.with (stackList p t)) B d (some ⟨g, 0, none⟩) 6) (0, 0) _ HW5.out Try.underlying29 rfl size29 ?_)
  refine (Open_c (x.with (stackList p t)) w4 B (some ⟨g, 0, none⟩) d 6 (with_wf HX.out HK5.out) rfl HI.out (show 6 ≤ 100000 by decide) ⟨(HAT.out.below HB5.out).ins, HAT.out.inc, HC5.out, Nat.le_refl 6, fun b o e h => Nat.lt_of_lt_of_le (HAT.out.lt b o e h) HB5.out.size⟩).mono ?_
  rintro e w5 ⟨L, M, rfl, hr, hm, ha, hb, hf, hg⟩
  obtain ⟨s1, s2, s3, s4, F⟩ := HS5.out
  have ha0 := At.of (w0 := w4) hr hf hb hb.size (blk_below HW5.out hb) (blk_lt HW5.out) (Nat.le_refl 0)
  have HXw := Aside0.mk (with_wf HX.out HK5.out)
  have hX1 : 256 ≤ (x.with (stackList p t)).sp := n4
  clear n4 HW5 HC5 HK5 HS5 HX HAT HI
  generalize x.with (stackList p t) = X at *
  have hX2 := HXw.out.sp.2
  have HA0 := Aside0.mk ha0
  have HF := Aside0.mk F
  clear F hr hm ha hb hf hg ha0
  go_wp2_with fail
  refine (HA0.out.step (by decide)).mono ?_
  rintro e w6 ⟨rfl, L1, h1⟩
  rw [HF.out.a1] at h1 ⊢
  have HA1 := Aside0.mk h1
  have c13 : w6.cell? ⟨L.g, 13, none⟩ = some (.int .u16 s1.sp) := by have := h1.rep.c 13; rw [h1.g] at this; exact this
  rw [show s1.sp = X.sp - 2 from HF.out.b1] at c13
  clear h1
  go_upto_region 10 with (fail)
  go_cut [12] (fun s wx => s = .int .i64 0 ∧ ∃ L2, At 2 w4.heap.size L.g w.heap.size (.cells (startCells X B d (some ⟨g, 0, none⟩) 6) 29 (0, 0)) w4 wx s2 L2)
  case first =>
    go_wp2_with fail
    refine (HA1.out.step (by decide)).mono ?_
    rintro e w7 ⟨rfl, L2, h2⟩
    rw [HF.out.a2] at h2 ⊢
    have HA2 := Aside0.mk h2
    clear h2
    go_wp2_with fail
    go_meet
    exact ⟨rfl, L2, HA2.out⟩
  case rest =>
    obtain ⟨rfl, L2, hA2⟩ := hcut
    refine to_K (by assumption) ?_
    exact Stack_D x X w w4 _ B A d c d 6 (some ⟨g, 0, none⟩) p t L.g M.g 2 s1 s2 s3 s4 L2 u16 u17 u18 u19 u20 u21 u22 u23 u24 u25 u26 u27 u28 u29 u30 u31 u32 u33 u34 u35 u36 u37 u38 u39 u40 u41 u42 u43 u44 u45 u46 u47 u48 u49 u50 u51 u52 u53 u54 u55 u56 u57 u58 u59 u60 u61 u62 u63 u64 u65 u66 u67 u68 u69 u70 u71 u72 u73 u74 u75 u76 u77 u78 u79 u80 u81 u82 u83 u84 u85 u86 u87 u88 u89 u90 u91 u92 u93 u94 u95 u96 u97 u98 u99 u100 u101 u102 u103 u104 u105 u106 u107 u108 u109 u110 u111 u112 u113 u114 u115 u116 u117 u118 u119 u120 u121 u122 u123 u124 u125 u126 u127 u128 u129 u130 u131 u132 u133 u134 u135 u136 u137 u138 u139 u140 u141 u142 u143 u144 u145 u146 u147 u148 u149 u150 u151 u152 u153 u154 u155 u156 u157 u158 u159 u160 u161 u162 u163 u164 u165 u166 u167 u168 u169 u170 u171 u172 u173 u174 u175 u176 u177 u178 u179 u180 u181 u182 u183 u184 u185 u186 u187 u188 u189 u190 u191 u192 u193 u194 u195 u196 u197 u198 (by decide) hA2 HB5.out HF.out HXw.out HT.out.1 HT.out.2 hX1
end Go.Proofs.Ytaiabehbappdaaa.Cpu
namespace Go.Proofs.Ytaiabehbappdaaa.Cpu
open Go Go.RowKit Go.Proofs.YtaiabehbappdaaaW.PrintWords Go.Proofs.Ytaiabehbappdaaa.PCpu
attribute [local go_sem ↓] Go.wp_at_zero Go.wp_at_succ
set_option maxRecDepth 100000 in
theorem Stack_main (x : Start) (w : World) (B A : Option Addr) (d c : Nat) (p t : Int) (hx : x.Wf) (hat : StartAt w x B d A c) (p0 : 0 ≤ p) (t0 : 0 ≤ t) (hl : LightB x = true) (n0 : x.ins.length ≤ 256) (n1 : p ≤ 3) (n2 : x.pc = 0) (n3 : 16 ≤ t) (n4 : 256 ≤ x.sp) (n5 : t ≤ 65000) (hap : ¬ (x.sp > t ∧ x.sp - t < 8)) : Calls Try.prog 6 #[startV x B d A c, .int .u8 p, .int .u16 t] w (Yes w) := by
  have hm : x.ml.length ≤ 300 := (of_decide_eq_true hl).2
  have hsx : x.sp < 65536 := hx.sp.2
  have HL := Aside0.mk (Light_c x (w.alloc (.cells (startCells x B d A c) 29 (0, 0))) B A d c (by omega) (by omega))
  have HE := Aside0.mk hl
  have HX := Aside0.mk hx
  have HAT := Aside0.mk hat
  have HI := Aside0.mk n0
  have HPC := Aside0.mk n2
  have HAP := Aside0.mk hap
  have e0 : decide (256 < (x.ins.length : Int)) = false := decide_eq_false (by omega)
  have e1 : decide (3 < p) = false := decide_eq_false (by omega)
  have e2 : (x.pc != 0) = false := by simpa using n2
  have e3 : decide (t < 16) = false := decide_eq_false (by omega)
  have e4 : decide (x.sp < 256) = false := decide_eq_false (by omega)
  have e5 : decide (65000 < t) = false := decide_eq_false (by omega)
  clear hl hx hat hm n0 n2 hap
  go_enter Try.func6, Try.ntmps6
  go_upto_region 1 with (fail)
  go_cut [59] (fun s wx => StackMid x B d A c w s wx)
  case first =>
    by_cases hsp : t < x.sp
    · have hap := HAP.out
      have e6 : decide (t < x.sp) = true := decide_eq_true hsp
      have e7 : decide (IntKind.u16.wrap (x.sp - t) < 8) = false := decide_eq_false (by rw [w16]; omega)
      clear hap hsp n1 n3 n4 n5 p0 t0
      refine wp_region_lit ?_
      generalize hops : List.toArray _ = opsx
      have HOP := Aside0.mk hops
      clear hops
      refine wpList_load_row rfl 29 _ rfl w.heap.size rfl 29 (startCells x B d A c) (0, 0) _ (blk_new w _) Try.underlying29 rfl size29 ?_
      refine wpList_go (by rw [← HOP.out]; rfl) (fun K hK => ?_)
      have HK := Aside0.mk hK
      clear hK
      go_wp2_with ((go_at_call 10; refine HL.out.mono ?_; rintro e w1 ⟨rfl, hb⟩; have HB := Aside0.mk hb; have HW := Aside0.mk (blk_below (blk_new w (.cells (startCells x B d A c) 29 (0, 0))) hb); have c16 : w1.cell? ⟨w.heap.size, 16, none⟩ = some (.slice B x.ins.length d) := blk_cell HW.out 16; have c14 : w1.cell? ⟨w.heap.size, 14, none⟩ = some (.int .u16 x.pc) := blk_cell HW.out 14; have c13 : w1.cell? ⟨w.heap.size, 13, none⟩ = some (.int .u16 x.sp) := blk_cell HW.out 13; have c6 : w1.cell? ⟨w.heap.size, 6, none⟩ = some (.int .u8 (x.r 6)) := blk_cell HW.out 6; have z0 := blk_frozen HW.out; clear hb; rw [HE.out]))
      refine HK.out _ _ ?_
      clear HK K
      iterate 42 (refine wpList_go (by rw [← HOP.out]; rfl) (fun K hK => ?_); have HK := Aside0.mk hK; clear hK; go_simp; refine HK.out _ _ ?_; clear HK K)
      refine wpList_nil ?_
      go_wp2_with fail
      go_meet
      exact ⟨rfl, HW.out, below_step (below_alloc (Below.refl _ _) _) HB.out⟩
    · have e6 : decide (t < x.sp) = false := decide_eq_false hsp
      clear hsp n1 n3 n4 n5 p0 t0
      refine wp_region_lit ?_
      generalize hops : List.toArray _ = opsx
      have HOP := Aside0.mk hops
      clear hops
      refine wpList_load_row rfl 29 _ rfl w.heap.size rfl 29 (startCells x B d A c) (0, 0) _ (blk_new w _) Try.underlying29 rfl size29 ?_
      refine wpList_go (by rw [← HOP.out]; rfl) (fun K hK => ?_)
      have HK := Aside0.mk hK
      clear hK
      go_wp2_with ((go_at_call 10; refine HL.out.mono ?_; rintro e w1 ⟨rfl, hb⟩; have HB := Aside0.mk hb; have HW := Aside0.mk (blk_below (blk_new w (.cells (startCells x B d A c) 29 (0, 0))) hb); have c16 : w1.cell? ⟨w.heap.size, 16, none⟩ = some (.slice B x.ins.length d) := blk_cell HW.out 16; have c14 : w1.cell? ⟨w.heap.size, 14, none⟩ = some (.int .u16 x.pc) := blk_cell HW.out 14; have c13 : w1.cell? ⟨w.heap.size, 13, none⟩ = some (.int .u16 x.sp) := blk_cell HW.out 13; have c6 : w1.cell? ⟨w.heap.size, 6, none⟩ = some (.int .u8 (x.r 6)) := blk_cell HW.out 6; have z0 := blk_frozen HW.out; clear hb; rw [HE.out]))
      refine HK.out _ _ ?_
      clear HK K
      iterate 35 (refine wpList_go (by rw [← HOP.out]; rfl) (fun K hK => ?_); have HK := Aside0.mk hK; clear hK; go_simp; refine HK.out _ _ ?_; clear HK K)
      iterate 5 (refine wpList_skip (by rw [← HOP.out]; rfl) ?_; simp only [Act.put, List.setIfInBounds_toArray, List.set_cons_zero, List.set_cons_succ])
      iterate 2 (refine wpList_go (by rw [← HOP.out]; rfl) (fun K hK => ?_); have HK := Aside0.mk hK; clear hK; go_simp; refine HK.out _ _ ?_; clear HK K)
      refine wpList_nil ?_
      go_wp2_with fail
      go_meet
      exact ⟨rfl, HW.out, below_step (below_alloc (Below.refl _ _) _) HB.out⟩
  case rest =>
    obtain ⟨rfl, hw, hb⟩ := hcut
    have HW := Aside0.mk hw
    have HB := Aside0.mk hb
    have c6 : wc.cell? ⟨w.heap.size, 6, none⟩ = some (.int .u8 (x.r 6)) := blk_cell HW.out 6
    have c17 : wc.cell? ⟨w.heap.size, 17, none⟩ = some (.slice A x.ml.length c) := blk_cell HW.out 17
    have z0 := blk_frozen HW.out
    have ct : IntKind.u8.wrap t = t % 256 := by rw [IntKind.wrap_u8]
    have cu : IntKind.u8.wrap (t / 256) = t / 256 := by rw [IntKind.wrap_u8]; omega
    have H6 := Aside0.mk (blk_put (cs' := startCells x.zero6 B d A c) HW.out 6 (.int .u8 0) rfl)
    have a17 : ∀ o, ((wc.setCell ⟨w.heap.size, 6, none⟩ (.int .u8 0)).alloc o).cell? ⟨w.heap.size, 17, none⟩ = some (.slice A x.ml.length c) := fun o => blk_cell (blk_alloc H6.out o) 17
    have az : ∀ o, ((wc.setCell ⟨w.heap.size, 6, none⟩ (.int .u8 0)).alloc o).frozen? ⟨w.heap.size, 17, none⟩ = false := fun o => blk_frozen (blk_alloc H6.out o) 17
    clear hw hb c17
    go_upto_region 4 with (fail)
    have HB3 := Aside0.mk (show Below w.heap.size w (wc.setCell ⟨w.heap.size, 6, none⟩ (.int .u8 0)) from below_set HB.out (Nat.le_refl _))
    clear c6 z0 HW HB
    change Code.wp _ _ _ _ (World.setCell wc _ _)
    generalize World.setCell wc _ _ = w3 at *
    have H3 := H6
    clear H6
    go_cut [82] (fun s wx => StackMid2 x p t B d w s wx)
    case first =>
      rcases (by omega : p = 0 ∨ p = 1 ∨ p = 2 ∨ p = 3) with rfl | rfl | rfl | rfl
      · go_wp2_with fail
        go_meet
        refine ⟨w3.heap.size, blk_put (cs' := startCells (x.with (stackList 0 t)) B d (some ⟨w3.heap.size, 0, none⟩) 6) (blk_alloc H3.out (.cells #[.int .u16 0, .int .u8 197, .int .u16 1, .int .u8 193, .int .u16 2, .int .u8 205, .int .u16 3, .int .u8 (t % 256), .int .u16 4, .int .u8 (t / 256), .int .u16 t, .int .u8 201] 33 (0, 0))) 17 (.slice (some ⟨w3.heap.size, 0, none⟩) 6 6) rfl, below_set (below_alloc HB3.out _) (Nat.le_refl _), list_at (l := stackList 0 t) (cs := #[.int .u16 0, .int .u8 197, .int .u16 1, .int .u8 193, .int .u16 2, .int .u8 205, .int .u16 3, .int .u8 (t % 256), .int .u16 4, .int .u8 (t / 256), .int .u16 t, .int .u8 201]) (show 6 ≤ 1000000 by decide) ((Below.heap_setCell _ _ _ _ (Nat.ne_of_gt (blk_lt H3.out))).trans (blk_new w3 _)) rfl⟩
      · go_wp2_with fail
        go_meet
        refine ⟨w3.heap.size, blk_put (cs' := startCells (x.with (stackList 1 t)) B d (some ⟨w3.heap.size, 0, none⟩) 6) (blk_alloc H3.out (.cells #[.int .u16 0, .int .u8 213, .int .u16 1, .int .u8 209, .int .u16 2, .int .u8 205, .int .u16 3, .int .u8 (t % 256), .int .u16 4, .int .u8 (t / 256), .int .u16 t, .int .u8 201] 33 (0, 0))) 17 (.slice (some ⟨w3.heap.size, 0, none⟩) 6 6) rfl, below_set (below_alloc HB3.out _) (Nat.le_refl _), list_at (l := stackList 1 t) (cs := #[.int .u16 0, .int .u8 213, .int .u16 1, .int .u8 209, .int .u16 2, .int .u8 205, .int .u16 3, .int .u8 (t % 256), .int .u16 4, .int .u8 (t / 256), .int .u16 t, .int .u8 201]) (show 6 ≤ 1000000 by decide) ((Below.heap_setCell _ _ _ _ (Nat.ne_of_gt (blk_lt H3.out))).trans (blk_new w3 _)) rfl⟩
      · go_wp2_with fail
        go_meet
        refine ⟨w3.heap.size, blk_put (cs' := startCells (x.with (stackList 2 t)) B d (some ⟨w3.heap.size, 0, none⟩) 6) (blk_alloc H3.out (.cells #[.int .u16 0, .int .u8 229, .int .u16 1, .int .u8 225, .int .u16 2, .int .u8 205, .int .u16 3, .int .u8 (t % 256), .int .u16 4, .int .u8 (t / 256), .int .u16 t, .int .u8 201] 33 (0, 0))) 17 (.slice (some ⟨w3.heap.size, 0, none⟩) 6 6) rfl, below_set (below_alloc HB3.out _) (Nat.le_refl _), list_at (l := stackList 2 t) (cs := #[.int .u16 0, .int .u8 229, .int .u16 1, .int .u8 225, .int .u16 2, .int .u8 205, .int .u16 3, .int .u8 (t % 256), .int .u16 4, .int .u8 (t / 256), .int .u16 t, .int .u8 201]) (show 6 ≤ 1000000 by decide) ((Below.heap_setCell _ _ _ _ (Nat.ne_of_gt (blk_lt H3.out))).trans (blk_new w3 _)) rfl⟩
      · go_wp2_with fail
        go_meet
        refine ⟨w3.heap.size, blk_put (cs' := startCells (x.with (stackList 3 t)) B d (some ⟨w3.heap.size, 0, none⟩) 6) (blk_alloc H3.out (.cells #[.int .u16 0, .int .u8 245, .int .u16 1, .int .u8 241, .int .u16 2, .int .u8 205, .int .u16 3, .int .u8 (t % 256), .int .u16 4, .int .u8 (t / 256), .int .u16 t, .int .u8 201] 33 (0, 0))) 17 (.slice (some ⟨w3.heap.size, 0, none⟩) 6 6) rfl, below_set (below_alloc HB3.out _) (Nat.le_refl _), list_at (l := stackList 3 t) (cs := #[.int .u16 0, .int .u8 245, .int .u16 1, .int .u8 241, .int .u16 2, .int .u8 205, .int .u16 3, .int .u8 (t % 256), .int .u16 4, .int .u8 (t / 256), .int .u16 t, .int .u8 201]) (show 6 ≤ 1000000 by decide) ((Below.heap_setCell _ _ _ _ (Nat.ne_of_gt (blk_lt H3.out))).trans (blk_new w3 _)) rfl⟩
    case rest =>
      obtain ⟨g, hw, hb, hC⟩ := hcut
      refine to_K (by assumption) ?_
      exact Stack_C x w wc B A d c g p t u16 u17 u18 u19 u20 u21 u22 u23 u24 u25 u26 u27 u28 u29 u30 u31 u32 u33 u34 u35 u36 u37 u38 u39 u40 u41 u42 u43 u44 u45 u46 u47 u48 u49 u50 u51 u52 u53 u54 u55 u56 u57 u58 u59 u60 u61 u62 u63 u64 u65 u66 u67 u68 u69 u70 u71 u72 u73 u74 u75 u76 u77 u78 u79 u80 u81 u82 u83 u84 u85 u86 u87 u88 u89 u90 u91 u92 u93 u94 u95 u96 u97 u98 u99 u100 u101 u102 u103 u104 u105 u106 u107 u108 u109 u110 u111 u112 u113 u114 u115 u116 u117 u118 u119 u120 u121 u122 u123 u124 u125 u126 u127 u128 u129 u130 u131 u132 u133 u134 u135 u136 u137 u138 u139 u140 u141 u142 u143 u144 u145 u146 u147 u148 u149 u150 u151 u152 u153 u154 u155 u156 u157 u158 u159 u160 u161 u162 u163 u164 u165 u166 u167 u168 u169 u170 u171 u172 u173 u174 u175 u176 u177 u178 u179 u180 u181 u182 u183 u184 u185 u186 u187 u188 u189 u190 u191 u192 u193 u194 u195 u196 u197 u198 HX.out HAT.out p0 HI.out n1 HPC.out n3 n4 n5 HAP.out hw hb hC
end Go.Proofs.Ytaiabehbappdaaa.Cpu
namespace Go.Proofs.Ytaiabehbappdaaa.Cpu
open Go Go.RowKit Go.Proofs.YtaiabehbappdaaaW.PrintWords Go.Proofs.Ytaiabehbappdaaa.PCpu
attribute [local go_sem ↓] Go.wp_at_zero Go.wp_at_succ
set_option maxRecDepth 100000 in
theorem Stack_dark0 (x : Start) (w : World) (B A : Option Addr) (d c : Nat) (p t : Int) (h1 : x.ins.length ≤ 9223372036854775807) (h2 : x.ml.length ≤ 9223372036854775807) (t0 : 0 ≤ t) (t1 : t < 65536) (s0 : 0 ≤ x.sp) (s1 : x.sp < 65536) (hl : LightB x = false) : Calls Try.prog 6 #[startV x B d A c, .int .u8 p, .int .u16 t] w (Yes w) := by
  have HL := Aside0.mk (Light_c x (w.alloc (.cells (startCells x B d A c) 29 (0, 0))) B A d c h1 h2)
  have HE := Aside0.mk hl
  clear h1 h2 hl
  go_enter Try.func6, Try.ntmps6
  go_upto_region 1 with (fail)
  refine wp_region_lit ?_
  generalize hops : List.toArray _ = opsx
  have HOP := Aside0.mk hops
  clear hops
  refine wpList_load_row rfl 29 _ rfl w.heap.size rfl 29 (startCells x B d A c) (0, 0) _ (blk_new w _) Try.underlying29 rfl size29 ?_
  refine wpList_go (by rw [← HOP.out]; rfl) (fun K hK => ?_)
  have HK := Aside0.mk hK
  clear hK
  go_wp2_with ((go_at_call 10; refine HL.out.mono ?_; rintro e w1 ⟨rfl, hb⟩; have HB := Aside0.mk hb; have HW := Aside0.mk (blk_below (blk_new w (.cells (startCells x B d A c) 29 (0, 0))) hb); have c16 : w1.cell? ⟨w.heap.size, 16, none⟩ = some (.slice B x.ins.length d) := blk_cell HW.out 16; have c14 : w1.cell? ⟨w.heap.size, 14, none⟩ = some (.int .u16 x.pc) := blk_cell HW.out 14; have c13 : w1.cell? ⟨w.heap.size, 13, none⟩ = some (.int .u16 x.sp) := blk_cell HW.out 13; have c6 : w1.cell? ⟨w.heap.size, 6, none⟩ = some (.int .u8 (x.r 6)) := blk_cell HW.out 6; have z0 := blk_frozen HW.out; clear hb; rw [HE.out]))
  refine HK.out _ _ ?_
  clear HK K
  iterate 2 (refine wpList_go (by rw [← HOP.out]; rfl) (fun K hK => ?_); have HK := Aside0.mk hK; clear hK; go_simp; refine HK.out _ _ ?_; clear HK K)
  iterate 4 (refine wpList_skip (by rw [← HOP.out]; rfl) ?_; simp only [Act.put, List.setIfInBounds_toArray, List.set_cons_zero, List.set_cons_succ])
  iterate 2 (refine wpList_go (by rw [← HOP.out]; rfl) (fun K hK => ?_); have HK := Aside0.mk hK; clear hK; go_simp; refine HK.out _ _ ?_; clear HK K)
  iterate 2 (refine wpList_skip (by rw [← HOP.out]; rfl) ?_; simp only [Act.put, List.setIfInBounds_toArray, List.set_cons_zero, List.set_cons_succ])
  iterate 2 (refine wpList_go (by rw [← HOP.out]; rfl) (fun K hK => ?_); have HK := Aside0.mk hK; clear hK; go_simp; refine HK.out _ _ ?_; clear HK K)
  iterate 3 (refine wpList_skip (by rw [← HOP.out]; rfl) ?_; simp only [Act.put, List.setIfInBounds_toArray, List.set_cons_zero, List.set_cons_succ])
  iterate 2 (refine wpList_go (by rw [← HOP.out]; rfl) (fun K hK => ?_); have HK := Aside0.mk hK; clear hK; go_simp; refine HK.out _ _ ?_; clear HK K)
  iterate 2 (refine wpList_skip (by rw [← HOP.out]; rfl) ?_; simp only [Act.put, List.setIfInBounds_toArray, List.set_cons_zero, List.set_cons_succ])
  iterate 2 (refine wpList_go (by rw [← HOP.out]; rfl) (fun K hK => ?_); have HK := Aside0.mk hK; clear hK; go_simp; refine HK.out _ _ ?_; clear HK K)
  iterate 3 (refine wpList_skip (by rw [← HOP.out]; rfl) ?_; simp only [Act.put, List.setIfInBounds_toArray, List.set_cons_zero, List.set_cons_succ])
  iterate 2 (refine wpList_go (by rw [← HOP.out]; rfl) (fun K hK => ?_); have HK := Aside0.mk hK; clear hK; go_simp; refine HK.out _ _ ?_; clear HK K)
  iterate 2 (refine wpList_skip (by rw [← HOP.out]; rfl) ?_; simp only [Act.put, List.setIfInBounds_toArray, List.set_cons_zero, List.set_cons_succ])
  iterate 2 (refine wpList_go (by rw [← HOP.out]; rfl) (fun K hK => ?_); have HK := Aside0.mk hK; clear hK; go_simp; refine HK.out _ _ ?_; clear HK K)
  iterate 11 (refine wpList_skip (by rw [← HOP.out]; rfl) ?_; simp only [Act.put, List.setIfInBounds_toArray, List.set_cons_zero, List.set_cons_succ])
  iterate 1 (refine wpList_go (by rw [← HOP.out]; rfl) (fun K hK => ?_); have HK := Aside0.mk hK; clear hK; go_simp; refine HK.out _ _ ?_; clear HK K)
  refine wpList_nil ?_
  go_wp2_with ((go_at_call 11; refine (alive_c _).mono ?_; rintro e w2 ⟨rfl, hb⟩; have HB2 := Aside0.mk hb; clear hb))
  go_ret
  exact ⟨rfl, below_step (below_step (below_alloc (Below.refl _ _) _) HB.out) HB2.out⟩
set_option maxRecDepth 100000 in
theorem Stack_dark1 (x : Start) (w : World) (B A : Option Addr) (d c : Nat) (p t : Int) (h1 : x.ins.length ≤ 9223372036854775807) (h2 : x.ml.length ≤ 9223372036854775807) (t0 : 0 ≤ t) (t1 : t < 65536) (s0 : 0 ≤ x.sp) (s1 : x.sp < 65536) (hl : LightB x = true) (n0 : ¬ x.ins.length ≤ 256) : Calls Try.prog 6 #[startV x B d A c, .int .u8 p, .int .u16 t] w (Yes w) := by
  have HL := Aside0.mk (Light_c x (w.alloc (.cells (startCells x B d A c) 29 (0, 0))) B A d c h1 h2)
  have HE := Aside0.mk hl
  have e0 : decide (256 < (x.ins.length : Int)) = true := decide_eq_true (by omega)
  clear h1 h2 hl n0
  go_enter Try.func6, Try.ntmps6
  go_upto_region 1 with (fail)
  refine wp_region_lit ?_
  generalize hops : List.toArray _ = opsx
  have HOP := Aside0.mk hops
  clear hops
  refine wpList_load_row rfl 29 _ rfl w.heap.size rfl 29 (startCells x B d A c) (0, 0) _ (blk_new w _) Try.underlying29 rfl size29 ?_
  refine wpList_go (by rw [← HOP.out]; rfl) (fun K hK => ?_)
  have HK := Aside0.mk hK
  clear hK
  go_wp2_with ((go_at_call 10; refine HL.out.mono ?_; rintro e w1 ⟨rfl, hb⟩; have HB := Aside0.mk hb; have HW := Aside0.mk (blk_below (blk_new w (.cells (startCells x B d A c) 29 (0, 0))) hb); have c16 : w1.cell? ⟨w.heap.size, 16, none⟩ = some (.slice B x.ins.length d) := blk_cell HW.out 16; have c14 : w1.cell? ⟨w.heap.size, 14, none⟩ = some (.int .u16 x.pc) := blk_cell HW.out 14; have c13 : w1.cell? ⟨w.heap.size, 13, none⟩ = some (.int .u16 x.sp) := blk_cell HW.out 13; have c6 : w1.cell? ⟨w.heap.size, 6, none⟩ = some (.int .u8 (x.r 6)) := blk_cell HW.out 6; have z0 := blk_frozen HW.out; clear hb; rw [HE.out]))
  refine HK.out _ _ ?_
  clear HK K
  iterate 8 (refine wpList_go (by rw [← HOP.out]; rfl) (fun K hK => ?_); have HK := Aside0.mk hK; clear hK; go_simp; refine HK.out _ _ ?_; clear HK K)
  iterate 2 (refine wpList_skip (by rw [← HOP.out]; rfl) ?_; simp only [Act.put, List.setIfInBounds_toArray, List.set_cons_zero, List.set_cons_succ])
  iterate 2 (refine wpList_go (by rw [← HOP.out]; rfl) (fun K hK => ?_); have HK := Aside0.mk hK; clear hK; go_simp; refine HK.out _ _ ?_; clear HK K)
  iterate 3 (refine wpList_skip (by rw [← HOP.out]; rfl) ?_; simp only [Act.put, List.setIfInBounds_toArray, List.set_cons_zero, List.set_cons_succ])
  iterate 2 (refine wpList_go (by rw [← HOP.out]; rfl) (fun K hK => ?_); have HK := Aside0.mk hK; clear hK; go_simp; refine HK.out _ _ ?_; clear HK K)
  iterate 2 (refine wpList_skip (by rw [← HOP.out]; rfl) ?_; simp only [Act.put, List.setIfInBounds_toArray, List.set_cons_zero, List.set_cons_succ])
  iterate 2 (refine wpList_go (by rw [← HOP.out]; rfl) (fun K hK => ?_); have HK := Aside0.mk hK; clear hK; go_simp; refine HK.out _ _ ?_; clear HK K)
  iterate 3 (refine wpList_skip (by rw [← HOP.out]; rfl) ?_; simp only [Act.put, List.setIfInBounds_toArray, List.set_cons_zero, List.set_cons_succ])
  iterate 2 (refine wpList_go (by rw [← HOP.out]; rfl) (fun K hK => ?_); have HK := Aside0.mk hK; clear hK; go_simp; refine HK.out _ _ ?_; clear HK K)
  iterate 2 (refine wpList_skip (by rw [← HOP.out]; rfl) ?_; simp only [Act.put, List.setIfInBounds_toArray, List.set_cons_zero, List.set_cons_succ])
  iterate 2 (refine wpList_go (by rw [← HOP.out]; rfl) (fun K hK => ?_); have HK := Aside0.mk hK; clear hK; go_simp; refine HK.out _ _ ?_; clear HK K)
  iterate 11 (refine wpList_skip (by rw [← HOP.out]; rfl) ?_; simp only [Act.put, List.setIfInBounds_toArray, List.set_cons_zero, List.set_cons_succ])
  iterate 1 (refine wpList_go (by rw [← HOP.out]; rfl) (fun K hK => ?_); have HK := Aside0.mk hK; clear hK; go_simp; refine HK.out _ _ ?_; clear HK K)
  refine wpList_nil ?_
  go_wp2_with ((go_at_call 11; refine (alive_c _).mono ?_; rintro e w2 ⟨rfl, hb⟩; have HB2 := Aside0.mk hb; clear hb))
  go_ret
  exact ⟨rfl, below_step (below_step (below_alloc (Below.refl _ _) _) HB.out) HB2.out⟩
set_option maxRecDepth 100000 in
theorem Stack_dark2 (x : Start) (w : World) (B A : Option Addr) (d c : Nat) (p t : Int) (h1 : x.ins.length ≤ 9223372036854775807) (h2 : x.ml.length ≤ 9223372036854775807) (t0 : 0 ≤ t) (t1 : t < 65536) (s0 : 0 ≤ x.sp) (s1 : x.sp < 65536) (hl : LightB x = true) (n0 : x.ins.length ≤ 256) (n1 : ¬ p ≤ 3) : Calls Try.prog 6 #[startV x B d A c, .int .u8 p, .int .u16 t] w (Yes w) := by
  have HL := Aside0.mk (Light_c x (w.alloc (.cells (startCells x B d A c) 29 (0, 0))) B A d c h1 h2)
  have HE := Aside0.mk hl
  have e0 : decide (256 < (x.ins.length : Int)) = false := decide_eq_false (by omega)
  have e1 : decide (3 < p) = true := decide_eq_true (by omega)
  clear h1 h2 hl n0 n1
  go_enter Try.func6, Try.ntmps6
  go_upto_region 1 with (fail)
  refine wp_region_lit ?_
  generalize hops : List.toArray _ = opsx
  have HOP := Aside0.mk hops
  clear hops
  refine wpList_load_row rfl 29 _ rfl w.heap.size rfl 29 (startCells x B d A c) (0, 0) _ (blk_new w _) Try.underlying29 rfl size29 ?_
  refine wpList_go (by rw [← HOP.out]; rfl) (fun K hK => ?_)
  have HK := Aside0.mk hK
  clear hK
  go_wp2_with ((go_at_call 10; refine HL.out.mono ?_; rintro e w1 ⟨rfl, hb⟩; have HB := Aside0.mk hb; have HW := Aside0.mk (blk_below (blk_new w (.cells (startCells x B d A c) 29 (0, 0))) hb); have c16 : w1.cell? ⟨w.heap.size, 16, none⟩ = some (.slice B x.ins.length d) := blk_cell HW.out 16; have c14 : w1.cell? ⟨w.heap.size, 14, none⟩ = some (.int .u16 x.pc) := blk_cell HW.out 14; have c13 : w1.cell? ⟨w.heap.size, 13, none⟩ = some (.int .u16 x.sp) := blk_cell HW.out 13; have c6 : w1.cell? ⟨w.heap.size, 6, none⟩ = some (.int .u8 (x.r 6)) := blk_cell HW.out 6; have z0 := blk_frozen HW.out; clear hb; rw [HE.out]))
  refine HK.out _ _ ?_
  clear HK K
  iterate 12 (refine wpList_go (by rw [← HOP.out]; rfl) (fun K hK => ?_); have HK := Aside0.mk hK; clear hK; go_simp; refine HK.out _ _ ?_; clear HK K)
  iterate 3 (refine wpList_skip (by rw [← HOP.out]; rfl) ?_; simp only [Act.put, List.setIfInBounds_toArray, List.set_cons_zero, List.set_cons_succ])
  iterate 2 (refine wpList_go (by rw [← HOP.out]; rfl) (fun K hK => ?_); have HK := Aside0.mk hK; clear hK; go_simp; refine HK.out _ _ ?_; clear HK K)
  iterate 2 (refine wpList_skip (by rw [← HOP.out]; rfl) ?_; simp only [Act.put, List.setIfInBounds_toArray, List.set_cons_zero, List.set_cons_succ])
  iterate 2 (refine wpList_go (by rw [← HOP.out]; rfl) (fun K hK => ?_); have HK := Aside0.mk hK; clear hK; go_simp; refine HK.out _ _ ?_; clear HK K)
  iterate 3 (refine wpList_skip (by rw [← HOP.out]; rfl) ?_; simp only [Act.put, List.setIfInBounds_toArray, List.set_cons_zero, List.set_cons_succ])
  iterate 2 (refine wpList_go (by rw [← HOP.out]; rfl) (fun K hK => ?_); have HK := Aside0.mk hK; clear hK; go_simp; refine HK.out _ _ ?_; clear HK K)
  iterate 2 (refine wpList_skip (by rw [← HOP.out]; rfl) ?_; simp only [Act.put, List.setIfInBounds_toArray, List.set_cons_zero, List.set_cons_succ])
  iterate 2 (refine wpList_go (by rw [← HOP.out]; rfl) (fun K hK => ?_); have HK := Aside0.mk hK; clear hK; go_simp; refine HK.out _ _ ?_; clear HK K)
  iterate 11 (refine wpList_skip (by rw [← HOP.out]; rfl) ?_; simp only [Act.put, List.setIfInBounds_toArray, List.set_cons_zero, List.set_cons_succ])
  iterate 1 (refine wpList_go (by rw [← HOP.out]; rfl) (fun K hK => ?_); have HK := Aside0.mk hK; clear hK; go_simp; refine HK.out _ _ ?_; clear HK K)
  refine wpList_nil ?_
  go_wp2_with ((go_at_call 11; refine (alive_c _).mono ?_; rintro e w2 ⟨rfl, hb⟩; have HB2 := Aside0.mk hb; clear hb))
  go_ret
  exact ⟨rfl, below_step (below_step (below_alloc (Below.refl _ _) _) HB.out) HB2.out⟩
set_option maxRecDepth 100000 in
theorem Stack_dark3 (x : Start) (w : World) (B A : Option Addr) (d c : Nat) (p t : Int) (h1 : x.ins.length ≤ 9223372036854775807) (h2 : x.ml.length ≤ 9223372036854775807) (t0 : 0 ≤ t) (t1 : t < 65536) (s0 : 0 ≤ x.sp) (s1 : x.sp < 65536) (hl : LightB x = true) (n0 : x.ins.length ≤ 256) (n1 : p ≤ 3) (n2 : ¬ x.pc = 0) : Calls Try.prog 6 #[startV x B d A c, .int .u8 p, .int .u16 t] w (Yes w) := by
  have HL := Aside0.mk (Light_c x (w.alloc (.cells (startCells x B d A c) 29 (0, 0))) B A d c h1 h2)
  have HE := Aside0.mk hl
  have e0 : decide (256 < (x.ins.length : Int)) = false := decide_eq_false (by omega)
  have e1 : decide (3 < p) = false := decide_eq_false (by omega)
  have e2 : (x.pc != 0) = true := by simpa using n2
  clear h1 h2 hl n0 n1 n2
  go_enter Try.func6, Try.ntmps6
  go_upto_region 1 with (fail)
  refine wp_region_lit ?_
  generalize hops : List.toArray _ = opsx
  have HOP := Aside0.mk hops
  clear hops
  refine wpList_load_row rfl 29 _ rfl w.heap.size rfl 29 (startCells x B d A c) (0, 0) _ (blk_new w _) Try.underlying29 rfl size29 ?_
  refine wpList_go (by rw [← HOP.out]; rfl) (fun K hK => ?_)
  have HK := Aside0.mk hK
  clear hK
  go_wp2_with ((go_at_call 10; refine HL.out.mono ?_; rintro e w1 ⟨rfl, hb⟩; have HB := Aside0.mk hb; have HW := Aside0.mk (blk_below (blk_new w (.cells (startCells x B d A c) 29 (0, 0))) hb); have c16 : w1.cell? ⟨w.heap.size, 16, none⟩ = some (.slice B x.ins.length d) := blk_cell HW.out 16; have c14 : w1.cell? ⟨w.heap.size, 14, none⟩ = some (.int .u16 x.pc) := blk_cell HW.out 14; have c13 : w1.cell? ⟨w.heap.size, 13, none⟩ = some (.int .u16 x.sp) := blk_cell HW.out 13; have c6 : w1.cell? ⟨w.heap.size, 6, none⟩ = some (.int .u8 (x.r 6)) := blk_cell HW.out 6; have z0 := blk_frozen HW.out; clear hb; rw [HE.out]))
  refine HK.out _ _ ?_
  clear HK K
  iterate 17 (refine wpList_go (by rw [← HOP.out]; rfl) (fun K hK => ?_); have HK := Aside0.mk hK; clear hK; go_simp; refine HK.out _ _ ?_; clear HK K)
  iterate 2 (refine wpList_skip (by rw [← HOP.out]; rfl) ?_; simp only [Act.put, List.setIfInBounds_toArray, List.set_cons_zero, List.set_cons_succ])
  iterate 2 (refine wpList_go (by rw [← HOP.out]; rfl) (fun K hK => ?_); have HK := Aside0.mk hK; clear hK; go_simp; refine HK.out _ _ ?_; clear HK K)
  iterate 3 (refine wpList_skip (by rw [← HOP.out]; rfl) ?_; simp only [Act.put, List.setIfInBounds_toArray, List.set_cons_zero, List.set_cons_succ])
  iterate 2 (refine wpList_go (by rw [← HOP.out]; rfl) (fun K hK => ?_); have HK := Aside0.mk hK; clear hK; go_simp; refine HK.out _ _ ?_; clear HK K)
  iterate 2 (refine wpList_skip (by rw [← HOP.out]; rfl) ?_; simp only [Act.put, List.setIfInBounds_toArray, List.set_cons_zero, List.set_cons_succ])
  iterate 2 (refine wpList_go (by rw [← HOP.out]; rfl) (fun K hK => ?_); have HK := Aside0.mk hK; clear hK; go_simp; refine HK.out _ _ ?_; clear HK K)
  iterate 11 (refine wpList_skip (by rw [← HOP.out]; rfl) ?_; simp only [Act.put, List.setIfInBounds_toArray, List.set_cons_zero, List.set_cons_succ])
  iterate 1 (refine wpList_go (by rw [← HOP.out]; rfl) (fun K hK => ?_); have HK := Aside0.mk hK; clear hK; go_simp; refine HK.out _ _ ?_; clear HK K)
  refine wpList_nil ?_
  go_wp2_with ((go_at_call 11; refine (alive_c _).mono ?_; rintro e w2 ⟨rfl, hb⟩; have HB2 := Aside0.mk hb; clear hb))
  go_ret
  exact ⟨rfl, below_step (below_step (below_alloc (Below.refl _ _) _) HB.out) HB2.out⟩
set_option maxRecDepth 100000 in
theorem Stack_dark4 (x : Start) (w : World) (B A : Option Addr) (d c : Nat) (p t : Int) (h1 : x.ins.length ≤ 9223372036854775807) (h2 : x.ml.length ≤ 9223372036854775807) (t0 : 0 ≤ t) (t1 : t < 65536) (s0 : 0 ≤ x.sp) (s1 : x.sp < 65536) (hl : LightB x = true) (n0 : x.ins.length ≤ 256) (n1 : p ≤ 3) (n2 : x.pc = 0) (n3 : ¬ 16 ≤ t) : Calls Try.prog 6 #[startV x B d A c, .int .u8 p, .int .u16 t] w (Yes w) := by
  have HL := Aside0.mk (Light_c x (w.alloc (.cells (startCells x B d A c) 29 (0, 0))) B A d c h1 h2)
  have HE := Aside0.mk hl
  have e0 : decide (256 < (x.ins.length : Int)) = false := decide_eq_false (by omega)
  have e1 : decide (3 < p) = false := decide_eq_false (by omega)
  have e2 : (x.pc != 0) = false := by simpa using n2
  have e3 : decide (t < 16) = true := decide_eq_true (by omega)
  clear h1 h2 hl n0 n1 n2 n3
  go_enter Try.func6, Try.ntmps6
  go_upto_region 1 with (fail)
  refine wp_region_lit ?_
  generalize hops : List.toArray _ = opsx
  have HOP := Aside0.mk hops
  clear hops
  refine wpList_load_row rfl 29 _ rfl w.heap.size rfl 29 (startCells x B d A c) (0, 0) _ (blk_new w _) Try.underlying29 rfl size29 ?_
  refine wpList_go (by rw [← HOP.out]; rfl) (fun K hK => ?_)
  have HK := Aside0.mk hK
  clear hK
  go_wp2_with ((go_at_call 10; refine HL.out.mono ?_; rintro e w1 ⟨rfl, hb⟩; have HB := Aside0.mk hb; have HW := Aside0.mk (blk_below (blk_new w (.cells (startCells x B d A c) 29 (0, 0))) hb); have c16 : w1.cell? ⟨w.heap.size, 16, none⟩ = some (.slice B x.ins.length d) := blk_cell HW.out 16; have c14 : w1.cell? ⟨w.heap.size, 14, none⟩ = some (.int .u16 x.pc) := blk_cell HW.out 14; have c13 : w1.cell? ⟨w.heap.size, 13, none⟩ = some (.int .u16 x.sp) := blk_cell HW.out 13; have c6 : w1.cell? ⟨w.heap.size, 6, none⟩ = some (.int .u8 (x.r 6)) := blk_cell HW.out 6; have z0 := blk_frozen HW.out; clear hb; rw [HE.out]))
  refine HK.out _ _ ?_
  clear HK K
  iterate 21 (refine wpList_go (by rw [← HOP.out]; rfl) (fun K hK => ?_); have HK := Aside0.mk hK; clear hK; go_simp; refine HK.out _ _ ?_; clear HK K)
  iterate 3 (refine wpList_skip (by rw [← HOP.out]; rfl) ?_; simp only [Act.put, List.setIfInBounds_toArray, List.set_cons_zero, List.set_cons_succ])
  iterate 2 (refine wpList_go (by rw [← HOP.out]; rfl) (fun K hK => ?_); have HK := Aside0.mk hK; clear hK; go_simp; refine HK.out _ _ ?_; clear HK K)
  iterate 2 (refine wpList_skip (by rw [← HOP.out]; rfl) ?_; simp only [Act.put, List.setIfInBounds_toArray, List.set_cons_zero, List.set_cons_succ])
  iterate 2 (refine wpList_go (by rw [← HOP.out]; rfl) (fun K hK => ?_); have HK := Aside0.mk hK; clear hK; go_simp; refine HK.out _ _ ?_; clear HK K)
  iterate 11 (refine wpList_skip (by rw [← HOP.out]; rfl) ?_; simp only [Act.put, List.setIfInBounds_toArray, List.set_cons_zero, List.set_cons_succ])
  iterate 1 (refine wpList_go (by rw [← HOP.out]; rfl) (fun K hK => ?_); have HK := Aside0.mk hK; clear hK; go_simp; refine HK.out _ _ ?_; clear HK K)
  refine wpList_nil ?_
  go_wp2_with ((go_at_call 11; refine (alive_c _).mono ?_; rintro e w2 ⟨rfl, hb⟩; have HB2 := Aside0.mk hb; clear hb))
  go_ret
  exact ⟨rfl, below_step (below_step (below_alloc (Below.refl _ _) _) HB.out) HB2.out⟩
set_option maxRecDepth 100000 in
theorem Stack_dark5 (x : Start) (w : World) (B A : Option Addr) (d c : Nat) (p t : Int) (h1 : x.ins.length ≤ 9223372036854775807) (h2 : x.ml.length ≤ 9223372036854775807) (t0 : 0 ≤ t) (t1 : t < 65536) (s0 : 0 ≤ x.sp) (s1 : x.sp < 65536) (hl : LightB x = true) (n0 : x.ins.length ≤ 256) (n1 : p ≤ 3) (n2 : x.pc = 0) (n3 : 16 ≤ t) (n4 : ¬ 256 ≤ x.sp) : Calls Try.prog 6 #[startV x B d A c, .int .u8 p, .int .u16 t] w (Yes w) := by
  have HL := Aside0.mk (Light_c x (w.alloc (.cells (startCells x B d A c) 29 (0, 0))) B A d c h1 h2)
  have HE := Aside0.mk hl
  have e0 : decide (256 < (x.ins.length : Int)) = false := decide_eq_false (by omega)
  have e1 : decide (3 < p) = false := decide_eq_false (by omega)
  have e2 : (x.pc != 0) = false := by simpa using n2
  have e3 : decide (t < 16) = false := decide_eq_false (by omega)
  have e4 : decide (x.sp < 256) = true := decide_eq_true (by omega)
  clear h1 h2 hl n0 n1 n2 n3 n4
  go_enter Try.func6, Try.ntmps6
  go_upto_region 1 with (fail)
  refine wp_region_lit ?_
  generalize hops : List.toArray _ = opsx
  have HOP := Aside0.mk hops
  clear hops
  refine wpList_load_row rfl 29 _ rfl w.heap.size rfl 29 (startCells x B d A c) (0, 0) _ (blk_new w _) Try.underlying29 rfl size29 ?_
  refine wpList_go (by rw [← HOP.out]; rfl) (fun K hK => ?_)
  have HK := Aside0.mk hK
  clear hK
  go_wp2_with ((go_at_call 10; refine HL.out.mono ?_; rintro e w1 ⟨rfl, hb⟩; have HB := Aside0.mk hb; have HW := Aside0.mk (blk_below (blk_new w (.cells (startCells x B d A c) 29 (0, 0))) hb); have c16 : w1.cell? ⟨w.heap.size, 16, none⟩ = some (.slice B x.ins.length d) := blk_cell HW.out 16; have c14 : w1.cell? ⟨w.heap.size, 14, none⟩ = some (.int .u16 x.pc) := blk_cell HW.out 14; have c13 : w1.cell? ⟨w.heap.size, 13, none⟩ = some (.int .u16 x.sp) := blk_cell HW.out 13; have c6 : w1.cell? ⟨w.heap.size, 6, none⟩ = some (.int .u8 (x.r 6)) := blk_cell HW.out 6; have z0 := blk_frozen HW.out; clear hb; rw [HE.out]))
  refine HK.out _ _ ?_
  clear HK K
  iterate 26 (refine wpList_go (by rw [← HOP.out]; rfl) (fun K hK => ?_); have HK := Aside0.mk hK; clear hK; go_simp; refine HK.out _ _ ?_; clear HK K)
  iterate 2 (refine wpList_skip (by rw [← HOP.out]; rfl) ?_; simp only [Act.put, List.setIfInBounds_toArray, List.set_cons_zero, List.set_cons_succ])
  iterate 2 (refine wpList_go (by rw [← HOP.out]; rfl) (fun K hK => ?_); have HK := Aside0.mk hK; clear hK; go_simp; refine HK.out _ _ ?_; clear HK K)
  iterate 11 (refine wpList_skip (by rw [← HOP.out]; rfl) ?_; simp only [Act.put, List.setIfInBounds_toArray, List.set_cons_zero, List.set_cons_succ])
  iterate 1 (refine wpList_go (by rw [← HOP.out]; rfl) (fun K hK => ?_); have HK := Aside0.mk hK; clear hK; go_simp; refine HK.out _ _ ?_; clear HK K)
  refine wpList_nil ?_
  go_wp2_with ((go_at_call 11; refine (alive_c _).mono ?_; rintro e w2 ⟨rfl, hb⟩; have HB2 := Aside0.mk hb; clear hb))
  go_ret
  exact ⟨rfl, below_step (below_step (below_alloc (Below.refl _ _) _) HB.out) HB2.out⟩
set_option maxRecDepth 100000 in
theorem Stack_dark6 (x : Start) (w : World) (B A : Option Addr) (d c : Nat) (p t : Int) (h1 : x.ins.length ≤ 9223372036854775807) (h2 : x.ml.length ≤ 9223372036854775807) (t0 : 0 ≤ t) (t1 : t < 65536) (s0 : 0 ≤ x.sp) (s1 : x.sp < 65536) (hl : LightB x = true) (n0 : x.ins.length ≤ 256) (n1 : p ≤ 3) (n2 : x.pc = 0) (n3 : 16 ≤ t) (n4 : 256 ≤ x.sp) (n5 : ¬ t ≤ 65000) : Calls Try.prog 6 #[startV x B d A c, .int .u8 p, .int .u16 t] w (Yes w) := by
  have HL := Aside0.mk (Light_c x (w.alloc (.cells (startCells x B d A c) 29 (0, 0))) B A d c h1 h2)
  have HE := Aside0.mk hl
  have e0 : decide (256 < (x.ins.length : Int)) = false := decide_eq_false (by omega)
  have e1 : decide (3 < p) = false := decide_eq_false (by omega)
  have e2 : (x.pc != 0) = false := by simpa using n2
  have e3 : decide (t < 16) = false := decide_eq_false (by omega)
  have e4 : decide (x.sp < 256) = false := decide_eq_false (by omega)
  have e5 : decide (65000 < t) = true := decide_eq_true (by omega)
  clear h1 h2 hl n0 n1 n2 n3 n4 n5
  go_enter Try.func6, Try.ntmps6
  go_upto_region 1 with (fail)
  refine wp_region_lit ?_
  generalize hops : List.toArray _ = opsx
  have HOP := Aside0.mk hops
  clear hops
  refine wpList_load_row rfl 29 _ rfl w.heap.size rfl 29 (startCells x B d A c) (0, 0) _ (blk_new w _) Try.underlying29 rfl size29 ?_
  refine wpList_go (by rw [← HOP.out]; rfl) (fun K hK => ?_)
  have HK := Aside0.mk hK
  clear hK
  go_wp2_with ((go_at_call 10; refine HL.out.mono ?_; rintro e w1 ⟨rfl, hb⟩; have HB := Aside0.mk hb; have HW := Aside0.mk (blk_below (blk_new w (.cells (startCells x B d A c) 29 (0, 0))) hb); have c16 : w1.cell? ⟨w.heap.size, 16, none⟩ = some (.slice B x.ins.length d) := blk_cell HW.out 16; have c14 : w1.cell? ⟨w.heap.size, 14, none⟩ = some (.int .u16 x.pc) := blk_cell HW.out 14; have c13 : w1.cell? ⟨w.heap.size, 13, none⟩ = some (.int .u16 x.sp) := blk_cell HW.out 13; have c6 : w1.cell? ⟨w.heap.size, 6, none⟩ = some (.int .u8 (x.r 6)) := blk_cell HW.out 6; have z0 := blk_frozen HW.out; clear hb; rw [HE.out]))
  refine HK.out _ _ ?_
  clear HK K
  iterate 30 (refine wpList_go (by rw [← HOP.out]; rfl) (fun K hK => ?_); have HK := Aside0.mk hK; clear hK; go_simp; refine HK.out _ _ ?_; clear HK K)
  iterate 11 (refine wpList_skip (by rw [← HOP.out]; rfl) ?_; simp only [Act.put, List.setIfInBounds_toArray, List.set_cons_zero, List.set_cons_succ])
  iterate 1 (refine wpList_go (by rw [← HOP.out]; rfl) (fun K hK => ?_); have HK := Aside0.mk hK; clear hK; go_simp; refine HK.out _ _ ?_; clear HK K)
  refine wpList_nil ?_
  go_wp2_with ((go_at_call 11; refine (alive_c _).mono ?_; rintro e w2 ⟨rfl, hb⟩; have HB2 := Aside0.mk hb; clear hb))
  go_ret
  exact ⟨rfl, below_step (below_step (below_alloc (Below.refl _ _) _) HB.out) HB2.out⟩
set_option maxRecDepth 100000 in
theorem Stack_dark7 (x : Start) (w : World) (B A : Option Addr) (d c : Nat) (p t : Int) (h1 : x.ins.length ≤ 9223372036854775807) (h2 : x.ml.length ≤ 9223372036854775807) (t0 : 0 ≤ t) (t1 : t < 65536) (s0 : 0 ≤ x.sp) (s1 : x.sp < 65536) (hl : LightB x = true) (n0 : x.ins.length ≤ 256) (n1 : p ≤ 3) (n2 : x.pc = 0) (n3 : 16 ≤ t) (n4 : 256 ≤ x.sp) (n5 : t ≤ 65000) (hap : x.sp > t ∧ x.sp - t < 8) : Calls Try.prog 6 #[startV x B d A c, .int .u8 p, .int .u16 t] w (Yes w) := by
  have HL := Aside0.mk (Light_c x (w.alloc (.cells (startCells x B d A c) 29 (0, 0))) B A d c h1 h2)
  have HE := Aside0.mk hl
  have e0 : decide (256 < (x.ins.length : Int)) = false := decide_eq_false (by omega)
  have e1 : decide (3 < p) = false := decide_eq_false (by omega)
  have e2 : (x.pc != 0) = false := by simpa using n2
  have e3 : decide (t < 16) = false := decide_eq_false (by omega)
  have e4 : decide (x.sp < 256) = false := decide_eq_false (by omega)
  have e5 : decide (65000 < t) = false := decide_eq_false (by omega)
  have e6 : decide (t < x.sp) = true := decide_eq_true hap.1
  have e7 : decide (IntKind.u16.wrap (x.sp - t) < 8) = true := decide_eq_true (by rw [w16]; omega)
  clear h1 h2 hl n0 n1 n2 n3 n4 n5 hap
  go_enter Try.func6, Try.ntmps6
  go_upto_region 1 with (fail)
  refine wp_region_lit ?_
  generalize hops : List.toArray _ = opsx
  have HOP := Aside0.mk hops
  clear hops
  refine wpList_load_row rfl 29 _ rfl w.heap.size rfl 29 (startCells x B d A c) (0, 0) _ (blk_new w _) Try.underlying29 rfl size29 ?_
  refine wpList_go (by rw [← HOP.out]; rfl) (fun K hK => ?_)
  have HK := Aside0.mk hK
  clear hK
  go_wp2_with ((go_at_call 10; refine HL.out.mono ?_; rintro e w1 ⟨rfl, hb⟩; have HB := Aside0.mk hb; have HW := Aside0.mk (blk_below (blk_new w (.cells (startCells x B d A c) 29 (0, 0))) hb); have c16 : w1.cell? ⟨w.heap.size, 16, none⟩ = some (.slice B x.ins.length d) := blk_cell HW.out 16; have c14 : w1.cell? ⟨w.heap.size, 14, none⟩ = some (.int .u16 x.pc) := blk_cell HW.out 14; have c13 : w1.cell? ⟨w.heap.size, 13, none⟩ = some (.int .u16 x.sp) := blk_cell HW.out 13; have c6 : w1.cell? ⟨w.heap.size, 6, none⟩ = some (.int .u8 (x.r 6)) := blk_cell HW.out 6; have z0 := blk_frozen HW.out; clear hb; rw [HE.out]))
  refine HK.out _ _ ?_
  clear HK K
  iterate 42 (refine wpList_go (by rw [← HOP.out]; rfl) (fun K hK => ?_); have HK := Aside0.mk hK; clear hK; go_simp; refine HK.out _ _ ?_; clear HK K)
  refine wpList_nil ?_
  go_wp2_with ((go_at_call 11; refine (alive_c _).mono ?_; rintro e w2 ⟨rfl, hb⟩; have HB2 := Aside0.mk hb; clear hb))
  go_ret
  exact ⟨rfl, below_step (below_step (below_alloc (Below.refl _ _) _) HB.out) HB2.out⟩
end Go.Proofs.Ytaiabehbappdaaa.Cpu
namespace Go.Proofs.Ytaiabehbappdaaa.Cpu
open Go Go.RowKit Go.Proofs.YtaiabehbappdaaaW.PrintWords Go.Proofs.Ytaiabehbappdaaa.PCpu
attribute [local go_sem ↓] Go.wp_at_zero Go.wp_at_succ
theorem Stack_c (x : Start) (w : World) (B A : Option Addr) (d c : Nat) (p t : Int) (hx : x.Wf) (hat : StartAt w x B d A c) (h1 : x.ins.length ≤ 9223372036854775807) (h2 : x.ml.length ≤ 9223372036854775807) (wp : (Lit.int .u8 p).wf = true) (wt : (Lit.int .u16 t).wf = true) : Calls Try.prog 6 #[startV x B d A c, .int .u8 p, .int .u16 t] w (Yes w) := by
  have bp := byte_wf wp
  have bt := word_wf wt
  have s0 := hx.sp.1
  have s1 := hx.sp.2
  cases hl : LightB x with
  | false => exact Stack_dark0 x w B A d c p t h1 h2 bt.1 bt.2 s0 s1 hl
  | true =>
    by_cases n0 : x.ins.length ≤ 256
    · by_cases n1 : p ≤ 3
      · by_cases n2 : x.pc = 0
        · by_cases n3 : 16 ≤ t
          · by_cases n4 : 256 ≤ x.sp
            · by_cases n5 : t ≤ 65000
              · by_cases hap : x.sp > t ∧ x.sp - t < 8
                · exact Stack_dark7 x w B A d c p t h1 h2 bt.1 bt.2 s0 s1 hl n0 n1 n2 n3 n4 n5 hap
                · exact Stack_main x w B A d c p t hx hat bp.1 bt.1 hl n0 n1 n2 n3 n4 n5 hap
              · exact Stack_dark6 x w B A d c p t h1 h2 bt.1 bt.2 s0 s1 hl n0 n1 n2 n3 n4 n5
            · exact Stack_dark5 x w B A d c p t h1 h2 bt.1 bt.2 s0 s1 hl n0 n1 n2 n3 n4
          · exact Stack_dark4 x w B A d c p t h1 h2 bt.1 bt.2 s0 s1 hl n0 n1 n2 n3
        · exact Stack_dark3 x w B A d c p t h1 h2 bt.1 bt.2 s0 s1 hl n0 n1 n2
      · exact Stack_dark2 x w B A d c p t h1 h2 bt.1 bt.2 s0 s1 hl n0 n1
    · exact Stack_dark1 x w B A d c p t h1 h2 bt.1 bt.2 s0 s1 hl n0
end Go.Proofs.Ytaiabehbappdaaa.Cpu
namespace Go.Proofs.Ytaiabehbappdaaa.cpu80Stack
open Go.ChangeShapes Go.WideShapes Go.ChangeAt Go.RowKit
theorem own : ownKnob Try.prog.godebug = none := by kernel_rfl
theorem laidOut : laidOutB Try.prog = true := by kernel_rfl
set_option maxRecDepth 100000 in
theorem lifted (os : Os) (started : os.Started) (H : Type) (enc : TypeId × Value → H) :
    ReturnsInHanded {} Try.checked os 6 .any (Rows.cpu80StackSpec.pre6 enc Try.prog Try.f6 Rows.cpu80StackRow.domain false) (Rows.cpu80StackSpec.post enc Try.prog Try.f6 false true false false) := by
  refine returnsInHanded_of_change_sized (C := Try.checked) own started (by kernel_rfl) Try.func6
    (ChangeSpec.witness6 (enc := enc) (C := Try.checked) false ⟨#[], #[.agg #[.int .u8 0, .int .u8 0, .int .u8 0, .int .u8 0, .int .u8 0, .int .u8 0, .int .u8 0, .int .u8 0, .bool false, .bool false, .bool false, .bool false, .bool false, .int .u16 0, .int .u16 0, .bool false, .slice none 0 0, .slice none 0 0], .int .u8 0, .int .u16 0], []⟩ 8 (by kernel_rfl) (by kernel_rfl) (by kernel_rfl) (by kernel_rfl)) ?_
  intro W base args ds gs before hval0 hW hcnd hsz0 _
  have hval : ∀ (j : Nat) t v, Try.f6.params[j]? = some t → args[j]? = some v → Value.okWide Try.prog W .any base t v := hval0
  have hW' := hW
  obtain ⟨p, q, hA0, hV, rfl, hfz, hnd⟩ := hW
  have hA : DataW.TrodAll enc Try.prog W 0 (fun _ => true) true Try.f6.params.toList args.toList ds p := hA0
  rw [Try.params6] at hA hval
  obtain ⟨v0, vs0, d0, ds0, p0, q0, hargs, rfl, rfl, h0, r0⟩ := trodAll_cons hA
  obtain ⟨v1, vs1, d1, ds1, p1, q1, rfl, rfl, rfl, h1, r1⟩ := trodAll_cons r0
  obtain ⟨v2, vs2, d2, ds2, p2, q2, rfl, rfl, rfl, h2, r2⟩ := trodAll_cons r1
  obtain ⟨rfl, rfl, rfl⟩ := trodAll_nil r2
  obtain rfl : args = #[v0, v1, v2] := by cases args; simp_all
  obtain ⟨rfl, rfl⟩ := trodVars_none hV
  have k0 := h0
  have lt0 : ∀ x ∈ p0, x.block < W.heap.size := by obtain ⟨m, hm⟩ := k0; exact DataW.trod_lt m _ _ _ hm
  obtain ⟨x, B, A, d', c, rfl, hx, hat, hi, hm⟩ := Cpu.open_start (hval 0 29 v0 rfl rfl) h0
  obtain ⟨a1, rfl, rfl, rfl, w1⟩ := open_int Try.underlying5 (hval 1 5 v1 rfl rfl) h1
  obtain ⟨a2, rfl, rfl, rfl, w2⟩ := open_int Try.underlying25 (hval 2 25 v2 rfl rfl) h2
  clear hA0 hval0 hsz0
  refine (Cpu.Stack_c x W B A d' c a1 a2 hx hat hi hm w1 w2).mono fun e W' ⟨he, bel⟩ => ?_
  subst he
  exact ⟨_, rfl, _, _, _, [], _, [], hW', trodAll_mk1 (shut_bool Try.underlying4 _), (trodAll_cons_mk (Below.trod laidOut (by kernel_rfl) (of_decide_eq_true (by kernel_rfl)) k0 bel lt0) (trodAll_cons_mk (shut_int Try.underlying5 w1) (trodAll_cons_mk (shut_int Try.underlying25 w2) trodAll_mk0))), rfl, bel.frame _, fun h => by cases h⟩
theorem over : Rows.cpu80StackRow.holds Try.pinned (OpenSpec.ofChange Rows.cpu80StackSpec) :=
  OpenClaim.holds_of_wide 6 Try.f6 rfl rfl rfl rfl rfl rfl rfl ⟨rfl, rfl, rfl, rfl, rfl⟩ rfl rfl rfl rfl rfl (by kernel_rfl) Try.func6 (by kernel_rfl)
    (of_decide_eq_true (by kernel_rfl)) (by unfold Func.isWrapper; first | (rw [if_pos (by decide +kernel)]; kernel_rfl) | (rw [if_neg (by decide +kernel)]; exact ⟨rfl, rfl⟩))
    (fun os started H enc _ => lifted os started H enc)
theorem proved : Rows.Cpu80StackSaid := over
end Go.Proofs.Ytaiabehbappdaaa.cpu80Stack
namespace Go.Proofs.Ytaiabehbappdaaa
theorem cpu80Stack_holds : Rows.Cpu80StackSaid := cpu80Stack.proved
end Go.Proofs.Ytaiabehbappdaaa
