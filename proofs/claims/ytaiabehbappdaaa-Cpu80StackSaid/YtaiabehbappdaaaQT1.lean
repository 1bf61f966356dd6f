/- Own texts of this claim, merged by a program of the claim's own: what the claim's theorem reaches. -/
import Derived.Test.YtaiabehbappdaaaQT0
import Derived.Test.YtaiabehbappdaaaProg
import Derived.Below
import Derived.Deep.Draws
import Derived.Deep.AppendLies
import Derived.Maps.AppendAt
import Derived.OwnWalk
import Derived.Laws.BytesArg
import Derived.Laws.MakeOwn
import Derived.Laws.OwnMore
import Derived.Deep.OwnRows
import Derived.Tactics
import Derived.Lib.ConvBytes
import Derived.Laws.Slices
import Derived.WalkKit
import Derived.KernelRfl
import Derived.RowKit3
import Derived.Deep.LoopGhost
import Derived.Deep.QuietTactic
import Derived.BigQuiet
import Derived.WideLaws
import Derived.Deep.DeepCutAuto
import Derived.Deep.CutBlock
import Derived.Deep.RegionHeld3
import Derived.Laws.Rows
import Derived.Lib.AppendStr
import Derived.ArgAppend
import Derived.Laws.IdiomCopy
import Derived.OrdersHeld
import Derived.Laws.BitsLemmas
import Derived.RowKit
set_option linter.unusedVariables false
set_option linter.unusedSimpArgs false
set_option maxHeartbeats 4000000
namespace Go.Proofs.Ytaiabehbappdaaa.PCpu
open Go.RowKit Go.Proofs.YtaiabehbappdaaaW.PrintWords Go.Proofs.YtaiabehbappdaaaW.PrintLast Go.Proofs.YtaiabehbappdaaaW.PrintMore
attribute [local go_sem] max2_int min2_int max_two min_two max_three min_three max_four min_four   -- for this text's walks alone
def errW : Option Int → Value
  | none => .nilIface
  | some c => .iface 0 (.int .i64 c)
theorem errW_none : errW none = .nilIface := rfl
theorem errW_some (c : Int) : errW (some c) = .iface 0 (.int .i64 c) := rfl
theorem info5 : (Try.prog.info? 5).map (fun i => (i.zero, i.size, i.bytes)) = some (some (.int .u8 0), 1, 1) := by kernel_rfl
structure S33 where
  f0 : Int
  f1 : Int
def z33 : S33 := ⟨(0 : Int), (0 : Int)⟩
def k33 : Kd S33 := Kd.iso (Kd.pair (Kd.int .u16) (Kd.int .u8)) (fun x : S33 => (x.f0, x.f1))
theorem k33_open {w : World} {x : S33} {cs : List Value} (h : k33.K w x cs) : cs = [.int .u16 x.f0, .int .u8 x.f1] := by
  obtain ⟨_, _, rfl, rfl, rfl⟩ := h
  exact rfl
theorem k33_mk (w : World) (x : S33)  : k33.K w x [.int .u16 x.f0, .int .u8 x.f1] := ⟨[.int .u16 x.f0], [.int .u8 x.f1], rfl, rfl, rfl⟩
def rd_T33 (xs : List S33) (i : Int) : S33 := xs.getD i.toNat z33
theorem at_T33 {w : World} {A : Option Addr} {n : Nat} {xs : List S33} (h : Kd.C k33 w A n xs) (i : Int) (h0 : 0 ≤ i) (h1 : i < n) : ∃ ad , A = some ad ∧ w.cell? (ad.add (i.toNat * 2)) = some (.int .u16 (rd_T33 xs i).f0) ∧ w.cell? ⟨(ad.add (i.toNat * 2)).block, (ad.add (i.toNat * 2)).off + 1, none⟩ = some (.int .u8 (rd_T33 xs i).f1) := by
  obtain ⟨ad, c, e, _, hK, hc0⟩ := Kd.C_get h z33 i h0 h1
  have hc : ∀ j u, c[j]? = some u → w.cell? (ad.add (i.toNat * 2 + j)) = some u := hc0
  obtain rfl := k33_open hK
  exact ⟨ad, e, hc 0 _ rfl, by rw [← add_field _ _ 1 (by omega)]; exact hc 1 _ rfl⟩
end Go.Proofs.Ytaiabehbappdaaa.PCpu
namespace Go.Proofs.Ytaiabehbappdaaa.PCpu
open Go.RowKit Go.Proofs.YtaiabehbappdaaaW.PrintWords Go.Proofs.YtaiabehbappdaaaW.PrintLast Go.Proofs.YtaiabehbappdaaaW.PrintMore
attribute [local go_sem] max2_int min2_int max_two min_two max_three min_three max_four min_four   -- for this text's walks alone
def pidginlaw01_Own.f (a0_0 : Bool) (a0_1 : Bool) (a0_2 : Bool) (a0_3 : Bool) (a0_4 : Bool) : Option (Bool × Bool × Bool × Bool × Bool) := some (a0_0, a0_1, a0_2, a0_3, a0_4)
set_option maxHeartbeats 8000000 in
set_option maxRecDepth 100000 in
theorem pidginlaw01_Own.calls (a0_0 : Bool) (a0_1 : Bool) (a0_2 : Bool) (a0_3 : Bool) (a0_4 : Bool) (r1 : Bool) (r2 : Bool) (r3 : Bool) (r4 : Bool) (r5 : Bool) (w : World) (h : pidginlaw01_Own.f a0_0 a0_1 a0_2 a0_3 a0_4 = some (r1, r2, r3, r4, r5)) :
    Calls Try.prog 19 #[.agg #[.bool a0_0, .bool a0_1, .bool a0_2, .bool a0_3, .bool a0_4]] w fun e w' => e = .returned (.agg #[.bool r1, .bool r2, .bool r3, .bool r4, .bool r5]) ∧ Below w.heap.size w w' := by
  have hu24 := Try.underlying24
  have hu48 := Try.underlying48
  have HB := Aside0.mk (Below.refl w.heap.size w)
  have H : (some (a0_0, a0_1, a0_2, a0_3, a0_4)) = some (r1, r2, r3, r4, r5) := h
  clear h
  simp only [Option.some.injEq, Prod.mk.injEq] at H
  obtain ⟨rfl, rfl, rfl, rfl, rfl⟩ := H
  go_enter Try.func19, Try.ntmps19
  go_wp2_with (first | ((with_reducible refine gate_dst (N := 1) rfl ?_); refine box_event ?hg (N := 1) ?hd (cs := #[.bool a0_0, .bool a0_1, .bool a0_2, .bool a0_3, .bool a0_4]) (t := 24) ?hr ?_; (case hd => rfl); (case hg => rfl); (case hr => first | (go_simp; done) | (go_simp; rfl)); intro gb101 hg w2 hbox hb; have n0_ := Aside0.mk (below_step (by with_reducible repeat (first | exact HB.out | apply below_alloc | apply pw_below_drewN | apply below_drew1)) hb); have n1_ := Aside0.mk (hbox); have n2_ := Aside0.mk ((by rw [hg]; exact (below_size (by with_reducible repeat (first | exact HB.out | apply below_alloc | apply pw_below_drewN | apply below_drew1))) : w.heap.size ≤ gb101)); have n3_ := Aside0.mk ((by rw [hg]; exact (below_size (by with_reducible repeat (first | exact HB.out | apply below_alloc | apply pw_below_drewN | apply below_drew1))) : w.heap.size ≤ gb101)); clear HB; have HB := n0_; have BK101 := n1_; have GW101 := n2_; have GE101 := n3_; clear n0_ n1_ n2_ n3_; clear hb hbox hg) | ((with_reducible refine gate_dst (N := 2) rfl ?_); refine box_event ?hg (N := 2) ?hd (cs := #[.bool false, .bool false, .bool false, .bool false, .bool false]) (t := 48) ?hr ?_; (case hd => rfl); (case hg => rfl); (case hr => first | (go_simp; done) | (go_simp; rfl)); intro gb102 hg w3 hbox hb; have n0_ := Aside0.mk (blk_below (g := gb101) (o := .cells #[.bool a0_0, .bool a0_1, .bool a0_2, .bool a0_3, .bool a0_4] 24 (0, 0)) (by (with_reducible repeat (first | refine blk_drewN ?_ _ | refine blk_drew ?_ | refine blk_alloc ?_ _)); exact BK101.out) hb); have n1_ := Aside0.mk (below_step (by repeat (first | (with_reducible first | exact HB.out | apply below_alloc | apply pw_below_drewN | apply below_drew1 | refine below_set ?_ GE101.out) | exact HB.out)) hb); have n2_ := Aside0.mk (hbox); have n3_ := Aside0.mk ((by rw [hg]; exact (below_size (by repeat (first | (with_reducible first | exact HB.out | apply below_alloc | apply pw_below_drewN | apply below_drew1 | refine below_set ?_ GE101.out) | exact HB.out))) : w.heap.size ≤ gb102)); have n4_ := Aside0.mk ((by rw [hg]; exact (below_size (by repeat (first | (with_reducible first | exact HB.out | apply below_alloc | apply pw_below_drewN | apply below_drew1 | refine below_set ?_ GE101.out) | exact HB.out))) : w.heap.size ≤ gb102)); have n5_ := Aside0.mk ((by rw [hg]; exact Nat.ne_of_lt (blk_lt (g := gb101) (o := .cells #[.bool a0_0, .bool a0_1, .bool a0_2, .bool a0_3, .bool a0_4] 24 (0, 0)) (by (with_reducible repeat (first | refine blk_drewN ?_ _ | refine blk_drew ?_ | refine blk_alloc ?_ _)); exact BK101.out)) : gb101 ≠ gb102)); have n6_ := Aside0.mk ((by rw [hg]; exact Nat.ne_of_gt (blk_lt (g := gb101) (o := .cells #[.bool a0_0, .bool a0_1, .bool a0_2, .bool a0_3, .bool a0_4] 24 (0, 0)) (by (with_reducible repeat (first | refine blk_drewN ?_ _ | refine blk_drew ?_ | refine blk_alloc ?_ _)); exact BK101.out)) : gb102 ≠ gb101)); clear BK101; clear HB; have BK101 := n0_; have HB := n1_; have BK102 := n2_; have GW102 := n3_; have GE102 := n4_; have NB101_102 := n5_; have NB102_101 := n6_; clear n0_ n1_ n2_ n3_ n4_ n5_ n6_; clear hb hbox hg; have hnb4 := NB101_102.out; have hnc4 := NB102_101.out; have hcz5_0 : w3.cell? ⟨gb101, 0, none⟩ = some (.bool a0_0) := (blk_cell BK101.out 0).trans rfl; have hcz5_1 : w3.cell? ⟨gb101, 1, none⟩ = some (.bool a0_1) := (blk_cell BK101.out 1).trans rfl; have hcz5_2 : w3.cell? ⟨gb101, 2, none⟩ = some (.bool a0_2) := (blk_cell BK101.out 2).trans rfl; have hcz5_3 : w3.cell? ⟨gb101, 3, none⟩ = some (.bool a0_3) := (blk_cell BK101.out 3).trans rfl; have hcz5_4 : w3.cell? ⟨gb101, 4, none⟩ = some (.bool a0_4) := (blk_cell BK101.out 4).trans rfl; have hfz5_0 := blk_frozen BK101.out 0; have hfz5_1 := blk_frozen BK101.out 1; have hfz5_2 := blk_frozen BK101.out 2; have hfz5_3 := blk_frozen BK101.out 3; have hfz5_4 := blk_frozen BK101.out 4; have hcz6_0 : w3.cell? ⟨gb102, 0, none⟩ = some (.bool false) := (blk_cell BK102.out 0).trans rfl; have hcz6_1 : w3.cell? ⟨gb102, 1, none⟩ = some (.bool false) := (blk_cell BK102.out 1).trans rfl; have hcz6_2 : w3.cell? ⟨gb102, 2, none⟩ = some (.bool false) := (blk_cell BK102.out 2).trans rfl; have hcz6_3 : w3.cell? ⟨gb102, 3, none⟩ = some (.bool false) := (blk_cell BK102.out 3).trans rfl; have hcz6_4 : w3.cell? ⟨gb102, 4, none⟩ = some (.bool false) := (blk_cell BK102.out 4).trans rfl; have hfz6_0 := blk_frozen BK102.out 0; have hfz6_1 := blk_frozen BK102.out 1; have hfz6_2 := blk_frozen BK102.out 2; have hfz6_3 := blk_frozen BK102.out 3; have hfz6_4 := blk_frozen BK102.out 4))
  refine bodyPost_ret (results_cell_row rfl _ _ gb102 48 #[.bool a0_0, .bool a0_1, .bool a0_2, .bool a0_3, .bool a0_4] (0, 0) _ rfl (by (with_reducible repeat (first | refine blk_drewN ?_ _ | refine blk_drew ?_ | refine blk_alloc ?_ _)); refine blk_put (cs := #[.bool a0_0, .bool a0_1, .bool a0_2, .bool a0_3, .bool false]) ?_ 4 _ rfl; (with_reducible repeat (first | refine blk_drewN ?_ _ | refine blk_drew ?_ | refine blk_alloc ?_ _)); refine blk_put (cs := #[.bool a0_0, .bool a0_1, .bool a0_2, .bool false, .bool false]) ?_ 3 _ rfl; (with_reducible repeat (first | refine blk_drewN ?_ _ | refine blk_drew ?_ | refine blk_alloc ?_ _)); refine blk_put (cs := #[.bool a0_0, .bool a0_1, .bool false, .bool false, .bool false]) ?_ 2 _ rfl; (with_reducible repeat (first | refine blk_drewN ?_ _ | refine blk_drew ?_ | refine blk_alloc ?_ _)); refine blk_put (cs := #[.bool a0_0, .bool false, .bool false, .bool false, .bool false]) ?_ 1 _ rfl; (with_reducible repeat (first | refine blk_drewN ?_ _ | refine blk_drew ?_ | refine blk_alloc ?_ _)); refine blk_put (cs := #[.bool false, .bool false, .bool false, .bool false, .bool false]) ?_ 0 _ rfl; (with_reducible repeat (first | refine blk_drewN ?_ _ | refine blk_drew ?_ | refine blk_alloc ?_ _)); exact BK102.out) Try.underlying48 rfl (by kernel_rfl)) rfl ?_
  exact ⟨by first | rfl | (simp <;> rfl) | (simp [*] <;> rfl), by repeat (first | (with_reducible first | exact HB.out | apply below_alloc | apply pw_below_drewN | apply below_drew1 | refine below_set ?_ GE101.out | refine below_set ?_ GE102.out) | exact HB.out)⟩
def pidginlaw10_memory.l0 : Nat → List (S33) → List Int → Int → Option (List Int)
  | 0, _, _, _ => none
  | k + 1, x0, x3, x4 => if x4 < (x0.length : Int) then (if 0 ≤ x4 then (if 0 ≤ ((rd_T33 x0 x4).f0) then (if ((rd_T33 x0 x4).f0) < (x3.length : Int) then (pidginlaw10_memory.l0 k x0 (x3.set (((rd_T33 x0 x4).f0) : Int).toNat ((rd_T33 x0 x4).f1)) (wrap64 (x4 + 1))) else (none)) else (none)) else (none)) else (some x3)
def pidginlaw10_memory.f (k : Nat) (l0 : List (S33)) : Option (List Int) := if 65536 ≤ 281474976710656 then (pidginlaw10_memory.l0 k l0 (List.replicate 65536 0) 0) else (none)
def pidginlaw10_memory.T5 : Bool × List (List Nat × List Nat) := (true, [([], []), ([], []), ([], []), ([1, 2], [1, 2]), ([3], [3]), ([4], [4]), ([], []), ([], []), ([6, 7], [6, 7]), ([8], [8]), ([9], [9]), ([0, 5, 0, 1, 2, 3, 4, 5, 6, 7, 8, 9, 10], [0, 5]), ([11, 10, 0, 1, 2, 3, 4, 5, 6, 7, 8, 9, 10], [10, 11])])
def pidginlaw10_memory.B5 : List Nat := [0, 0, 0, 6, 14, 30, 0, 0, 192, 448, 960, 2047, 4095]
theorem pidginlaw10_memory.tab5 : rtab .any (opsOf Try.f25 5) = pidginlaw10_memory.T5 := by kernel_rfl
theorem pidginlaw10_memory.bits5 : waitsOk pidginlaw10_memory.T5.2 pidginlaw10_memory.B5 = true := by kernel_rfl
set_option maxHeartbeats 8000000 in
set_option maxRecDepth 100000 in
theorem pidginlaw10_memory.calls (k : Nat) (A0 : Option Addr) (c0 : Nat) (l0 : List (S33)) (r : List Int) (w : World) (hr0 : Kd.C k33 w A0 l0.length l0) (hc0 : l0.length ≤ c0) (h : pidginlaw10_memory.f k l0 = some r) :
    Calls Try.prog 25 #[.slice A0 l0.length c0] w fun e w' => ∃ v0_ : Value, e = .returned (v0_) ∧ Kd.R (Kd.int .u8) 5 w' w.heap.size (fun _ => True) v0_ r ∧ Below w.heap.size w w' := by
  have HR0 := Aside0.mk hr0
  have HC0 := Aside0.mk hc0
  clear hr0 hc0
  have HB := Aside0.mk (Below.refl w.heap.size w)
  have H : (if 65536 ≤ 281474976710656 then (pidginlaw10_memory.l0 k l0 (List.replicate 65536 0) 0) else (none)) = some r := h
  clear h
  by_cases c2 : 65536 ≤ 281474976710656
  · rw [if_pos c2] at H
    have c2b0 := eq_true c2
    have c2b1 : decide (65536 ≤ 281474976710656) = true := decide_eq_true c2
    clear c2
    obtain ⟨y103, hy103⟩ : ∃ y_ : List Int, y_ = (List.replicate 65536 0) := ⟨_, rfl⟩
    try rw [← hy103] at H
    have Ny103 := Aside0.mk hy103
    clear hy103
    have H' := Aside0.mk H
    clear H
    go_enter Try.func25, Try.ntmps25
    go_wp2_with (first | ((with_reducible refine gate_dst (N := 5) rfl ?_); refine Kd.R_make (Kd.int .u8) _ 5 rfl (N := 5) rfl 26 _ _ rfl 65536 rfl rfl Try.underlying26 (.int .u8 0) 1 info5 rfl (by decide) (by omega) 0 (ok := fun _ => True) (okp := fun _ => True) rfl (fun _ hk => hk) trivial (by omega) (by omega) (Below.refl _ _) (Nat.le_refl _) ?_; intro v104 w3 ho4 hb hg_ hnew_; clear hg_ hnew_; (first | rw [← Ny103.out] at ho4 | (simp only [Int.reduceToNat] at ho4; rw [← Ny103.out] at ho4)); have n0_ := Aside0.mk (Kd.R_lower ho4 (below_size (by with_reducible repeat (first | exact HB.out | apply below_alloc | apply pw_below_drewN | apply below_drew1)))); have n1_ := Aside0.mk (below_step (by with_reducible repeat (first | exact HB.out | apply below_alloc | apply pw_below_drewN | apply below_drew1)) hb); clear HB; have HO105 := n0_; have HB := n1_; clear n0_ n1_; clear hb ho4))
    go_loopg [4] k (fun kq v4 w' => ∃ (x3_1 : List Int) (x4_1 : Int), v4 = .int .i64 x4_1 ∧ Aside0 (pidginlaw10_memory.l0 kq l0 x3_1 x4_1 = some r) ∧ Aside0 (kq ≤ k) ∧ Aside0 (Kd.R (Kd.int .u8) 5 w' w.heap.size (fun _ => True) v104 x3_1) ∧ Aside0 (Below w.heap.size w w'))
    case atStart => exact ⟨(y103), (0), (by first | rfl | (simp; done) | (simp [*]; done)), H', ⟨Nat.le_refl _⟩, ⟨by (with_reducible repeat (first | apply Kd.R_alloc | apply Kd.R_drewN | apply Kd.R_drew)); exact HO105.out⟩, ⟨by with_reducible repeat (first | exact HB.out | apply below_alloc | apply pw_below_drewN | apply below_drew1)⟩⟩
    case round =>
      clear H'
      try clear c2
      try clear c2b0
      try clear c2b1
      try clear p2
      obtain ⟨x3_1, x4_1, rfl, HA, HK1, HO_3, HB⟩ := hrel
      cases gk with
      | zero => exact absurd HA.out (by simp [pidginlaw10_memory.l0])
      | succ k1 =>
        have H := HA.out
        clear HA
        simp only [pidginlaw10_memory.l0] at H
        by_cases c5 : x4_1 < (l0.length : Int)
        · rw [if_pos c5] at H
          have c5b0 : decide (x4_1 < (l0.length : Int)) = true := decide_eq_true c5
          clear c5
          by_cases c6 : 0 ≤ x4_1
          · rw [if_pos c6] at H
            have c6b0 : decide (0 ≤ x4_1) = true := decide_eq_true c6
            clear c6
            by_cases c7 : 0 ≤ ((rd_T33 l0 x4_1).f0)
            · rw [if_pos c7] at H
              have c7b0 : decide (0 ≤ ((rd_T33 l0 x4_1).f0)) = true := decide_eq_true c7
              clear c7
              by_cases c8 : ((rd_T33 l0 x4_1).f0) < (x3_1.length : Int)
              · rw [if_pos c8] at H
                have c8b0 : decide (((rd_T33 l0 x4_1).f0) < (x3_1.length : Int)) = true := decide_eq_true c8
                clear c8
                obtain ⟨y108, hy108⟩ : ∃ y_ : List Int, y_ = (x3_1.set (((rd_T33 l0 x4_1).f0) : Int).toNat ((rd_T33 l0 x4_1).f1)) := ⟨_, rfl⟩
                try rw [← hy108] at H
                have Ny108 := Aside0.mk hy108
                clear hy108
                have H' := Aside0.mk H
                clear H
                try go_wp2
                have n0_ := Aside0.mk (Kd.R_drew HO_3.out)
                have n1_ := Aside0.mk (below_drew1 HB.out)
                clear HO_3
                clear HB
                have HO_3 := n0_
                have HB := n1_
                clear n0_ n1_
                have p106 : 0 ≤ (x4_1 : Int) := of_decide_eq_true (by first | (with_reducible assumption) | assumption)
                have q106 : x4_1 < (l0.length : Int) := of_decide_eq_true (by first | (with_reducible assumption) | assumption)
                obtain ⟨ad106, e106, hx106_0, hx106_1⟩ := at_T33 HR0.out x4_1 p106 q106
                have hw106_1 := hx106_1
                have hw106_0 := hx106_0
                cases e106
                replace hx106_0 := (HB.out.cell (World.block_lt_of_cell? w _ hx106_0)).trans hx106_0
                replace hx106_1 := (HB.out.cell (World.block_lt_of_cell? w _ hx106_1)).trans hx106_1
                replace p106 := eq_true p106
                replace q106 := eq_true q106
                have p107 : 0 ≤ (x4_1 : Int) := of_decide_eq_true (by first | (with_reducible assumption) | assumption)
                have q107 : x4_1 < (l0.length : Int) := of_decide_eq_true (by first | (with_reducible assumption) | assumption)
                obtain ⟨ad107, e107, hx107_0, hx107_1⟩ := at_T33 HR0.out x4_1 p107 q107
                have hw107_1 := hx107_1
                have hw107_0 := hx107_0
                obtain rfl : ad106 = ad107 := (by injection e107)
                replace hx107_0 := (HB.out.cell (World.block_lt_of_cell? w _ hx107_0)).trans hx107_0
                replace hx107_1 := (HB.out.cell (World.block_lt_of_cell? w _ hx107_1)).trans hx107_1
                replace p107 := eq_true p107
                replace q107 := eq_true q107
                have p9 : 0 ≤ (((rd_T33 l0 x4_1).f0) : Int) := of_decide_eq_true (by first | (with_reducible assumption) | assumption)
                have q9 : (((rd_T33 l0 x4_1).f0) : Int) < ((x3_1.length : Int) : Int) := of_decide_eq_true (by first | (with_reducible assumption) | assumption)
                obtain ⟨go9, co9, eo9, gb9, gl9, cl9, HG9⟩ := Kd.R_form HO_3.out (by omega)
                (first | cases eo9 | (injection eo9 with ea_ en_ ec_; (first | subst ea_ | (injection ea_ with ea_; subst ea_)); subst ec_; clear en_))
                have GB9 := Aside0.mk gb9
                have GG9 := Aside0.mk HG9
                clear gb9 gl9 HG9
                obtain ⟨hx9_0, hf9_0⟩ := Kd.R_celln 0 HO_3.out (((rd_T33 l0 x4_1).f0) : Int) p9 q9
                replace p9 := eq_true p9
                replace q9 := eq_true q9
                have HP11 := Kd.R_putn HO_3.out (((rd_T33 l0 x4_1).f0) : Int) ((rd_T33 l0 x4_1).f1)
                rw [← Ny108.out] at HP11
                have HQ11 := Aside0.mk HP11
                clear HP11
                refine start_ (n := 13) (S := fun w' => w'.cell? (ad106.add ((x4_1).toNat * 2)) = some (.int .u16 ((rd_T33 l0 x4_1).f0)) ∧ w'.cell? ⟨(ad106.add ((x4_1).toNat * 2)).block, (ad106.add ((x4_1).toNat * 2)).off + 1, none⟩ = some (.int .u8 ((rd_T33 l0 x4_1).f1)) ∧ w'.cell? (ad106.add ((x4_1).toNat * 2)) = some (.int .u16 ((rd_T33 l0 x4_1).f0)) ∧ w'.cell? ⟨(ad106.add ((x4_1).toNat * 2)).block, (ad106.add ((x4_1).toNat * 2)).off + 1, none⟩ = some (.int .u8 ((rd_T33 l0 x4_1).f1))) (ds := [12]) #[false, false, false, false, false, false, false, false, false, false, false, false, false] (by kernel_rfl) rfl rfl ⟨((HB.out.cell (World.block_lt_of_cell? w _ hw106_0)).trans hw106_0), ((HB.out.cell (World.block_lt_of_cell? w _ hw106_1)).trans hw106_1), ((HB.out.cell (World.block_lt_of_cell? w _ hw107_0)).trans hw107_0), ((HB.out.cell (World.block_lt_of_cell? w _ hw107_1)).trans hw107_1)⟩ (fun hHeld => ?_); refine with_tabW pidginlaw10_memory.tab5 pidginlaw10_memory.bits5 (fun HT_ HW_ => ?_)
                generalize wr.drew = w10 at HO_3 HB GG9 HQ11 hf9_0 hx106_0 hx106_1 hx107_0 hx107_1 hx9_0 hHeld ⊢
                refine pure_ (i := 0) (N := some 12) (v := ?_) (a' := ?_) #[true, false, false, false, false, false, false, false, false, false, false, false, false] rfl rfl (any_of HT_.out (by kernel_rfl)) (fun _ _ _ h => h) (Or.inl ⟨by rfl, ?_⟩) ?_ ?_
                rotate_left
                · intro w'
                  go_simp
                  with_reducible rfl
                rotate_left
                · simp only [Act.put, List.setIfInBounds_toArray, List.set_cons_zero, List.set_cons_succ, i64_w, i32_w]
                  rfl
                refine pure_ (i := 1) (N := some 13) (v := ?_) (a' := ?_) #[true, true, false, false, false, false, false, false, false, false, false, false, false] rfl rfl (any_of HT_.out (by kernel_rfl)) (fun _ _ _ h => h) (Or.inl ⟨by rfl, ?_⟩) ?_ ?_
                rotate_left
                · intro w'
                  go_simp
                  with_reducible rfl
                rotate_left
                · simp only [Act.put, List.setIfInBounds_toArray, List.set_cons_zero, List.set_cons_succ, i64_w, i32_w]
                  rfl
                refine pure_ (i := 2) (N := some 14) (v := ?_) (a' := ?_) #[true, true, true, false, false, false, false, false, false, false, false, false, false] rfl rfl (any_of HT_.out (by kernel_rfl)) (fun _ _ _ h => h) (Or.inl ⟨by rfl, ?_⟩) ?_ ?_
                rotate_left
                · intro w'
                  go_simp
                  with_reducible rfl
                rotate_left
                · simp only [Act.put, List.setIfInBounds_toArray, List.set_cons_zero, List.set_cons_succ, i64_w, i32_w]
                  rfl
                refine pure_ (i := 3) (N := some 15) (v := ?_) (a' := ?_) #[true, true, true, true, false, false, false, false, false, false, false, false, false] rfl rfl (any_of HT_.out (by kernel_rfl)) (fun _ _ _ h => h) (Or.inl ⟨by rfl, ?_⟩) ?_ ?_
                rotate_left
                · intro w'
                  go_simp
                  with_reducible rfl
                rotate_left
                · simp only [Act.put, List.setIfInBounds_toArray, List.set_cons_zero, List.set_cons_succ, i64_w, i32_w]
                  rfl
                refine pure_ (i := 4) (N := some 16) (v := ?_) (a' := ?_) #[true, true, true, true, true, false, false, false, false, false, false, false, false] rfl rfl (any_of HT_.out (by kernel_rfl)) (fun _ _ _ h => h) (Or.inl ⟨by rfl, ?_⟩) ?_ ?_
                rotate_left
                · intro w'
                  go_simp
                  with_reducible rfl
                rotate_left
                · simp only [Act.put, List.setIfInBounds_toArray, List.set_cons_zero, List.set_cons_succ, i64_w, i32_w]
                  rfl
                refine pure_ (i := 6) (N := some 18) (v := ?_) (a' := ?_) #[true, true, true, true, true, false, true, false, false, false, false, false, false] rfl rfl (any_of HT_.out (by kernel_rfl)) (fun _ _ _ h => h) (Or.inl ⟨by rfl, ?_⟩) ?_ ?_
                rotate_left
                · intro w'
                  go_simp
                  with_reducible rfl
                rotate_left
                · simp only [Act.put, List.setIfInBounds_toArray, List.set_cons_zero, List.set_cons_succ, i64_w, i32_w]
                  rfl
                refine pure_ (i := 7) (N := some 19) (v := ?_) (a' := ?_) #[true, true, true, true, true, false, true, true, false, false, false, false, false] rfl rfl (any_of HT_.out (by kernel_rfl)) (fun _ _ _ h => h) (Or.inl ⟨by rfl, ?_⟩) ?_ ?_
                rotate_left
                · intro w'
                  go_simp
                  with_reducible rfl
                rotate_left
                · simp only [Act.put, List.setIfInBounds_toArray, List.set_cons_zero, List.set_cons_succ, i64_w, i32_w]
                  rfl
                refine pure_ (i := 8) (N := some 20) (v := ?_) (a' := ?_) #[true, true, true, true, true, false, true, true, true, false, false, false, false] rfl rfl (any_of HT_.out (by kernel_rfl)) (fun _ _ _ h => h) (Or.inl ⟨by rfl, ?_⟩) ?_ ?_
                rotate_left
                · intro w'
                  go_simp
                  with_reducible rfl
                rotate_left
                · simp only [Act.put, List.setIfInBounds_toArray, List.set_cons_zero, List.set_cons_succ, i64_w, i32_w]
                  rfl
                refine pure_ (i := 9) (N := some 21) (v := ?_) (a' := ?_) #[true, true, true, true, true, false, true, true, true, true, false, false, false] rfl rfl (any_of HT_.out (by kernel_rfl)) (fun _ _ _ h => h) (Or.inl ⟨by rfl, ?_⟩) ?_ ?_
                rotate_left
                · intro w'
                  go_simp
                  with_reducible rfl
                rotate_left
                · simp only [Act.put, List.setIfInBounds_toArray, List.set_cons_zero, List.set_cons_succ, i64_w, i32_w]
                  rfl
                refine take_ (i := 5) (N := some 17) (v := ?_) (a' := ?_) #[true, true, true, true, true, true, true, true, true, true, false, false, false] rfl rfl (take_ofW HT_.out HW_.out (by kernel_rfl)) (fun _ _ _ h => h) (Or.inl ⟨by rfl, ?_⟩) hHeld ?_ ?_
                rotate_left
                · rintro w' ⟨s0, s1, s2, s3⟩
                  go_simp
                  with_reducible rfl
                rotate_left
                · simp only [Act.put, List.setIfInBounds_toArray, List.set_cons_zero, List.set_cons_succ, i64_w, i32_w]
                  rfl
                refine take_ (i := 10) (N := some 22) (v := ?_) (a' := ?_) #[true, true, true, true, true, true, true, true, true, true, true, false, false] rfl rfl (take_ofW HT_.out HW_.out (by kernel_rfl)) (fun _ _ _ h => h) (Or.inl ⟨by rfl, ?_⟩) hHeld ?_ ?_
                rotate_left
                · rintro w' ⟨s0, s1, s2, s3⟩
                  go_simp
                  with_reducible rfl
                rotate_left
                · simp only [Act.put, List.setIfInBounds_toArray, List.set_cons_zero, List.set_cons_succ, i64_w, i32_w]
                  rfl
                refine pure_ (i := 11) (N := some 23) (v := ?_) (a' := ?_) #[true, true, true, true, true, true, true, true, true, true, true, true, false] rfl rfl (any_of HT_.out (by kernel_rfl)) (fun _ _ _ h => h) (Or.inl ⟨by rfl, ?_⟩) ?_ ?_
                rotate_left
                · intro w'
                  go_simp
                  with_reducible rfl
                rotate_left
                · simp only [Act.put, List.setIfInBounds_toArray, List.set_cons_zero, List.set_cons_succ, i64_w, i32_w]
                  rfl
                refine last_ (i := 12) (N := none) #[true, true, true, true, true, true, true, true, true, true, true, true, true] rfl rfl (one_of HT_.out (by kernel_rfl)) (by decide) (fun K hK => ?_)
                refine skip_ (w1 := ?_) (by rfl) rfl ?_ ?_
                rotate_left
                · go_simp
                  rfl
                refine hK.out _ _ ?_
                clear hK K
                refine done_ (done_of HT_.out (by kernel_rfl)) ?_
                try go_wp2
                go_roundg k1
                case measure => have := HK1.out; omega
                case rel => exact ⟨(y108), (wrap64 (x4_1 + 1)), (by first | rfl | (simp; done) | (simp [*]; done)), H', ⟨by have := HK1.out; omega⟩, ⟨by (with_reducible repeat (first | apply Kd.R_alloc | apply Kd.R_drewN | apply Kd.R_drew)); exact HQ11.out⟩, ⟨by repeat (first | (with_reducible first | exact HB.out | apply below_alloc | apply pw_below_drewN | apply below_drew1 | refine below_set ?_ GB9.out) | exact HB.out)⟩⟩
              · rw [if_neg c8] at H
                exact absurd H (by simp)
            · rw [if_neg c7] at H
              exact absurd H (by simp)
          · rw [if_neg c6] at H
            exact absurd H (by simp)
        · rw [if_neg c5] at H
          have c5b0 : decide (x4_1 < (l0.length : Int)) = false := decide_eq_false c5
          clear c5
          obtain rfl := Option.some.inj H
          go_wp2
          go_ret
          exact ⟨_, by first | rfl | (simp <;> rfl) | (simp [*] <;> rfl), by (with_reducible repeat (first | apply Kd.R_alloc | apply Kd.R_drewN | apply Kd.R_drew)); exact HO_3.out, by with_reducible repeat (first | exact HB.out | apply below_alloc | apply pw_below_drewN | apply below_drew1)⟩
  · rw [if_neg c2] at H
    exact absurd H (by simp)
def isa80_form.f (l0 : List ByteArray) : Option (List ByteArray) := some l0
set_option maxHeartbeats 8000000 in
set_option maxRecDepth 100000 in
theorem isa80_form.calls (P0_ : Nat → Prop) (u9000_ : Value) (l0 : List ByteArray) (r : List ByteArray) (w0 w : World) (hB : Below w0.heap.size w0 w) (ho0 : Kd.R Kd.string 9 w w0.heap.size P0_ u9000_ l0) (h : isa80_form.f l0 = some r) :
    Calls Try.prog 96 #[u9000_] w fun e w' => ∃ v0_ : Value, e = .returned (v0_) ∧ Kd.R Kd.string 9 w' w0.heap.size (fun k_ => (P0_ k_ ∨ w.heap.size ≤ k_)) v0_ r ∧ Below w0.heap.size w0 w' ∧ Kept w w' (fun k_ => P0_ k_) := by
  have HO0 := Aside0.mk (show Kd.R Kd.string 9 w w0.heap.size (fun k_ => (P0_ k_ ∨ w.heap.size ≤ k_)) u9000_ l0 from Kd.R_mono ho0 (fun k_ hk => (.inl hk)))
  have HK := Aside0.mk (Kept.refl w (fun k_ => P0_ k_))
  have HW0 := Aside0.mk hB.size
  have HB := Aside0.mk hB
  clear hB
  have H : (some l0) = some r := h
  clear h
  obtain rfl := Option.some.inj H
  go_enter Try.func96, Try.ntmps96
  go_wp2
  go_ret
  exact ⟨_, by first | rfl | (simp <;> rfl) | (simp [*] <;> rfl), by (with_reducible repeat (first | apply Kd.R_alloc | apply Kd.R_drewN | apply Kd.R_drew)); exact HO0.out, by with_reducible repeat (first | exact HB.out | apply below_alloc | apply pw_below_drewN | apply below_drew1), by repeat (first | (with_reducible first | exact HK.out | apply Kept.alloc | apply Kept.drewN | apply Kept.drew) | exact HK.out)⟩
def isa80_pick.f (a0 : Int) (l1 : List ByteArray) : Option (ByteArray) := if 0 ≤ a0 then (if a0 < (l1.length : Int) then (some (rdOf ByteArray.empty l1 a0)) else (none)) else (none)
set_option maxHeartbeats 8000000 in
set_option maxRecDepth 100000 in
theorem isa80_pick.calls (a0 : Int) (A1 : Option Addr) (c1 : Nat) (l1 : List ByteArray) (r : ByteArray) (w : World) (hr1 : Kd.C Kd.string w A1 l1.length l1) (hc1 : l1.length ≤ c1) (h : isa80_pick.f a0 l1 = some r) :
    Calls Try.prog 98 #[.int .u8 a0, .slice A1 l1.length c1] w fun e w' => e = .returned (.string r) ∧ Drawn0 w w' := by
  have HR1 := Aside0.mk hr1
  have HC1 := Aside0.mk hc1
  clear hr1 hc1
  have H : (if 0 ≤ a0 then (if a0 < (l1.length : Int) then (some (rdOf ByteArray.empty l1 a0)) else (none)) else (none)) = some r := h
  clear h
  by_cases c3 : 0 ≤ a0
  · rw [if_pos c3] at H
    have c3b0 : decide (0 ≤ a0) = true := decide_eq_true c3
    clear c3
    by_cases c4 : a0 < (l1.length : Int)
    · rw [if_pos c4] at H
      have c4b0 : decide (a0 < (l1.length : Int)) = true := decide_eq_true c4
      clear c4
      obtain rfl := Option.some.inj H
      have p109 : 0 ≤ (a0 : Int) := of_decide_eq_true (by first | (with_reducible assumption) | assumption)
      have q109 : a0 < (l1.length : Int) := of_decide_eq_true (by first | (with_reducible assumption) | assumption)
      obtain ⟨ad109, e109, hx109_0⟩ := Kd.at_string HR1.out a0 p109 q109
      cases e109
      replace p109 := eq_true p109
      replace q109 := eq_true q109
      go_enter Try.func98, Try.ntmps98
      go_wp2
      go_ret
      exact ⟨by first | rfl | (simp; done) | (simp [*]; done), by repeat (first | exact Drawn0.refl _ | apply Drawn0.step)⟩
    · rw [if_neg c4] at H
      exact absurd H (by simp)
  · rw [if_neg c3] at H
    exact absurd H (by simp)
def isa80_reg.f (a0 : Int) : Option (ByteArray) := (isa80_pick.f (Go.bits .and .u8 a0 7) (([(⟨#[66]⟩ : ByteArray), (⟨#[67]⟩ : ByteArray), (⟨#[68]⟩ : ByteArray), (⟨#[69]⟩ : ByteArray), (⟨#[72]⟩ : ByteArray), (⟨#[76]⟩ : ByteArray), (⟨#[77]⟩ : ByteArray), (⟨#[65]⟩ : ByteArray)] : List ByteArray))).bind fun t113 => (some t113)
set_option maxHeartbeats 8000000 in
set_option maxRecDepth 100000 in
theorem isa80_reg.calls (a0 : Int) (r : ByteArray) (w : World) (h : isa80_reg.f a0 = some r) :
    Calls Try.prog 97 #[.int .u8 a0] w fun e w' => e = .returned (.string r) ∧ Below w.heap.size w w' := by
  have HB := Aside0.mk (Below.refl w.heap.size w)
  have H : ((isa80_pick.f (Go.bits .and .u8 a0 7) (([(⟨#[66]⟩ : ByteArray), (⟨#[67]⟩ : ByteArray), (⟨#[68]⟩ : ByteArray), (⟨#[69]⟩ : ByteArray), (⟨#[72]⟩ : ByteArray), (⟨#[76]⟩ : ByteArray), (⟨#[77]⟩ : ByteArray), (⟨#[65]⟩ : ByteArray)] : List ByteArray))).bind fun t113 => (some t113)) = some r := h
  clear h
  obtain ⟨y110, hy110⟩ : ∃ y_ : List ByteArray, y_ = (([(⟨#[66]⟩ : ByteArray), (⟨#[67]⟩ : ByteArray), (⟨#[68]⟩ : ByteArray), (⟨#[69]⟩ : ByteArray), (⟨#[72]⟩ : ByteArray), (⟨#[76]⟩ : ByteArray), (⟨#[77]⟩ : ByteArray), (⟨#[65]⟩ : ByteArray)] : List ByteArray)) := ⟨_, rfl⟩
  try rw [← hy110] at H
  have Ny110 := Aside0.mk hy110
  clear hy110
  replace H := Option.bind_eq_some_iff.mp H
  obtain ⟨t113, A20, H⟩ := H
  have A2 := Aside0.mk A20
  clear A20
  obtain rfl := Option.some.inj H
  go_enter Try.func97, Try.ntmps97
  go_wp2_with (first | ((with_reducible refine gate_dst (N := 5) rfl ?_); refine Kd.R_lit Kd.string _ 9 ?hg (N := 5) ?hd (xs := ([⟨#[66]⟩, ⟨#[67]⟩, ⟨#[68]⟩, ⟨#[69]⟩, ⟨#[72]⟩, ⟨#[76]⟩, ⟨#[77]⟩, ⟨#[65]⟩] : List ByteArray)) (inner := [.string ⟨#[66]⟩, .string ⟨#[67]⟩, .string ⟨#[68]⟩, .string ⟨#[69]⟩, .string ⟨#[72]⟩, .string ⟨#[76]⟩, .string ⟨#[77]⟩, .string ⟨#[65]⟩]) (ok := fun _ => True) (okp := fun _ => True) ?hr ?hp (fun _ hk => hk) trivial (Below.refl _ _) (Nat.le_refl _) (by simp) ?_; (case hd => rfl); (case hg => rfl); (case hr => first | (go_simp; done) | (go_simp; rfl)); (case hp => exact (Reps.one (show Kd.M Kd.string _ _ _ ⟨#[66]⟩ [.string ⟨#[66]⟩] from rfl) (Reps.one (show Kd.M Kd.string _ _ _ ⟨#[67]⟩ [.string ⟨#[67]⟩] from rfl) (Reps.one (show Kd.M Kd.string _ _ _ ⟨#[68]⟩ [.string ⟨#[68]⟩] from rfl) (Reps.one (show Kd.M Kd.string _ _ _ ⟨#[69]⟩ [.string ⟨#[69]⟩] from rfl) (Reps.one (show Kd.M Kd.string _ _ _ ⟨#[72]⟩ [.string ⟨#[72]⟩] from rfl) (Reps.one (show Kd.M Kd.string _ _ _ ⟨#[76]⟩ [.string ⟨#[76]⟩] from rfl) (Reps.one (show Kd.M Kd.string _ _ _ ⟨#[77]⟩ [.string ⟨#[77]⟩] from rfl) (Reps.one (show Kd.M Kd.string _ _ _ ⟨#[65]⟩ [.string ⟨#[65]⟩] from rfl) (Reps.none _ _)))))))))); intro v111 w3 ho4 hb hg_ hnew_; clear hg_ hnew_; (first | rw [← Ny110.out] at ho4 | (simp only [Int.reduceToNat] at ho4; rw [← Ny110.out] at ho4)); have n0_ := Aside0.mk (Kd.R_lower ho4 (below_size (by with_reducible repeat (first | exact HB.out | apply below_alloc | apply pw_below_drewN | apply below_drew1)))); have n1_ := Aside0.mk (below_step (by with_reducible repeat (first | exact HB.out | apply below_alloc | apply pw_below_drewN | apply below_drew1)) hb); clear HB; have HO112 := n0_; have HB := n1_; clear n0_ n1_; clear hb ho4; obtain ⟨Ao5, co5, eo5⟩ := Kd.R_slice HO112.out; subst eo5) | ((with_reducible refine gate_callee (f := 98) rfl ?_); refine goesL_ (some 6) rfl rfl Try.func98 (by kernel_rfl) rfl #[.int .u8 (Go.bits .and .u8 a0 7), .slice Ao5 y110.length co5] rfl (by (try simp only [List.map_toArray, List.map_cons, List.map_nil]); first | done | rfl | (simp only [IntKind.wrap_u8, Int.emod_add_emod, Int.add_emod_emod] <;> rfl)) ?_; (with_reducible refine (isa80_pick.calls (Go.bits .and .u8 a0 7) _ _ y110 t113 _ ?side1 ?side2 A2.out).mono ?_); (case side1 => repeat (first | exact (Kd.R_reads' HO112.out).2.2 | (with_reducible refine Kd.C_alloc ?_ _) | (with_reducible refine Kd.C_drewN ?_ _) | (with_reducible refine Kd.C_drew ?_))); (case side2 => exact (Kd.R_reads' HO112.out).2.1); rintro e w' ⟨rfl, ⟨nd, rfl⟩⟩; refine ⟨_, rfl, ?_⟩))
  go_ret
  exact ⟨by first | rfl | (simp <;> rfl) | (simp [*] <;> rfl), by with_reducible repeat (first | exact HB.out | apply below_alloc | apply pw_below_drewN | apply below_drew1)⟩
def isa80_pair.f (a0 : Int) : Option (ByteArray) := (isa80_pick.f (Go.bits .and .u8 a0 3) (([(⟨#[66]⟩ : ByteArray), (⟨#[68]⟩ : ByteArray), (⟨#[72]⟩ : ByteArray), (⟨#[83, 80]⟩ : ByteArray)] : List ByteArray))).bind fun t117 => (some t117)
set_option maxHeartbeats 8000000 in
set_option maxRecDepth 100000 in
theorem isa80_pair.calls (a0 : Int) (r : ByteArray) (w : World) (h : isa80_pair.f a0 = some r) :
    Calls Try.prog 104 #[.int .u8 a0] w fun e w' => e = .returned (.string r) ∧ Below w.heap.size w w' := by
  have HB := Aside0.mk (Below.refl w.heap.size w)
  have H : ((isa80_pick.f (Go.bits .and .u8 a0 3) (([(⟨#[66]⟩ : ByteArray), (⟨#[68]⟩ : ByteArray), (⟨#[72]⟩ : ByteArray), (⟨#[83, 80]⟩ : ByteArray)] : List ByteArray))).bind fun t117 => (some t117)) = some r := h
  clear h
  obtain ⟨y114, hy114⟩ : ∃ y_ : List ByteArray, y_ = (([(⟨#[66]⟩ : ByteArray), (⟨#[68]⟩ : ByteArray), (⟨#[72]⟩ : ByteArray), (⟨#[83, 80]⟩ : ByteArray)] : List ByteArray)) := ⟨_, rfl⟩
  try rw [← hy114] at H
  have Ny114 := Aside0.mk hy114
  clear hy114
  replace H := Option.bind_eq_some_iff.mp H
  obtain ⟨t117, A20, H⟩ := H
  have A2 := Aside0.mk A20
  clear A20
  obtain rfl := Option.some.inj H
  go_enter Try.func104, Try.ntmps104
  go_wp2_with (first | ((with_reducible refine gate_dst (N := 5) rfl ?_); refine Kd.R_lit Kd.string _ 9 ?hg (N := 5) ?hd (xs := ([⟨#[66]⟩, ⟨#[68]⟩, ⟨#[72]⟩, ⟨#[83, 80]⟩] : List ByteArray)) (inner := [.string ⟨#[66]⟩, .string ⟨#[68]⟩, .string ⟨#[72]⟩, .string ⟨#[83, 80]⟩]) (ok := fun _ => True) (okp := fun _ => True) ?hr ?hp (fun _ hk => hk) trivial (Below.refl _ _) (Nat.le_refl _) (by simp) ?_; (case hd => rfl); (case hg => rfl); (case hr => first | (go_simp; done) | (go_simp; rfl)); (case hp => exact (Reps.one (show Kd.M Kd.string _ _ _ ⟨#[66]⟩ [.string ⟨#[66]⟩] from rfl) (Reps.one (show Kd.M Kd.string _ _ _ ⟨#[68]⟩ [.string ⟨#[68]⟩] from rfl) (Reps.one (show Kd.M Kd.string _ _ _ ⟨#[72]⟩ [.string ⟨#[72]⟩] from rfl) (Reps.one (show Kd.M Kd.string _ _ _ ⟨#[83, 80]⟩ [.string ⟨#[83, 80]⟩] from rfl) (Reps.none _ _)))))); intro v115 w3 ho4 hb hg_ hnew_; clear hg_ hnew_; (first | rw [← Ny114.out] at ho4 | (simp only [Int.reduceToNat] at ho4; rw [← Ny114.out] at ho4)); have n0_ := Aside0.mk (Kd.R_lower ho4 (below_size (by with_reducible repeat (first | exact HB.out | apply below_alloc | apply pw_below_drewN | apply below_drew1)))); have n1_ := Aside0.mk (below_step (by with_reducible repeat (first | exact HB.out | apply below_alloc | apply pw_below_drewN | apply below_drew1)) hb); clear HB; have HO116 := n0_; have HB := n1_; clear n0_ n1_; clear hb ho4; obtain ⟨Ao5, co5, eo5⟩ := Kd.R_slice HO116.out; subst eo5) | ((with_reducible refine gate_callee (f := 98) rfl ?_); refine goesL_ (some 6) rfl rfl Try.func98 (by kernel_rfl) rfl #[.int .u8 (Go.bits .and .u8 a0 3), .slice Ao5 y114.length co5] rfl (by (try simp only [List.map_toArray, List.map_cons, List.map_nil]); first | done | rfl | (simp only [IntKind.wrap_u8, Int.emod_add_emod, Int.add_emod_emod] <;> rfl)) ?_; (with_reducible refine (isa80_pick.calls (Go.bits .and .u8 a0 3) _ _ y114 t117 _ ?side1 ?side2 A2.out).mono ?_); (case side1 => repeat (first | exact (Kd.R_reads' HO116.out).2.2 | (with_reducible refine Kd.C_alloc ?_ _) | (with_reducible refine Kd.C_drewN ?_ _) | (with_reducible refine Kd.C_drew ?_))); (case side2 => exact (Kd.R_reads' HO116.out).2.1); rintro e w' ⟨rfl, ⟨nd, rfl⟩⟩; refine ⟨_, rfl, ?_⟩))
  go_ret
  exact ⟨by first | rfl | (simp <;> rfl) | (simp [*] <;> rfl), by with_reducible repeat (first | exact HB.out | apply below_alloc | apply pw_below_drewN | apply below_drew1)⟩
end Go.Proofs.Ytaiabehbappdaaa.PCpu
namespace Go.Proofs.Ytaiabehbappdaaa.PCpu
open Go.RowKit Go.Proofs.YtaiabehbappdaaaW.PrintWords Go.Proofs.YtaiabehbappdaaaW.PrintLast Go.Proofs.YtaiabehbappdaaaW.PrintMore
attribute [local go_sem] max2_int min2_int max_two min_two max_three min_three max_four min_four   -- for this text's walks alone
mutual
def isa80_low.j0 : Nat → Int → Int → Int → Bool → Option (List ByteArray)
  | 0, _, _, _, _ => none
  | k + 1, x3, x4, x62, x67 => if x67 = true then ((isa80_pair.f x4).bind fun t183 => ((isa80_form.f (([(⟨#[83, 84, 65, 88]⟩ : ByteArray), t183] : List ByteArray))).bind fun t187 => (some t187))) else (if x62 = 10 then (isa80_low.j1 k x3 x4 x62 (x62 == 10)) else (isa80_low.j1 k x3 x4 x62 (x62 == 26)))
def isa80_low.j1 : Nat → Int → Int → Int → Bool → Option (List ByteArray)
  | 0, _, _, _, _ => none
  | k + 1, x3, x4, x62, x74 => if x74 = true then ((isa80_pair.f x4).bind fun t190 => ((isa80_form.f (([(⟨#[76, 68, 65, 88]⟩ : ByteArray), t190] : List ByteArray))).bind fun t194 => (some t194))) else (if x62 = 34 then (isa80_low.j2 k x3 (x62 == 34)) else (if x62 = 42 then (isa80_low.j2 k x3 (x62 == 42)) else (if x62 = 50 then (isa80_low.j2 k x3 (x62 == 50)) else (isa80_low.j2 k x3 (x62 == 58)))))
def isa80_low.j2 : Nat → Int → Bool → Option (List ByteArray)
  | 0, _, _ => none
  | k + 1, x3, x81 => if x81 = true then ((isa80_pick.f (Go.bits .and .u8 x3 3) (([(⟨#[83, 72, 76, 68]⟩ : ByteArray), (⟨#[76, 72, 76, 68]⟩ : ByteArray), (⟨#[83, 84, 65]⟩ : ByteArray), (⟨#[76, 68, 65]⟩ : ByteArray)] : List ByteArray))).bind fun t200 => ((isa80_form.f (([t200, (⟨#[100, 49, 54]⟩ : ByteArray)] : List ByteArray))).bind fun t204 => (some t204))) else (some ([] : List ByteArray))
end
def isa80_low.f (k : Nat) (a0 : Int) : Option (List ByteArray) := if (Go.bits .and .u8 a0 7) = 4 then ((isa80_reg.f (a0 / 8)).bind fun t118 => ((isa80_form.f (([(⟨#[73, 78, 82]⟩ : ByteArray), t118] : List ByteArray))).bind fun t122 => (some t122))) else (if (Go.bits .and .u8 a0 7) = 5 then ((isa80_reg.f (a0 / 8)).bind fun t125 => ((isa80_form.f (([(⟨#[68, 67, 82]⟩ : ByteArray), t125] : List ByteArray))).bind fun t129 => (some t129))) else (if (Go.bits .and .u8 a0 7) = 6 then ((isa80_reg.f (a0 / 8)).bind fun t132 => ((isa80_form.f (([(⟨#[77, 86, 73]⟩ : ByteArray), t132, (⟨#[100, 56]⟩ : ByteArray)] : List ByteArray))).bind fun t136 => (some t136))) else (if (Go.bits .and .u8 a0 7) = 7 then ((isa80_pick.f (a0 / 8) (([(⟨#[82, 76, 67]⟩ : ByteArray), (⟨#[82, 82, 67]⟩ : ByteArray), (⟨#[82, 65, 76]⟩ : ByteArray), (⟨#[82, 65, 82]⟩ : ByteArray), (⟨#[68, 65, 65]⟩ : ByteArray), (⟨#[67, 77, 65]⟩ : ByteArray), (⟨#[83, 84, 67]⟩ : ByteArray), (⟨#[67, 77, 67]⟩ : ByteArray)] : List ByteArray))).bind fun t142 => ((isa80_form.f (([t142] : List ByteArray))).bind fun t146 => (some t146))) else (if (Go.bits .and .u8 a0 15) = 1 then ((isa80_pair.f (a0 / 16)).bind fun t149 => ((isa80_form.f (([(⟨#[76, 88, 73]⟩ : ByteArray), t149, (⟨#[100, 49, 54]⟩ : ByteArray)] : List ByteArray))).bind fun t153 => (some t153))) else (if (Go.bits .and .u8 a0 15) = 3 then ((isa80_pair.f (a0 / 16)).bind fun t156 => ((isa80_form.f (([(⟨#[73, 78, 88]⟩ : ByteArray), t156] : List ByteArray))).bind fun t160 => (some t160))) else (if (Go.bits .and .u8 a0 15) = 9 then ((isa80_pair.f (a0 / 16)).bind fun t163 => ((isa80_form.f (([(⟨#[68, 65, 68]⟩ : ByteArray), t163] : List ByteArray))).bind fun t167 => (some t167))) else (if (Go.bits .and .u8 a0 15) = 11 then ((isa80_pair.f (a0 / 16)).bind fun t170 => ((isa80_form.f (([(⟨#[68, 67, 88]⟩ : ByteArray), t170] : List ByteArray))).bind fun t174 => (some t174))) else (if a0 = 0 then ((isa80_form.f (([(⟨#[78, 79, 80]⟩ : ByteArray)] : List ByteArray))).bind fun t180 => (some t180)) else (if a0 = 2 then (isa80_low.j0 k (a0 / 8) (a0 / 16) a0 (a0 == 2)) else (isa80_low.j0 k (a0 / 8) (a0 / 16) a0 (a0 == 18)))))))))))
set_option maxHeartbeats 8000000 in
set_option maxRecDepth 100000 in
theorem isa80_low.calls (k : Nat) (a0 : Int) (r : List ByteArray) (w : World) (h : isa80_low.f k a0 = some r) :
    Calls Try.prog 95 #[.int .u8 a0] w fun e w' => ∃ v0_ : Value, e = .returned (v0_) ∧ Kd.R Kd.string 9 w' w.heap.size (fun _ => True) v0_ r ∧ Below w.heap.size w w' := by
  have HB := Aside0.mk (Below.refl w.heap.size w)
  have H : (if (Go.bits .and .u8 a0 7) = 4 then ((isa80_reg.f (a0 / 8)).bind fun t118 => ((isa80_form.f (([(⟨#[73, 78, 82]⟩ : ByteArray), t118] : List ByteArray))).bind fun t122 => (some t122))) else (if (Go.bits .and .u8 a0 7) = 5 then ((isa80_reg.f (a0 / 8)).bind fun t125 => ((isa80_form.f (([(⟨#[68, 67, 82]⟩ : ByteArray), t125] : List ByteArray))).bind fun t129 => (some t129))) else (if (Go.bits .and .u8 a0 7) = 6 then ((isa80_reg.f (a0 / 8)).bind fun t132 => ((isa80_form.f (([(⟨#[77, 86, 73]⟩ : ByteArray), t132, (⟨#[100, 56]⟩ : ByteArray)] : List ByteArray))).bind fun t136 => (some t136))) else (if (Go.bits .and .u8 a0 7) = 7 then ((isa80_pick.f (a0 / 8) (([(⟨#[82, 76, 67]⟩ : ByteArray), (⟨#[82, 82, 67]⟩ : ByteArray), (⟨#[82, 65, 76]⟩ : ByteArray), (⟨#[82, 65, 82]⟩ : ByteArray), (⟨#[68, 65, 65]⟩ : ByteArray), (⟨#[67, 77, 65]⟩ : ByteArray), (⟨#[83, 84, 67]⟩ : ByteArray), (⟨#[67, 77, 67]⟩ : ByteArray)] : List ByteArray))).bind fun t142 => ((isa80_form.f (([t142] : List ByteArray))).bind fun t146 => (some t146))) else (if (Go.bits .and .u8 a0 15) = 1 then ((isa80_pair.f (a0 / 16)).bind fun t149 => ((isa80_form.f (([(⟨#[76, 88, 73]⟩ : ByteArray), t149, (⟨#[100, 49, 54]⟩ : ByteArray)] : List ByteArray))).bind fun t153 => (some t153))) else (if (Go.bits .and .u8 a0 15) = 3 then ((isa80_pair.f (a0 / 16)).bind fun t156 => ((isa80_form.f (([(⟨#[73, 78, 88]⟩ : ByteArray), t156] : List ByteArray))).bind fun t160 => (some t160))) else (if (Go.bits .and .u8 a0 15) = 9 then ((isa80_pair.f (a0 / 16)).bind fun t163 => ((isa80_form.f (([(⟨#[68, 65, 68]⟩ : ByteArray), t163] : List ByteArray))).bind fun t167 => (some t167))) else (if (Go.bits .and .u8 a0 15) = 11 then ((isa80_pair.f (a0 / 16)).bind fun t170 => ((isa80_form.f (([(⟨#[68, 67, 88]⟩ : ByteArray), t170] : List ByteArray))).bind fun t174 => (some t174))) else (if a0 = 0 then ((isa80_form.f (([(⟨#[78, 79, 80]⟩ : ByteArray)] : List ByteArray))).bind fun t180 => (some t180)) else (if a0 = 2 then (isa80_low.j0 k (a0 / 8) (a0 / 16) a0 (a0 == 2)) else (isa80_low.j0 k (a0 / 8) (a0 / 16) a0 (a0 == 18)))))))))))) = some r := h
  clear h
  by_cases c2 : (Go.bits .and .u8 a0 7) = 4
  · rw [if_pos c2] at H
    have c2b0 : ((Go.bits .and .u8 a0 7) == 4) = true := beq_iff_eq.mpr c2
    have c2b1 : ((Go.bits .and .u8 a0 7) != 4) = false := bne_eq_false_iff_eq.mpr c2
    clear c2
    replace H := Option.bind_eq_some_iff.mp H
    obtain ⟨t118, A30, H⟩ := H
    have A3 := Aside0.mk A30
    clear A30
    obtain ⟨y119, hy119⟩ : ∃ y_ : List ByteArray, y_ = (([(⟨#[73, 78, 82]⟩ : ByteArray), t118] : List ByteArray)) := ⟨_, rfl⟩
    try rw [← hy119] at H
    have Ny119 := Aside0.mk hy119
    clear hy119
    replace H := Option.bind_eq_some_iff.mp H
    obtain ⟨t122, A40, H⟩ := H
    have A4 := Aside0.mk A40
    clear A40
    obtain rfl := Option.some.inj H
    go_enter Try.func95, Try.ntmps95
    go_wp2_with (first | ((with_reducible refine gate_callee (f := 97) rfl ?_); refine goesL_ (some 14) rfl rfl Try.func97 (by kernel_rfl) rfl #[.int .u8 (a0 / 8)] rfl (by (try simp only [List.map_toArray, List.map_cons, List.map_nil]); first | done | rfl | (simp only [IntKind.wrap_u8, Int.emod_add_emod, Int.add_emod_emod] <;> rfl)) ?_; (with_reducible refine (isa80_reg.calls (a0 / 8) t118 _ A3.out).mono ?_); rintro e w5 ⟨rfl, hb⟩; refine ⟨_, rfl, ?_⟩; have n0_ := Aside0.mk (below_step (by with_reducible repeat (first | exact HB.out | apply below_alloc | apply pw_below_drewN | apply below_drew1)) hb); clear HB; have HB := n0_; clear n0_; (try clear hb); (try clear hb2); (try clear hk); (try clear hi)) | ((with_reducible refine gate_dst (N := 15) rfl ?_); refine Kd.R_lit Kd.string _ 9 ?hg (N := 15) ?hd (xs := ([⟨#[73, 78, 82]⟩, t118] : List ByteArray)) (inner := [.string ⟨#[73, 78, 82]⟩, .string t118]) (ok := fun _ => True) (okp := fun _ => True) ?hr ?hp (fun _ hk => hk) trivial (Below.refl _ _) (Nat.le_refl _) (by simp) ?_; (case hd => rfl); (case hg => rfl); (case hr => first | (go_simp; done) | (go_simp; rfl)); (case hp => exact (Reps.one (show Kd.M Kd.string _ _ _ ⟨#[73, 78, 82]⟩ [.string ⟨#[73, 78, 82]⟩] from rfl) (Reps.one (show Kd.M Kd.string _ _ _ t118 [.string t118] from rfl) (Reps.none _ _)))); intro v120 w6 ho7 hb hg_ hnew_; clear hg_ hnew_; (first | rw [← Ny119.out] at ho7 | (simp only [Int.reduceToNat] at ho7; rw [← Ny119.out] at ho7)); have n0_ := Aside0.mk (Kd.R_lower ho7 (below_size (by with_reducible repeat (first | exact HB.out | apply below_alloc | apply pw_below_drewN | apply below_drew1)))); have n1_ := Aside0.mk (below_step (by with_reducible repeat (first | exact HB.out | apply below_alloc | apply pw_below_drewN | apply below_drew1)) hb); clear HB; have HO121 := n0_; have HB := n1_; clear n0_ n1_; clear hb ho7; obtain ⟨Ao8, co8, eo8⟩ := Kd.R_slice HO121.out; subst eo8) | ((with_reducible refine gate_callee (f := 96) rfl ?_); refine goesL_ (some 16) rfl rfl Try.func96 (by kernel_rfl) rfl #[.slice Ao8 y119.length co8] rfl (by (try simp only [List.map_toArray, List.map_cons, List.map_nil]); first | done | rfl | (simp only [IntKind.wrap_u8, Int.emod_add_emod, Int.add_emod_emod] <;> rfl)) ?_; (with_reducible refine (isa80_form.calls (fun k_ => some k_ = (.slice Ao8 y119.length co8 : Value).ownBlock) (.slice Ao8 y119.length co8) y119 t122 w _ ?side1 ?side2 A4.out).mono ?_); (case side1 => repeat (first | (with_reducible first | exact HB.out | apply below_alloc | apply pw_below_drewN | apply below_drew1) | exact HB.out)); (case side2 => exact Kd.R_tight rfl HO121.out); rintro e w9 ⟨v123, rfl, ho0, hb, hkp⟩; refine ⟨_, rfl, ?_⟩; have n0_ := Aside0.mk (Kd.R_mono (ok' := fun k_ => True) ho0 (fun k_ hk_ => trivial)); have n1_ := Aside0.mk (hb); clear HB; clear HO121; have HO124 := n0_; have HB := n1_; clear n0_ n1_; (try clear hb); (try clear hkp); (try clear ho0)))
    go_ret
    exact ⟨_, by first | rfl | (simp <;> rfl) | (simp [*] <;> rfl), by (with_reducible repeat (first | apply Kd.R_alloc | apply Kd.R_drewN | apply Kd.R_drew)); exact HO124.out, by with_reducible repeat (first | exact HB.out | apply below_alloc | apply pw_below_drewN | apply below_drew1)⟩
  · rw [if_neg c2] at H
    have c2b0 : ((Go.bits .and .u8 a0 7) == 4) = false := beq_eq_false_iff_ne.mpr c2
    have c2b1 : ((Go.bits .and .u8 a0 7) != 4) = true := bne_iff_ne.mpr c2
    by_cases c10 : (Go.bits .and .u8 a0 7) = 5
    · rw [if_pos c10] at H
      have c10b0 : ((Go.bits .and .u8 a0 7) == 5) = true := beq_iff_eq.mpr c10
      have c10b1 : ((Go.bits .and .u8 a0 7) != 5) = false := bne_eq_false_iff_eq.mpr c10
      clear c10
      replace H := Option.bind_eq_some_iff.mp H
      obtain ⟨t125, A110, H⟩ := H
      have A11 := Aside0.mk A110
      clear A110
      obtain ⟨y126, hy126⟩ : ∃ y_ : List ByteArray, y_ = (([(⟨#[68, 67, 82]⟩ : ByteArray), t125] : List ByteArray)) := ⟨_, rfl⟩
      try rw [← hy126] at H
      have Ny126 := Aside0.mk hy126
      clear hy126
      replace H := Option.bind_eq_some_iff.mp H
      obtain ⟨t129, A120, H⟩ := H
      have A12 := Aside0.mk A120
      clear A120
      obtain rfl := Option.some.inj H
      go_enter Try.func95, Try.ntmps95
      go_wp2_with (first | ((with_reducible refine gate_callee (f := 97) rfl ?_); refine goesL_ (some 20) rfl rfl Try.func97 (by kernel_rfl) rfl #[.int .u8 (a0 / 8)] rfl (by (try simp only [List.map_toArray, List.map_cons, List.map_nil]); first | done | rfl | (simp only [IntKind.wrap_u8, Int.emod_add_emod, Int.add_emod_emod] <;> rfl)) ?_; (with_reducible refine (isa80_reg.calls (a0 / 8) t125 _ A11.out).mono ?_); rintro e w13 ⟨rfl, hb⟩; refine ⟨_, rfl, ?_⟩; have n0_ := Aside0.mk (below_step (by with_reducible repeat (first | exact HB.out | apply below_alloc | apply pw_below_drewN | apply below_drew1)) hb); clear HB; have HB := n0_; clear n0_; (try clear hb); (try clear hb2); (try clear hk); (try clear hi)) | ((with_reducible refine gate_dst (N := 21) rfl ?_); refine Kd.R_lit Kd.string _ 9 ?hg (N := 21) ?hd (xs := ([⟨#[68, 67, 82]⟩, t125] : List ByteArray)) (inner := [.string ⟨#[68, 67, 82]⟩, .string t125]) (ok := fun _ => True) (okp := fun _ => True) ?hr ?hp (fun _ hk => hk) trivial (Below.refl _ _) (Nat.le_refl _) (by simp) ?_; (case hd => rfl); (case hg => rfl); (case hr => first | (go_simp; done) | (go_simp; rfl)); (case hp => exact (Reps.one (show Kd.M Kd.string _ _ _ ⟨#[68, 67, 82]⟩ [.string ⟨#[68, 67, 82]⟩] from rfl) (Reps.one (show Kd.M Kd.string _ _ _ t125 [.string t125] from rfl) (Reps.none _ _)))); intro v127 w14 ho15 hb hg_ hnew_; clear hg_ hnew_; (first | rw [← Ny126.out] at ho15 | (simp only [Int.reduceToNat] at ho15; rw [← Ny126.out] at ho15)); have n0_ := Aside0.mk (Kd.R_lower ho15 (below_size (by with_reducible repeat (first | exact HB.out | apply below_alloc | apply pw_below_drewN | apply below_drew1)))); have n1_ := Aside0.mk (below_step (by with_reducible repeat (first | exact HB.out | apply below_alloc | apply pw_below_drewN | apply below_drew1)) hb); clear HB; have HO128 := n0_; have HB := n1_; clear n0_ n1_; clear hb ho15; obtain ⟨Ao16, co16, eo16⟩ := Kd.R_slice HO128.out; subst eo16) | ((with_reducible refine gate_callee (f := 96) rfl ?_); refine goesL_ (some 22) rfl rfl Try.func96 (by kernel_rfl) rfl #[.slice Ao16 y126.length co16] rfl (by (try simp only [List.map_toArray, List.map_cons, List.map_nil]); first | done | rfl | (simp only [IntKind.wrap_u8, Int.emod_add_emod, Int.add_emod_emod] <;> rfl)) ?_; (with_reducible refine (isa80_form.calls (fun k_ => some k_ = (.slice Ao16 y126.length co16 : Value).ownBlock) (.slice Ao16 y126.length co16) y126 t129 w _ ?side1 ?side2 A12.out).mono ?_); (case side1 => repeat (first | (with_reducible first | exact HB.out | apply below_alloc | apply pw_below_drewN | apply below_drew1) | exact HB.out)); (case side2 => exact Kd.R_tight rfl HO128.out); rintro e w17 ⟨v130, rfl, ho0, hb, hkp⟩; refine ⟨_, rfl, ?_⟩; have n0_ := Aside0.mk (Kd.R_mono (ok' := fun k_ => True) ho0 (fun k_ hk_ => trivial)); have n1_ := Aside0.mk (hb); clear HB; clear HO128; have HO131 := n0_; have HB := n1_; clear n0_ n1_; (try clear hb); (try clear hkp); (try clear ho0)))
      go_ret
      exact ⟨_, by first | rfl | (simp <;> rfl) | (simp [*] <;> rfl), by (with_reducible repeat (first | apply Kd.R_alloc | apply Kd.R_drewN | apply Kd.R_drew)); exact HO131.out, by with_reducible repeat (first | exact HB.out | apply below_alloc | apply pw_below_drewN | apply below_drew1)⟩
    · rw [if_neg c10] at H
      have c10b0 : ((Go.bits .and .u8 a0 7) == 5) = false := beq_eq_false_iff_ne.mpr c10
      have c10b1 : ((Go.bits .and .u8 a0 7) != 5) = true := bne_iff_ne.mpr c10
      by_cases c18 : (Go.bits .and .u8 a0 7) = 6
      · rw [if_pos c18] at H
        have c18b0 : ((Go.bits .and .u8 a0 7) == 6) = true := beq_iff_eq.mpr c18
        have c18b1 : ((Go.bits .and .u8 a0 7) != 6) = false := bne_eq_false_iff_eq.mpr c18
        clear c18
        replace H := Option.bind_eq_some_iff.mp H
        obtain ⟨t132, A190, H⟩ := H
        have A19 := Aside0.mk A190
        clear A190
        obtain ⟨y133, hy133⟩ : ∃ y_ : List ByteArray, y_ = (([(⟨#[77, 86, 73]⟩ : ByteArray), t132, (⟨#[100, 56]⟩ : ByteArray)] : List ByteArray)) := ⟨_, rfl⟩
        try rw [← hy133] at H
        have Ny133 := Aside0.mk hy133
        clear hy133
        replace H := Option.bind_eq_some_iff.mp H
        obtain ⟨t136, A200, H⟩ := H
        have A20 := Aside0.mk A200
        clear A200
        obtain rfl := Option.some.inj H
        go_enter Try.func95, Try.ntmps95
        go_wp2_with (first | ((with_reducible refine gate_callee (f := 97) rfl ?_); refine goesL_ (some 26) rfl rfl Try.func97 (by kernel_rfl) rfl #[.int .u8 (a0 / 8)] rfl (by (try simp only [List.map_toArray, List.map_cons, List.map_nil]); first | done | rfl | (simp only [IntKind.wrap_u8, Int.emod_add_emod, Int.add_emod_emod] <;> rfl)) ?_; (with_reducible refine (isa80_reg.calls (a0 / 8) t132 _ A19.out).mono ?_); rintro e w21 ⟨rfl, hb⟩; refine ⟨_, rfl, ?_⟩; have n0_ := Aside0.mk (below_step (by with_reducible repeat (first | exact HB.out | apply below_alloc | apply pw_below_drewN | apply below_drew1)) hb); clear HB; have HB := n0_; clear n0_; (try clear hb); (try clear hb2); (try clear hk); (try clear hi)) | ((with_reducible refine gate_dst (N := 27) rfl ?_); refine Kd.R_lit Kd.string _ 9 ?hg (N := 27) ?hd (xs := ([⟨#[77, 86, 73]⟩, t132, ⟨#[100, 56]⟩] : List ByteArray)) (inner := [.string ⟨#[77, 86, 73]⟩, .string t132, .string ⟨#[100, 56]⟩]) (ok := fun _ => True) (okp := fun _ => True) ?hr ?hp (fun _ hk => hk) trivial (Below.refl _ _) (Nat.le_refl _) (by simp) ?_; (case hd => rfl); (case hg => rfl); (case hr => first | (go_simp; done) | (go_simp; rfl)); (case hp => exact (Reps.one (show Kd.M Kd.string _ _ _ ⟨#[77, 86, 73]⟩ [.string ⟨#[77, 86, 73]⟩] from rfl) (Reps.one (show Kd.M Kd.string _ _ _ t132 [.string t132] from rfl) (Reps.one (show Kd.M Kd.string _ _ _ ⟨#[100, 56]⟩ [.string ⟨#[100, 56]⟩] from rfl) (Reps.none _ _))))); intro v134 w22 ho23 hb hg_ hnew_; clear hg_ hnew_; (first | rw [← Ny133.out] at ho23 | (simp only [Int.reduceToNat] at ho23; rw [← Ny133.out] at ho23)); have n0_ := Aside0.mk (Kd.R_lower ho23 (below_size (by with_reducible repeat (first | exact HB.out | apply below_alloc | apply pw_below_drewN | apply below_drew1)))); have n1_ := Aside0.mk (below_step (by with_reducible repeat (first | exact HB.out | apply below_alloc | apply pw_below_drewN | apply below_drew1)) hb); clear HB; have HO135 := n0_; have HB := n1_; clear n0_ n1_; clear hb ho23; obtain ⟨Ao24, co24, eo24⟩ := Kd.R_slice HO135.out; subst eo24) | ((with_reducible refine gate_callee (f := 96) rfl ?_); refine goesL_ (some 28) rfl rfl Try.func96 (by kernel_rfl) rfl #[.slice Ao24 y133.length co24] rfl (by (try simp only [List.map_toArray, List.map_cons, List.map_nil]); first | done | rfl | (simp only [IntKind.wrap_u8, Int.emod_add_emod, Int.add_emod_emod] <;> rfl)) ?_; (with_reducible refine (isa80_form.calls (fun k_ => some k_ = (.slice Ao24 y133.length co24 : Value).ownBlock) (.slice Ao24 y133.length co24) y133 t136 w _ ?side1 ?side2 A20.out).mono ?_); (case side1 => repeat (first | (with_reducible first | exact HB.out | apply below_alloc | apply pw_below_drewN | apply below_drew1) | exact HB.out)); (case side2 => exact Kd.R_tight rfl HO135.out); rintro e w25 ⟨v137, rfl, ho0, hb, hkp⟩; refine ⟨_, rfl, ?_⟩; have n0_ := Aside0.mk (Kd.R_mono (ok' := fun k_ => True) ho0 (fun k_ hk_ => trivial)); have n1_ := Aside0.mk (hb); clear HB; clear HO135; have HO138 := n0_; have HB := n1_; clear n0_ n1_; (try clear hb); (try clear hkp); (try clear ho0)))
        go_ret
        exact ⟨_, by first | rfl | (simp <;> rfl) | (simp [*] <;> rfl), by (with_reducible repeat (first | apply Kd.R_alloc | apply Kd.R_drewN | apply Kd.R_drew)); exact HO138.out, by with_reducible repeat (first | exact HB.out | apply below_alloc | apply pw_below_drewN | apply below_drew1)⟩
      · rw [if_neg c18] at H
        have c18b0 : ((Go.bits .and .u8 a0 7) == 6) = false := beq_eq_false_iff_ne.mpr c18
        have c18b1 : ((Go.bits .and .u8 a0 7) != 6) = true := bne_iff_ne.mpr c18
        by_cases c26 : (Go.bits .and .u8 a0 7) = 7
        · rw [if_pos c26] at H
          have c26b0 : ((Go.bits .and .u8 a0 7) == 7) = true := beq_iff_eq.mpr c26
          have c26b1 : ((Go.bits .and .u8 a0 7) != 7) = false := bne_eq_false_iff_eq.mpr c26
          clear c26
          obtain ⟨y139, hy139⟩ : ∃ y_ : List ByteArray, y_ = (([(⟨#[82, 76, 67]⟩ : ByteArray), (⟨#[82, 82, 67]⟩ : ByteArray), (⟨#[82, 65, 76]⟩ : ByteArray), (⟨#[82, 65, 82]⟩ : ByteArray), (⟨#[68, 65, 65]⟩ : ByteArray), (⟨#[67, 77, 65]⟩ : ByteArray), (⟨#[83, 84, 67]⟩ : ByteArray), (⟨#[67, 77, 67]⟩ : ByteArray)] : List ByteArray)) := ⟨_, rfl⟩
          try rw [← hy139] at H
          have Ny139 := Aside0.mk hy139
          clear hy139
          replace H := Option.bind_eq_some_iff.mp H
          obtain ⟨t142, A270, H⟩ := H
          have A27 := Aside0.mk A270
          clear A270
          obtain ⟨y143, hy143⟩ : ∃ y_ : List ByteArray, y_ = (([t142] : List ByteArray)) := ⟨_, rfl⟩
          try rw [← hy143] at H
          have Ny143 := Aside0.mk hy143
          clear hy143
          replace H := Option.bind_eq_some_iff.mp H
          obtain ⟨t146, A280, H⟩ := H
          have A28 := Aside0.mk A280
          clear A280
          obtain rfl := Option.some.inj H
          go_enter Try.func95, Try.ntmps95
          go_wp2_with (first | ((with_reducible refine gate_dst (N := 32) rfl ?_); refine Kd.R_lit Kd.string _ 9 ?hg (N := 32) ?hd (xs := ([⟨#[82, 76, 67]⟩, ⟨#[82, 82, 67]⟩, ⟨#[82, 65, 76]⟩, ⟨#[82, 65, 82]⟩, ⟨#[68, 65, 65]⟩, ⟨#[67, 77, 65]⟩, ⟨#[83, 84, 67]⟩, ⟨#[67, 77, 67]⟩] : List ByteArray)) (inner := [.string ⟨#[82, 76, 67]⟩, .string ⟨#[82, 82, 67]⟩, .string ⟨#[82, 65, 76]⟩, .string ⟨#[82, 65, 82]⟩, .string ⟨#[68, 65, 65]⟩, .string ⟨#[67, 77, 65]⟩, .string ⟨#[83, 84, 67]⟩, .string ⟨#[67, 77, 67]⟩]) (ok := fun _ => True) (okp := fun _ => True) ?hr ?hp (fun _ hk => hk) trivial (Below.refl _ _) (Nat.le_refl _) (by simp) ?_; (case hd => rfl); (case hg => rfl); (case hr => first | (go_simp; done) | (go_simp; rfl)); (case hp => exact (Reps.one (show Kd.M Kd.string _ _ _ ⟨#[82, 76, 67]⟩ [.string ⟨#[82, 76, 67]⟩] from rfl) (Reps.one (show Kd.M Kd.string _ _ _ ⟨#[82, 82, 67]⟩ [.string ⟨#[82, 82, 67]⟩] from rfl) (Reps.one (show Kd.M Kd.string _ _ _ ⟨#[82, 65, 76]⟩ [.string ⟨#[82, 65, 76]⟩] from rfl) (Reps.one (show Kd.M Kd.string _ _ _ ⟨#[82, 65, 82]⟩ [.string ⟨#[82, 65, 82]⟩] from rfl) (Reps.one (show Kd.M Kd.string _ _ _ ⟨#[68, 65, 65]⟩ [.string ⟨#[68, 65, 65]⟩] from rfl) (Reps.one (show Kd.M Kd.string _ _ _ ⟨#[67, 77, 65]⟩ [.string ⟨#[67, 77, 65]⟩] from rfl) (Reps.one (show Kd.M Kd.string _ _ _ ⟨#[83, 84, 67]⟩ [.string ⟨#[83, 84, 67]⟩] from rfl) (Reps.one (show Kd.M Kd.string _ _ _ ⟨#[67, 77, 67]⟩ [.string ⟨#[67, 77, 67]⟩] from rfl) (Reps.none _ _)))))))))); intro v140 w29 ho30 hb hg_ hnew_; clear hg_ hnew_; (first | rw [← Ny139.out] at ho30 | (simp only [Int.reduceToNat] at ho30; rw [← Ny139.out] at ho30)); have n0_ := Aside0.mk (Kd.R_lower ho30 (below_size (by with_reducible repeat (first | exact HB.out | apply below_alloc | apply pw_below_drewN | apply below_drew1)))); have n1_ := Aside0.mk (below_step (by with_reducible repeat (first | exact HB.out | apply below_alloc | apply pw_below_drewN | apply below_drew1)) hb); clear HB; have HO141 := n0_; have HB := n1_; clear n0_ n1_; clear hb ho30; obtain ⟨Ao31, co31, eo31⟩ := Kd.R_slice HO141.out; subst eo31) | ((with_reducible refine gate_callee (f := 98) rfl ?_); refine goesL_ (some 33) rfl rfl Try.func98 (by kernel_rfl) rfl #[.int .u8 (a0 / 8), .slice Ao31 y139.length co31] rfl (by (try simp only [List.map_toArray, List.map_cons, List.map_nil]); first | done | rfl | (simp only [IntKind.wrap_u8, Int.emod_add_emod, Int.add_emod_emod] <;> rfl)) ?_; (with_reducible refine (isa80_pick.calls (a0 / 8) _ _ y139 t142 _ ?side1 ?side2 A27.out).mono ?_); (case side1 => repeat (first | exact (Kd.R_reads' HO141.out).2.2 | (with_reducible refine Kd.C_alloc ?_ _) | (with_reducible refine Kd.C_drewN ?_ _) | (with_reducible refine Kd.C_drew ?_))); (case side2 => exact (Kd.R_reads' HO141.out).2.1); rintro e w' ⟨rfl, ⟨nd, rfl⟩⟩; refine ⟨_, rfl, ?_⟩) | ((with_reducible refine gate_dst (N := 34) rfl ?_); refine Kd.R_lit Kd.string _ 9 ?hg (N := 34) ?hd (xs := ([t142] : List ByteArray)) (inner := [.string t142]) (ok := fun _ => True) (okp := fun _ => True) ?hr ?hp (fun _ hk => hk) trivial (Below.refl _ _) (Nat.le_refl _) (by simp) ?_; (case hd => rfl); (case hg => rfl); (case hr => first | (go_simp; done) | (go_simp; rfl)); (case hp => exact (Reps.one (show Kd.M Kd.string _ _ _ t142 [.string t142] from rfl) (Reps.none _ _))); intro v144 w32 ho33 hb hg_ hnew_; clear hg_ hnew_; (first | rw [← Ny143.out] at ho33 | (simp only [Int.reduceToNat] at ho33; rw [← Ny143.out] at ho33)); have n0_ := Aside0.mk (Kd.R_elder' (by (with_reducible repeat (first | apply Kd.R_alloc | apply Kd.R_drewN | apply Kd.R_drew)); exact HO141.out) (Kd.R_base ho33) hb); have n1_ := Aside0.mk (Kd.R_lower (Kd.R_new' ho33 (Kd.R_lt (by (with_reducible repeat (first | apply Kd.R_alloc | apply Kd.R_drewN | apply Kd.R_drew)); exact HO141.out))) (below_size (by with_reducible repeat (first | exact HB.out | apply below_alloc | apply pw_below_drewN | apply below_drew1)))); have n2_ := Aside0.mk (below_step (by with_reducible repeat (first | exact HB.out | apply below_alloc | apply pw_below_drewN | apply below_drew1)) hb); clear HO141; clear HB; have HO141 := n0_; have HO145 := n1_; have HB := n2_; clear n0_ n1_ n2_; clear hb ho33; obtain ⟨Ao34, co34, eo34⟩ := Kd.R_slice HO145.out; subst eo34) | ((with_reducible refine gate_callee (f := 96) rfl ?_); refine goesL_ (some 35) rfl rfl Try.func96 (by kernel_rfl) rfl #[.slice Ao34 y143.length co34] rfl (by (try simp only [List.map_toArray, List.map_cons, List.map_nil]); first | done | rfl | (simp only [IntKind.wrap_u8, Int.emod_add_emod, Int.add_emod_emod] <;> rfl)) ?_; (with_reducible refine (isa80_form.calls (fun k_ => some k_ = (.slice Ao34 y143.length co34 : Value).ownBlock) (.slice Ao34 y143.length co34) y143 t146 w _ ?side1 ?side2 A28.out).mono ?_); (case side1 => repeat (first | (with_reducible first | exact HB.out | apply below_alloc | apply pw_below_drewN | apply below_drew1) | exact HB.out)); (case side2 => exact Kd.R_tight rfl HO145.out); rintro e w35 ⟨v147, rfl, ho0, hb, hkp⟩; refine ⟨_, rfl, ?_⟩; have n0_ := Aside0.mk (Kd.R_mono (ok' := fun k_ => some k_ ≠ (v147 : Value).ownBlock) (Kd.R_keptB (HO141.out) hkp (fun k_ hk_ hs_ => (hk_.2) hs_)) (fun k_ hk_ => fun e_ => Or.elim (ho0.1 k_ e_.symm) (fun hs_ => hk_.2.1 hs_) (fun hn_ => Nat.not_le.2 hk_.2.2 hn_))); have n1_ := Aside0.mk (Kd.R_mono (ok' := fun k_ => some k_ ≠ (.slice Ao31 y139.length co31 : Value).ownBlock) ho0 (fun k_ hk_ => Or.elim hk_ (fun hs_ => fun e_ => (((HO141.out).1 k_ e_.symm).2) hs_) (fun hn_ => (Kd.fresh' (Kd.R_lt (by (with_reducible repeat (first | apply Kd.R_alloc | apply Kd.R_drewN | apply Kd.R_drew)); exact HO141.out)) k_ hn_)))); have n2_ := Aside0.mk (hb); clear HO141; clear HB; clear HO145; have HO141 := n0_; have HO148 := n1_; have HB := n2_; clear n0_ n1_ n2_; (try clear hb); (try clear hkp); (try clear ho0)))
          go_ret
          exact ⟨_, by first | rfl | (simp <;> rfl) | (simp [*] <;> rfl), by (with_reducible repeat (first | apply Kd.R_alloc | apply Kd.R_drewN | apply Kd.R_drew)); exact Kd.R_mono HO148.out (fun _ hk => trivial), by with_reducible repeat (first | exact HB.out | apply below_alloc | apply pw_below_drewN | apply below_drew1)⟩
        · rw [if_neg c26] at H
          have c26b0 : ((Go.bits .and .u8 a0 7) == 7) = false := beq_eq_false_iff_ne.mpr c26
          have c26b1 : ((Go.bits .and .u8 a0 7) != 7) = true := bne_iff_ne.mpr c26
          by_cases c36 : (Go.bits .and .u8 a0 15) = 1
          · rw [if_pos c36] at H
            have c36b0 : ((Go.bits .and .u8 a0 15) == 1) = true := beq_iff_eq.mpr c36
            have c36b1 : ((Go.bits .and .u8 a0 15) != 1) = false := bne_eq_false_iff_eq.mpr c36
            clear c36
            replace H := Option.bind_eq_some_iff.mp H
            obtain ⟨t149, A370, H⟩ := H
            have A37 := Aside0.mk A370
            clear A370
            obtain ⟨y150, hy150⟩ : ∃ y_ : List ByteArray, y_ = (([(⟨#[76, 88, 73]⟩ : ByteArray), t149, (⟨#[100, 49, 54]⟩ : ByteArray)] : List ByteArray)) := ⟨_, rfl⟩
            try rw [← hy150] at H
            have Ny150 := Aside0.mk hy150
            clear hy150
            replace H := Option.bind_eq_some_iff.mp H
            obtain ⟨t153, A380, H⟩ := H
            have A38 := Aside0.mk A380
            clear A380
            obtain rfl := Option.some.inj H
            go_enter Try.func95, Try.ntmps95
            go_wp2_with (first | ((with_reducible refine gate_callee (f := 104) rfl ?_); refine goesL_ (some 41) rfl rfl Try.func104 (by kernel_rfl) rfl #[.int .u8 (a0 / 16)] rfl (by (try simp only [List.map_toArray, List.map_cons, List.map_nil]); first | done | rfl | (simp only [IntKind.wrap_u8, Int.emod_add_emod, Int.add_emod_emod] <;> rfl)) ?_; (with_reducible refine (isa80_pair.calls (a0 / 16) t149 _ A37.out).mono ?_); rintro e w39 ⟨rfl, hb⟩; refine ⟨_, rfl, ?_⟩; have n0_ := Aside0.mk (below_step (by with_reducible repeat (first | exact HB.out | apply below_alloc | apply pw_below_drewN | apply below_drew1)) hb); clear HB; have HB := n0_; clear n0_; (try clear hb); (try clear hb2); (try clear hk); (try clear hi)) | ((with_reducible refine gate_dst (N := 42) rfl ?_); refine Kd.R_lit Kd.string _ 9 ?hg (N := 42) ?hd (xs := ([⟨#[76, 88, 73]⟩, t149, ⟨#[100, 49, 54]⟩] : List ByteArray)) (inner := [.string ⟨#[76, 88, 73]⟩, .string t149, .string ⟨#[100, 49, 54]⟩]) (ok := fun _ => True) (okp := fun _ => True) ?hr ?hp (fun _ hk => hk) trivial (Below.refl _ _) (Nat.le_refl _) (by simp) ?_; (case hd => rfl); (case hg => rfl); (case hr => first | (go_simp; done) | (go_simp; rfl)); (case hp => exact (Reps.one (show Kd.M Kd.string _ _ _ ⟨#[76, 88, 73]⟩ [.string ⟨#[76, 88, 73]⟩] from rfl) (Reps.one (show Kd.M Kd.string _ _ _ t149 [.string t149] from rfl) (Reps.one (show Kd.M Kd.string _ _ _ ⟨#[100, 49, 54]⟩ [.string ⟨#[100, 49, 54]⟩] from rfl) (Reps.none _ _))))); intro v151 w40 ho41 hb hg_ hnew_; clear hg_ hnew_; (first | rw [← Ny150.out] at ho41 | (simp only [Int.reduceToNat] at ho41; rw [← Ny150.out] at ho41)); have n0_ := Aside0.mk (Kd.R_lower ho41 (below_size (by with_reducible repeat (first | exact HB.out | apply below_alloc | apply pw_below_drewN | apply below_drew1)))); have n1_ := Aside0.mk (below_step (by with_reducible repeat (first | exact HB.out | apply below_alloc | apply pw_below_drewN | apply below_drew1)) hb); clear HB; have HO152 := n0_; have HB := n1_; clear n0_ n1_; clear hb ho41; obtain ⟨Ao42, co42, eo42⟩ := Kd.R_slice HO152.out; subst eo42) | ((with_reducible refine gate_callee (f := 96) rfl ?_); refine goesL_ (some 43) rfl rfl Try.func96 (by kernel_rfl) rfl #[.slice Ao42 y150.length co42] rfl (by (try simp only [List.map_toArray, List.map_cons, List.map_nil]); first | done | rfl | (simp only [IntKind.wrap_u8, Int.emod_add_emod, Int.add_emod_emod] <;> rfl)) ?_; (with_reducible refine (isa80_form.calls (fun k_ => some k_ = (.slice Ao42 y150.length co42 : Value).ownBlock) (.slice Ao42 y150.length co42) y150 t153 w _ ?side1 ?side2 A38.out).mono ?_); (case side1 => repeat (first | (with_reducible first | exact HB.out | apply below_alloc | apply pw_below_drewN | apply below_drew1) | exact HB.out)); (case side2 => exact Kd.R_tight rfl HO152.out); rintro e w43 ⟨v154, rfl, ho0, hb, hkp⟩; refine ⟨_, rfl, ?_⟩; have n0_ := Aside0.mk (Kd.R_mono (ok' := fun k_ => True) ho0 (fun k_ hk_ => trivial)); have n1_ := Aside0.mk (hb); clear HB; clear HO152; have HO155 := n0_; have HB := n1_; clear n0_ n1_; (try clear hb); (try clear hkp); (try clear ho0)))
            go_ret
            exact ⟨_, by first | rfl | (simp <;> rfl) | (simp [*] <;> rfl), by (with_reducible repeat (first | apply Kd.R_alloc | apply Kd.R_drewN | apply Kd.R_drew)); exact HO155.out, by with_reducible repeat (first | exact HB.out | apply below_alloc | apply pw_below_drewN | apply below_drew1)⟩
          · rw [if_neg c36] at H
            have c36b0 : ((Go.bits .and .u8 a0 15) == 1) = false := beq_eq_false_iff_ne.mpr c36
            have c36b1 : ((Go.bits .and .u8 a0 15) != 1) = true := bne_iff_ne.mpr c36
            by_cases c44 : (Go.bits .and .u8 a0 15) = 3
            · rw [if_pos c44] at H
              have c44b0 : ((Go.bits .and .u8 a0 15) == 3) = true := beq_iff_eq.mpr c44
              have c44b1 : ((Go.bits .and .u8 a0 15) != 3) = false := bne_eq_false_iff_eq.mpr c44
              clear c44
              replace H := Option.bind_eq_some_iff.mp H
              obtain ⟨t156, A450, H⟩ := H
              have A45 := Aside0.mk A450
              clear A450
              obtain ⟨y157, hy157⟩ : ∃ y_ : List ByteArray, y_ = (([(⟨#[73, 78, 88]⟩ : ByteArray), t156] : List ByteArray)) := ⟨_, rfl⟩
              try rw [← hy157] at H
              have Ny157 := Aside0.mk hy157
              clear hy157
              replace H := Option.bind_eq_some_iff.mp H
              obtain ⟨t160, A460, H⟩ := H
              have A46 := Aside0.mk A460
              clear A460
              obtain rfl := Option.some.inj H
              go_enter Try.func95, Try.ntmps95
              go_wp2_with (first | ((with_reducible refine gate_callee (f := 104) rfl ?_); refine goesL_ (some 47) rfl rfl Try.func104 (by kernel_rfl) rfl #[.int .u8 (a0 / 16)] rfl (by (try simp only [List.map_toArray, List.map_cons, List.map_nil]); first | done | rfl | (simp only [IntKind.wrap_u8, Int.emod_add_emod, Int.add_emod_emod] <;> rfl)) ?_; (with_reducible refine (isa80_pair.calls (a0 / 16) t156 _ A45.out).mono ?_); rintro e w47 ⟨rfl, hb⟩; refine ⟨_, rfl, ?_⟩; have n0_ := Aside0.mk (below_step (by with_reducible repeat (first | exact HB.out | apply below_alloc | apply pw_below_drewN | apply below_drew1)) hb); clear HB; have HB := n0_; clear n0_; (try clear hb); (try clear hb2); (try clear hk); (try clear hi)) | ((with_reducible refine gate_dst (N := 48) rfl ?_); refine Kd.R_lit Kd.string _ 9 ?hg (N := 48) ?hd (xs := ([⟨#[73, 78, 88]⟩, t156] : List ByteArray)) (inner := [.string ⟨#[73, 78, 88]⟩, .string t156]) (ok := fun _ => True) (okp := fun _ => True) ?hr ?hp (fun _ hk => hk) trivial (Below.refl _ _) (Nat.le_refl _) (by simp) ?_; (case hd => rfl); (case hg => rfl); (case hr => first | (go_simp; done) | (go_simp; rfl)); (case hp => exact (Reps.one (show Kd.M Kd.string _ _ _ ⟨#[73, 78, 88]⟩ [.string ⟨#[73, 78, 88]⟩] from rfl) (Reps.one (show Kd.M Kd.string _ _ _ t156 [.string t156] from rfl) (Reps.none _ _)))); intro v158 w48 ho49 hb hg_ hnew_; clear hg_ hnew_; (first | rw [← Ny157.out] at ho49 | (simp only [Int.reduceToNat] at ho49; rw [← Ny157.out] at ho49)); have n0_ := Aside0.mk (Kd.R_lower ho49 (below_size (by with_reducible repeat (first | exact HB.out | apply below_alloc | apply pw_below_drewN | apply below_drew1)))); have n1_ := Aside0.mk (below_step (by with_reducible repeat (first | exact HB.out | apply below_alloc | apply pw_below_drewN | apply below_drew1)) hb); clear HB; have HO159 := n0_; have HB := n1_; clear n0_ n1_; clear hb ho49; obtain ⟨Ao50, co50, eo50⟩ := Kd.R_slice HO159.out; subst eo50) | ((with_reducible refine gate_callee (f := 96) rfl ?_); refine goesL_ (some 49) rfl rfl Try.func96 (by kernel_rfl) rfl #[.slice Ao50 y157.length co50] rfl (by (try simp only [List.map_toArray, List.map_cons, List.map_nil]); first | done | rfl | (simp only [IntKind.wrap_u8, Int.emod_add_emod, Int.add_emod_emod] <;> rfl)) ?_; (with_reducible refine (isa80_form.calls (fun k_ => some k_ = (.slice Ao50 y157.length co50 : Value).ownBlock) (.slice Ao50 y157.length co50) y157 t160 w _ ?side1 ?side2 A46.out).mono ?_); (case side1 => repeat (first | (with_reducible first | exact HB.out | apply below_alloc | apply pw_below_drewN | apply below_drew1) | exact HB.out)); (case side2 => exact Kd.R_tight rfl HO159.out); rintro e w51 ⟨v161, rfl, ho0, hb, hkp⟩; refine ⟨_, rfl, ?_⟩; have n0_ := Aside0.mk (Kd.R_mono (ok' := fun k_ => True) ho0 (fun k_ hk_ => trivial)); have n1_ := Aside0.mk (hb); clear HB; clear HO159; have HO162 := n0_; have HB := n1_; clear n0_ n1_; (try clear hb); (try clear hkp); (try clear ho0)))
              go_ret
              exact ⟨_, by first | rfl | (simp <;> rfl) | (simp [*] <;> rfl), by (with_reducible repeat (first | apply Kd.R_alloc | apply Kd.R_drewN | apply Kd.R_drew)); exact HO162.out, by with_reducible repeat (first | exact HB.out | apply below_alloc | apply pw_below_drewN | apply below_drew1)⟩
            · rw [if_neg c44] at H
              have c44b0 : ((Go.bits .and .u8 a0 15) == 3) = false := beq_eq_false_iff_ne.mpr c44
              have c44b1 : ((Go.bits .and .u8 a0 15) != 3) = true := bne_iff_ne.mpr c44
              by_cases c52 : (Go.bits .and .u8 a0 15) = 9
              · rw [if_pos c52] at H
                have c52b0 : ((Go.bits .and .u8 a0 15) == 9) = true := beq_iff_eq.mpr c52
                have c52b1 : ((Go.bits .and .u8 a0 15) != 9) = false := bne_eq_false_iff_eq.mpr c52
                clear c52
                replace H := Option.bind_eq_some_iff.mp H
                obtain ⟨t163, A530, H⟩ := H
                have A53 := Aside0.mk A530
                clear A530
                obtain ⟨y164, hy164⟩ : ∃ y_ : List ByteArray, y_ = (([(⟨#[68, 65, 68]⟩ : ByteArray), t163] : List ByteArray)) := ⟨_, rfl⟩
                try rw [← hy164] at H
                have Ny164 := Aside0.mk hy164
                clear hy164
                replace H := Option.bind_eq_some_iff.mp H
                obtain ⟨t167, A540, H⟩ := H
                have A54 := Aside0.mk A540
                clear A540
                obtain rfl := Option.some.inj H
                go_enter Try.func95, Try.ntmps95
                go_wp2_with (first | ((with_reducible refine gate_callee (f := 104) rfl ?_); refine goesL_ (some 53) rfl rfl Try.func104 (by kernel_rfl) rfl #[.int .u8 (a0 / 16)] rfl (by (try simp only [List.map_toArray, List.map_cons, List.map_nil]); first | done | rfl | (simp only [IntKind.wrap_u8, Int.emod_add_emod, Int.add_emod_emod] <;> rfl)) ?_; (with_reducible refine (isa80_pair.calls (a0 / 16) t163 _ A53.out).mono ?_); rintro e w55 ⟨rfl, hb⟩; refine ⟨_, rfl, ?_⟩; have n0_ := Aside0.mk (below_step (by with_reducible repeat (first | exact HB.out | apply below_alloc | apply pw_below_drewN | apply below_drew1)) hb); clear HB; have HB := n0_; clear n0_; (try clear hb); (try clear hb2); (try clear hk); (try clear hi)) | ((with_reducible refine gate_dst (N := 54) rfl ?_); refine Kd.R_lit Kd.string _ 9 ?hg (N := 54) ?hd (xs := ([⟨#[68, 65, 68]⟩, t163] : List ByteArray)) (inner := [.string ⟨#[68, 65, 68]⟩, .string t163]) (ok := fun _ => True) (okp := fun _ => True) ?hr ?hp (fun _ hk => hk) trivial (Below.refl _ _) (Nat.le_refl _) (by simp) ?_; (case hd => rfl); (case hg => rfl); (case hr => first | (go_simp; done) | (go_simp; rfl)); (case hp => exact (Reps.one (show Kd.M Kd.string _ _ _ ⟨#[68, 65, 68]⟩ [.string ⟨#[68, 65, 68]⟩] from rfl) (Reps.one (show Kd.M Kd.string _ _ _ t163 [.string t163] from rfl) (Reps.none _ _)))); intro v165 w56 ho57 hb hg_ hnew_; clear hg_ hnew_; (first | rw [← Ny164.out] at ho57 | (simp only [Int.reduceToNat] at ho57; rw [← Ny164.out] at ho57)); have n0_ := Aside0.mk (Kd.R_lower ho57 (below_size (by with_reducible repeat (first | exact HB.out | apply below_alloc | apply pw_below_drewN | apply below_drew1)))); have n1_ := Aside0.mk (below_step (by with_reducible repeat (first | exact HB.out | apply below_alloc | apply pw_below_drewN | apply below_drew1)) hb); clear HB; have HO166 := n0_; have HB := n1_; clear n0_ n1_; clear hb ho57; obtain ⟨Ao58, co58, eo58⟩ := Kd.R_slice HO166.out; subst eo58) | ((with_reducible refine gate_callee (f := 96) rfl ?_); refine goesL_ (some 55) rfl rfl Try.func96 (by kernel_rfl) rfl #[.slice Ao58 y164.length co58] rfl (by (try simp only [List.map_toArray, List.map_cons, List.map_nil]); first | done | rfl | (simp only [IntKind.wrap_u8, Int.emod_add_emod, Int.add_emod_emod] <;> rfl)) ?_; (with_reducible refine (isa80_form.calls (fun k_ => some k_ = (.slice Ao58 y164.length co58 : Value).ownBlock) (.slice Ao58 y164.length co58) y164 t167 w _ ?side1 ?side2 A54.out).mono ?_); (case side1 => repeat (first | (with_reducible first | exact HB.out | apply below_alloc | apply pw_below_drewN | apply below_drew1) | exact HB.out)); (case side2 => exact Kd.R_tight rfl HO166.out); rintro e w59 ⟨v168, rfl, ho0, hb, hkp⟩; refine ⟨_, rfl, ?_⟩; have n0_ := Aside0.mk (Kd.R_mono (ok' := fun k_ => True) ho0 (fun k_ hk_ => trivial)); have n1_ := Aside0.mk (hb); clear HB; clear HO166; have HO169 := n0_; have HB := n1_; clear n0_ n1_; (try clear hb); (try clear hkp); (try clear ho0)))
                go_ret
                exact ⟨_, by first | rfl | (simp <;> rfl) | (simp [*] <;> rfl), by (with_reducible repeat (first | apply Kd.R_alloc | apply Kd.R_drewN | apply Kd.R_drew)); exact HO169.out, by with_reducible repeat (first | exact HB.out | apply below_alloc | apply pw_below_drewN | apply below_drew1)⟩
              · rw [if_neg c52] at H
                have c52b0 : ((Go.bits .and .u8 a0 15) == 9) = false := beq_eq_false_iff_ne.mpr c52
                have c52b1 : ((Go.bits .and .u8 a0 15) != 9) = true := bne_iff_ne.mpr c52
                by_cases c60 : (Go.bits .and .u8 a0 15) = 11
                · rw [if_pos c60] at H
                  have c60b0 : ((Go.bits .and .u8 a0 15) == 11) = true := beq_iff_eq.mpr c60
                  have c60b1 : ((Go.bits .and .u8 a0 15) != 11) = false := bne_eq_false_iff_eq.mpr c60
                  clear c60
                  replace H := Option.bind_eq_some_iff.mp H
                  obtain ⟨t170, A610, H⟩ := H
                  have A61 := Aside0.mk A610
                  clear A610
                  obtain ⟨y171, hy171⟩ : ∃ y_ : List ByteArray, y_ = (([(⟨#[68, 67, 88]⟩ : ByteArray), t170] : List ByteArray)) := ⟨_, rfl⟩
                  try rw [← hy171] at H
                  have Ny171 := Aside0.mk hy171
                  clear hy171
                  replace H := Option.bind_eq_some_iff.mp H
                  obtain ⟨t174, A620, H⟩ := H
                  have A62 := Aside0.mk A620
                  clear A620
                  obtain rfl := Option.some.inj H
                  go_enter Try.func95, Try.ntmps95
                  go_wp2_with (first | ((with_reducible refine gate_callee (f := 104) rfl ?_); refine goesL_ (some 59) rfl rfl Try.func104 (by kernel_rfl) rfl #[.int .u8 (a0 / 16)] rfl (by (try simp only [List.map_toArray, List.map_cons, List.map_nil]); first | done | rfl | (simp only [IntKind.wrap_u8, Int.emod_add_emod, Int.add_emod_emod] <;> rfl)) ?_; (with_reducible refine (isa80_pair.calls (a0 / 16) t170 _ A61.out).mono ?_); rintro e w63 ⟨rfl, hb⟩; refine ⟨_, rfl, ?_⟩; have n0_ := Aside0.mk (below_step (by with_reducible repeat (first | exact HB.out | apply below_alloc | apply pw_below_drewN | apply below_drew1)) hb); clear HB; have HB := n0_; clear n0_; (try clear hb); (try clear hb2); (try clear hk); (try clear hi)) | ((with_reducible refine gate_dst (N := 60) rfl ?_); refine Kd.R_lit Kd.string _ 9 ?hg (N := 60) ?hd (xs := ([⟨#[68, 67, 88]⟩, t170] : List ByteArray)) (inner := [.string ⟨#[68, 67, 88]⟩, .string t170]) (ok := fun _ => True) (okp := fun _ => True) ?hr ?hp (fun _ hk => hk) trivial (Below.refl _ _) (Nat.le_refl _) (by simp) ?_; (case hd => rfl); (case hg => rfl); (case hr => first | (go_simp; done) | (go_simp; rfl)); (case hp => exact (Reps.one (show Kd.M Kd.string _ _ _ ⟨#[68, 67, 88]⟩ [.string ⟨#[68, 67, 88]⟩] from rfl) (Reps.one (show Kd.M Kd.string _ _ _ t170 [.string t170] from rfl) (Reps.none _ _)))); intro v172 w64 ho65 hb hg_ hnew_; clear hg_ hnew_; (first | rw [← Ny171.out] at ho65 | (simp only [Int.reduceToNat] at ho65; rw [← Ny171.out] at ho65)); have n0_ := Aside0.mk (Kd.R_lower ho65 (below_size (by with_reducible repeat (first | exact HB.out | apply below_alloc | apply pw_below_drewN | apply below_drew1)))); have n1_ := Aside0.mk (below_step (by with_reducible repeat (first | exact HB.out | apply below_alloc | apply pw_below_drewN | apply below_drew1)) hb); clear HB; have HO173 := n0_; have HB := n1_; clear n0_ n1_; clear hb ho65; obtain ⟨Ao66, co66, eo66⟩ := Kd.R_slice HO173.out; subst eo66) | ((with_reducible refine gate_callee (f := 96) rfl ?_); refine goesL_ (some 61) rfl rfl Try.func96 (by kernel_rfl) rfl #[.slice Ao66 y171.length co66] rfl (by (try simp only [List.map_toArray, List.map_cons, List.map_nil]); first | done | rfl | (simp only [IntKind.wrap_u8, Int.emod_add_emod, Int.add_emod_emod] <;> rfl)) ?_; (with_reducible refine (isa80_form.calls (fun k_ => some k_ = (.slice Ao66 y171.length co66 : Value).ownBlock) (.slice Ao66 y171.length co66) y171 t174 w _ ?side1 ?side2 A62.out).mono ?_); (case side1 => repeat (first | (with_reducible first | exact HB.out | apply below_alloc | apply pw_below_drewN | apply below_drew1) | exact HB.out)); (case side2 => exact Kd.R_tight rfl HO173.out); rintro e w67 ⟨v175, rfl, ho0, hb, hkp⟩; refine ⟨_, rfl, ?_⟩; have n0_ := Aside0.mk (Kd.R_mono (ok' := fun k_ => True) ho0 (fun k_ hk_ => trivial)); have n1_ := Aside0.mk (hb); clear HB; clear HO173; have HO176 := n0_; have HB := n1_; clear n0_ n1_; (try clear hb); (try clear hkp); (try clear ho0)))
                  go_ret
                  exact ⟨_, by first | rfl | (simp <;> rfl) | (simp [*] <;> rfl), by (with_reducible repeat (first | apply Kd.R_alloc | apply Kd.R_drewN | apply Kd.R_drew)); exact HO176.out, by with_reducible repeat (first | exact HB.out | apply below_alloc | apply pw_below_drewN | apply below_drew1)⟩
                · rw [if_neg c60] at H
                  have c60b0 : ((Go.bits .and .u8 a0 15) == 11) = false := beq_eq_false_iff_ne.mpr c60
                  have c60b1 : ((Go.bits .and .u8 a0 15) != 11) = true := bne_iff_ne.mpr c60
                  by_cases c68 : a0 = 0
                  · rw [if_pos c68] at H
                    have c68b0 : (a0 == 0) = true := beq_iff_eq.mpr c68
                    have c68b1 : (a0 != 0) = false := bne_eq_false_iff_eq.mpr c68
                    clear c68
                    obtain ⟨y177, hy177⟩ : ∃ y_ : List ByteArray, y_ = (([(⟨#[78, 79, 80]⟩ : ByteArray)] : List ByteArray)) := ⟨_, rfl⟩
                    try rw [← hy177] at H
                    have Ny177 := Aside0.mk hy177
                    clear hy177
                    replace H := Option.bind_eq_some_iff.mp H
                    obtain ⟨t180, A690, H⟩ := H
                    have A69 := Aside0.mk A690
                    clear A690
                    obtain rfl := Option.some.inj H
                    go_enter Try.func95, Try.ntmps95
                    go_wp2_with (first | ((with_reducible refine gate_dst (N := 65) rfl ?_); refine Kd.R_lit Kd.string _ 9 ?hg (N := 65) ?hd (xs := ([⟨#[78, 79, 80]⟩] : List ByteArray)) (inner := [.string ⟨#[78, 79, 80]⟩]) (ok := fun _ => True) (okp := fun _ => True) ?hr ?hp (fun _ hk => hk) trivial (Below.refl _ _) (Nat.le_refl _) (by simp) ?_; (case hd => rfl); (case hg => rfl); (case hr => first | (go_simp; done) | (go_simp; rfl)); (case hp => exact (Reps.one (show Kd.M Kd.string _ _ _ ⟨#[78, 79, 80]⟩ [.string ⟨#[78, 79, 80]⟩] from rfl) (Reps.none _ _))); intro v178 w70 ho71 hb hg_ hnew_; clear hg_ hnew_; (first | rw [← Ny177.out] at ho71 | (simp only [Int.reduceToNat] at ho71; rw [← Ny177.out] at ho71)); have n0_ := Aside0.mk (Kd.R_lower ho71 (below_size (by with_reducible repeat (first | exact HB.out | apply below_alloc | apply pw_below_drewN | apply below_drew1)))); have n1_ := Aside0.mk (below_step (by with_reducible repeat (first | exact HB.out | apply below_alloc | apply pw_below_drewN | apply below_drew1)) hb); clear HB; have HO179 := n0_; have HB := n1_; clear n0_ n1_; clear hb ho71; obtain ⟨Ao72, co72, eo72⟩ := Kd.R_slice HO179.out; subst eo72) | ((with_reducible refine gate_callee (f := 96) rfl ?_); refine goesL_ (some 66) rfl rfl Try.func96 (by kernel_rfl) rfl #[.slice Ao72 y177.length co72] rfl (by (try simp only [List.map_toArray, List.map_cons, List.map_nil]); first | done | rfl | (simp only [IntKind.wrap_u8, Int.emod_add_emod, Int.add_emod_emod] <;> rfl)) ?_; (with_reducible refine (isa80_form.calls (fun k_ => some k_ = (.slice Ao72 y177.length co72 : Value).ownBlock) (.slice Ao72 y177.length co72) y177 t180 w _ ?side1 ?side2 A69.out).mono ?_); (case side1 => repeat (first | (with_reducible first | exact HB.out | apply below_alloc | apply pw_below_drewN | apply below_drew1) | exact HB.out)); (case side2 => exact Kd.R_tight rfl HO179.out); rintro e w73 ⟨v181, rfl, ho0, hb, hkp⟩; refine ⟨_, rfl, ?_⟩; have n0_ := Aside0.mk (Kd.R_mono (ok' := fun k_ => True) ho0 (fun k_ hk_ => trivial)); have n1_ := Aside0.mk (hb); clear HB; clear HO179; have HO182 := n0_; have HB := n1_; clear n0_ n1_; (try clear hb); (try clear hkp); (try clear ho0)))
                    go_ret
                    exact ⟨_, by first | rfl | (simp <;> rfl) | (simp [*] <;> rfl), by (with_reducible repeat (first | apply Kd.R_alloc | apply Kd.R_drewN | apply Kd.R_drew)); exact HO182.out, by with_reducible repeat (first | exact HB.out | apply below_alloc | apply pw_below_drewN | apply below_drew1)⟩
                  · rw [if_neg c68] at H
                    have c68b0 : (a0 == 0) = false := beq_eq_false_iff_ne.mpr c68
                    have c68b1 : (a0 != 0) = true := bne_iff_ne.mpr c68
                    have HC74 := Aside0.mk H
                    clear H
                    go_enter Try.func95, Try.ntmps95
                    go_upto_if 67 with (fail)
                    go_cut [67] (fun v67 wc => ∃ (kq : Nat) (x67_73 : Bool), v67 = .bool x67_73 ∧ Aside0 (isa80_low.j0 kq (a0 / 8) (a0 / 16) a0 x67_73 = some r) ∧ Aside0 (kq ≤ k) ∧ Aside0 (Below w.heap.size w wc))
                    case first =>
                      have H := HC74.out
                      clear HC74
                      by_cases c75 : a0 = 2
                      · rw [if_pos c75] at H
                        have c75b0 : (a0 == 2) = true := beq_iff_eq.mpr c75
                        have c75b1 : (a0 != 2) = false := bne_eq_false_iff_eq.mpr c75
                        clear c75
                        (first | rw [c75b0] | (simp only [i64_w, i32_w]; rw [c75b0]) | skip)
                        have H' := Aside0.mk H
                        clear H
                        go_wp2
                        go_meet
                        case rel => exact ⟨_, ((a0 == 2)), (by first | rfl | (simp; done) | (simp [*]; done)), H', ⟨by first | omega | exact Nat.le_refl _⟩, ⟨by with_reducible repeat (first | exact HB.out | apply below_alloc | apply pw_below_drewN | apply below_drew1)⟩⟩
                      · rw [if_neg c75] at H
                        have c75b0 : (a0 == 2) = false := beq_eq_false_iff_ne.mpr c75
                        have c75b1 : (a0 != 2) = true := bne_iff_ne.mpr c75
                        (first | rw [c75b0] | (simp only [i64_w, i32_w]; rw [c75b0]) | skip)
                        have H' := Aside0.mk H
                        clear H
                        go_wp2
                        go_meet
                        case rel => exact ⟨_, ((a0 == 18)), (by first | rfl | (simp; done) | (simp [*]; done)), H', ⟨by first | omega | exact Nat.le_refl _⟩, ⟨by with_reducible repeat (first | exact HB.out | apply below_alloc | apply pw_below_drewN | apply below_drew1)⟩⟩
                    case rest =>
                      clear HC74
                      try clear c1
                      try clear c2
                      try clear c2b0
                      try clear c2b1
                      try clear p2
                      try clear c3
                      try clear c4
                      try clear c5
                      try clear c6
                      try clear c7
                      try clear c9
                      try clear c10
                      try clear c10b0
                      try clear c10b1
                      try clear c18
                      try clear c18b0
                      try clear c18b1
                      try clear c26
                      try clear c26b0
                      try clear c26b1
                      try clear c36
                      try clear c36b0
                      try clear c36b1
                      try clear c44
                      try clear c44b0
                      try clear c44b1
                      try clear c52
                      try clear c52b0
                      try clear c52b1
                      try clear c60
                      try clear c60b0
                      try clear c60b1
                      try clear c68
                      try clear c68b0
                      try clear c68b1
                      try clear c75
                      try clear c75b0
                      try clear c75b1
                      obtain ⟨kq, x67_73, rfl, HA, HJ73, HB⟩ := hcut
                      cases kq with
                      | zero => exact absurd HA.out (by simp [isa80_low.j0])
                      | succ kj73 =>
                        have H := HA.out
                        clear HA
                        simp only [isa80_low.j0] at H
                        by_cases c76 : x67_73 = true
                        · subst c76
                          have H1 : ((isa80_pair.f (a0 / 16)).bind fun t183 => ((isa80_form.f (([(⟨#[83, 84, 65, 88]⟩ : ByteArray), t183] : List ByteArray))).bind fun t187 => (some t187))) = some r := by rw [if_pos rfl] at H; exact H
                          clear H
                          have H := H1
                          clear H1
                          replace H := Option.bind_eq_some_iff.mp H
                          obtain ⟨t183, A770, H⟩ := H
                          have A77 := Aside0.mk A770
                          clear A770
                          obtain ⟨y184, hy184⟩ : ∃ y_ : List ByteArray, y_ = (([(⟨#[83, 84, 65, 88]⟩ : ByteArray), t183] : List ByteArray)) := ⟨_, rfl⟩
                          try rw [← hy184] at H
                          have Ny184 := Aside0.mk hy184
                          clear hy184
                          replace H := Option.bind_eq_some_iff.mp H
                          obtain ⟨t187, A780, H⟩ := H
                          have A78 := Aside0.mk A780
                          clear A780
                          obtain rfl := Option.some.inj H
                          go_wp2_with (first | ((with_reducible refine gate_callee (f := 104) rfl ?_); refine goesL_ (some 71) rfl rfl Try.func104 (by kernel_rfl) rfl #[.int .u8 (a0 / 16)] rfl (by (try simp only [List.map_toArray, List.map_cons, List.map_nil]); first | done | rfl | (simp only [IntKind.wrap_u8, Int.emod_add_emod, Int.add_emod_emod] <;> rfl)) ?_; (with_reducible refine (isa80_pair.calls (a0 / 16) t183 _ A77.out).mono ?_); rintro e w79 ⟨rfl, hb⟩; refine ⟨_, rfl, ?_⟩; have n0_ := Aside0.mk (below_step (by with_reducible repeat (first | exact HB.out | apply below_alloc | apply pw_below_drewN | apply below_drew1)) hb); clear HB; have HB := n0_; clear n0_; (try clear hb); (try clear hb2); (try clear hk); (try clear hi)) | ((with_reducible refine gate_dst (N := 72) rfl ?_); refine Kd.R_lit Kd.string _ 9 ?hg (N := 72) ?hd (xs := ([⟨#[83, 84, 65, 88]⟩, t183] : List ByteArray)) (inner := [.string ⟨#[83, 84, 65, 88]⟩, .string t183]) (ok := fun _ => True) (okp := fun _ => True) ?hr ?hp (fun _ hk => hk) trivial (Below.refl _ _) (Nat.le_refl _) (by simp) ?_; (case hd => rfl); (case hg => rfl); (case hr => first | (go_simp; done) | (go_simp; rfl)); (case hp => exact (Reps.one (show Kd.M Kd.string _ _ _ ⟨#[83, 84, 65, 88]⟩ [.string ⟨#[83, 84, 65, 88]⟩] from rfl) (Reps.one (show Kd.M Kd.string _ _ _ t183 [.string t183] from rfl) (Reps.none _ _)))); intro v185 w80 ho81 hb hg_ hnew_; clear hg_ hnew_; (first | rw [← Ny184.out] at ho81 | (simp only [Int.reduceToNat] at ho81; rw [← Ny184.out] at ho81)); have n0_ := Aside0.mk (Kd.R_lower ho81 (below_size (by with_reducible repeat (first | exact HB.out | apply below_alloc | apply pw_below_drewN | apply below_drew1)))); have n1_ := Aside0.mk (below_step (by with_reducible repeat (first | exact HB.out | apply below_alloc | apply pw_below_drewN | apply below_drew1)) hb); clear HB; have HO186 := n0_; have HB := n1_; clear n0_ n1_; clear hb ho81; obtain ⟨Ao82, co82, eo82⟩ := Kd.R_slice HO186.out; subst eo82) | ((with_reducible refine gate_callee (f := 96) rfl ?_); refine goesL_ (some 73) rfl rfl Try.func96 (by kernel_rfl) rfl #[.slice Ao82 y184.length co82] rfl (by (try simp only [List.map_toArray, List.map_cons, List.map_nil]); first | done | rfl | (simp only [IntKind.wrap_u8, Int.emod_add_emod, Int.add_emod_emod] <;> rfl)) ?_; (with_reducible refine (isa80_form.calls (fun k_ => some k_ = (.slice Ao82 y184.length co82 : Value).ownBlock) (.slice Ao82 y184.length co82) y184 t187 w _ ?side1 ?side2 A78.out).mono ?_); (case side1 => repeat (first | (with_reducible first | exact HB.out | apply below_alloc | apply pw_below_drewN | apply below_drew1) | exact HB.out)); (case side2 => exact Kd.R_tight rfl HO186.out); rintro e w83 ⟨v188, rfl, ho0, hb, hkp⟩; refine ⟨_, rfl, ?_⟩; have n0_ := Aside0.mk (Kd.R_mono (ok' := fun k_ => True) ho0 (fun k_ hk_ => trivial)); have n1_ := Aside0.mk (hb); clear HB; clear HO186; have HO189 := n0_; have HB := n1_; clear n0_ n1_; (try clear hb); (try clear hkp); (try clear ho0)))
                          go_ret
                          exact ⟨_, by first | rfl | (simp <;> rfl) | (simp [*] <;> rfl), by (with_reducible repeat (first | apply Kd.R_alloc | apply Kd.R_drewN | apply Kd.R_drew)); exact HO189.out, by with_reducible repeat (first | exact HB.out | apply below_alloc | apply pw_below_drewN | apply below_drew1)⟩
                        · replace c76 := Bool.eq_false_iff.mpr c76
                          subst c76
                          have H1 : (if a0 = 10 then (isa80_low.j1 kj73 (a0 / 8) (a0 / 16) a0 (a0 == 10)) else (isa80_low.j1 kj73 (a0 / 8) (a0 / 16) a0 (a0 == 26))) = some r := by rw [if_neg (show ¬ (false = true) by decide)] at H; exact H
                          clear H
                          have H := H1
                          clear H1
                          have HC84 := Aside0.mk H
                          clear H
                          go_upto_if 74 with (fail)
                          go_cut [74] (fun v74 wc => ∃ (kq : Nat) (x74_83 : Bool), v74 = .bool x74_83 ∧ Aside0 (isa80_low.j1 kq (a0 / 8) (a0 / 16) a0 x74_83 = some r) ∧ Aside0 (kq ≤ kj73) ∧ Aside0 (Below w.heap.size w wc))
                          case first =>
                            have H := HC84.out
                            clear HC84
                            by_cases c85 : a0 = 10
                            · rw [if_pos c85] at H
                              have c85b0 : (a0 == 10) = true := beq_iff_eq.mpr c85
                              have c85b1 : (a0 != 10) = false := bne_eq_false_iff_eq.mpr c85
                              clear c85
                              (first | rw [c85b0] | (simp only [i64_w, i32_w]; rw [c85b0]) | skip)
                              have H' := Aside0.mk H
                              clear H
                              go_wp2
                              go_meet
                              case rel => exact ⟨_, ((a0 == 10)), (by first | rfl | (simp; done) | (simp [*]; done)), H', ⟨by have := HJ73.out; first | omega | exact Nat.le_refl _⟩, ⟨by with_reducible repeat (first | exact HB.out | apply below_alloc | apply pw_below_drewN | apply below_drew1)⟩⟩
                            · rw [if_neg c85] at H
                              have c85b0 : (a0 == 10) = false := beq_eq_false_iff_ne.mpr c85
                              have c85b1 : (a0 != 10) = true := bne_iff_ne.mpr c85
                              (first | rw [c85b0] | (simp only [i64_w, i32_w]; rw [c85b0]) | skip)
                              have H' := Aside0.mk H
                              clear H
                              go_wp2
                              go_meet
                              case rel => exact ⟨_, ((a0 == 26)), (by first | rfl | (simp; done) | (simp [*]; done)), H', ⟨by have := HJ73.out; first | omega | exact Nat.le_refl _⟩, ⟨by with_reducible repeat (first | exact HB.out | apply below_alloc | apply pw_below_drewN | apply below_drew1)⟩⟩
                          case rest =>
                            clear HC84
                            try clear c1
                            try clear c2
                            try clear c2b0
                            try clear c2b1
                            try clear p2
                            try clear c3
                            try clear c4
                            try clear c5
                            try clear c6
                            try clear c7
                            try clear c8
                            try clear c9
                            try clear c10
                            try clear c10b0
                            try clear c10b1
                            try clear c18
                            try clear c18b0
                            try clear c18b1
                            try clear c26
                            try clear c26b0
                            try clear c26b1
                            try clear c36
                            try clear c36b0
                            try clear c36b1
                            try clear c44
                            try clear c44b0
                            try clear c44b1
                            try clear c52
                            try clear c52b0
                            try clear c52b1
                            try clear c60
                            try clear c60b0
                            try clear c60b1
                            try clear c68
                            try clear c68b0
                            try clear c68b1
                            try clear c75
                            try clear c75b0
                            try clear c75b1
                            try clear c76
                            try clear c85
                            try clear c85b0
                            try clear c85b1
                            try clear p2
                            obtain ⟨kq, x74_83, rfl, HA, HJ83, HB⟩ := hcut
                            cases kq with
                            | zero => exact absurd HA.out (by simp [isa80_low.j1])
                            | succ kj83 =>
                              have H := HA.out
                              clear HA
                              simp only [isa80_low.j1] at H
                              by_cases c86 : x74_83 = true
                              · subst c86
                                have H1 : ((isa80_pair.f (a0 / 16)).bind fun t190 => ((isa80_form.f (([(⟨#[76, 68, 65, 88]⟩ : ByteArray), t190] : List ByteArray))).bind fun t194 => (some t194))) = some r := by rw [if_pos rfl] at H; exact H
                                clear H
                                have H := H1
                                clear H1
                                replace H := Option.bind_eq_some_iff.mp H
                                obtain ⟨t190, A870, H⟩ := H
                                have A87 := Aside0.mk A870
                                clear A870
                                obtain ⟨y191, hy191⟩ : ∃ y_ : List ByteArray, y_ = (([(⟨#[76, 68, 65, 88]⟩ : ByteArray), t190] : List ByteArray)) := ⟨_, rfl⟩
                                try rw [← hy191] at H
                                have Ny191 := Aside0.mk hy191
                                clear hy191
                                replace H := Option.bind_eq_some_iff.mp H
                                obtain ⟨t194, A880, H⟩ := H
                                have A88 := Aside0.mk A880
                                clear A880
                                obtain rfl := Option.some.inj H
                                go_wp2_with (first | ((with_reducible refine gate_callee (f := 104) rfl ?_); refine goesL_ (some 78) rfl rfl Try.func104 (by kernel_rfl) rfl #[.int .u8 (a0 / 16)] rfl (by (try simp only [List.map_toArray, List.map_cons, List.map_nil]); first | done | rfl | (simp only [IntKind.wrap_u8, Int.emod_add_emod, Int.add_emod_emod] <;> rfl)) ?_; (with_reducible refine (isa80_pair.calls (a0 / 16) t190 _ A87.out).mono ?_); rintro e w89 ⟨rfl, hb⟩; refine ⟨_, rfl, ?_⟩; have n0_ := Aside0.mk (below_step (by with_reducible repeat (first | exact HB.out | apply below_alloc | apply pw_below_drewN | apply below_drew1)) hb); clear HB; have HB := n0_; clear n0_; (try clear hb); (try clear hb2); (try clear hk); (try clear hi)) | ((with_reducible refine gate_dst (N := 79) rfl ?_); refine Kd.R_lit Kd.string _ 9 ?hg (N := 79) ?hd (xs := ([⟨#[76, 68, 65, 88]⟩, t190] : List ByteArray)) (inner := [.string ⟨#[76, 68, 65, 88]⟩, .string t190]) (ok := fun _ => True) (okp := fun _ => True) ?hr ?hp (fun _ hk => hk) trivial (Below.refl _ _) (Nat.le_refl _) (by simp) ?_; (case hd => rfl); (case hg => rfl); (case hr => first | (go_simp; done) | (go_simp; rfl)); (case hp => exact (Reps.one (show Kd.M Kd.string _ _ _ ⟨#[76, 68, 65, 88]⟩ [.string ⟨#[76, 68, 65, 88]⟩] from rfl) (Reps.one (show Kd.M Kd.string _ _ _ t190 [.string t190] from rfl) (Reps.none _ _)))); intro v192 w90 ho91 hb hg_ hnew_; clear hg_ hnew_; (first | rw [← Ny191.out] at ho91 | (simp only [Int.reduceToNat] at ho91; rw [← Ny191.out] at ho91)); have n0_ := Aside0.mk (Kd.R_lower ho91 (below_size (by with_reducible repeat (first | exact HB.out | apply below_alloc | apply pw_below_drewN | apply below_drew1)))); have n1_ := Aside0.mk (below_step (by with_reducible repeat (first | exact HB.out | apply below_alloc | apply pw_below_drewN | apply below_drew1)) hb); clear HB; have HO193 := n0_; have HB := n1_; clear n0_ n1_; clear hb ho91; obtain ⟨Ao92, co92, eo92⟩ := Kd.R_slice HO193.out; subst eo92) | ((with_reducible refine gate_callee (f := 96) rfl ?_); refine goesL_ (some 80) rfl rfl Try.func96 (by kernel_rfl) rfl #[.slice Ao92 y191.length co92] rfl (by (try simp only [List.map_toArray, List.map_cons, List.map_nil]); first | done | rfl | (simp only [IntKind.wrap_u8, Int.emod_add_emod, Int.add_emod_emod] <;> rfl)) ?_; (with_reducible refine (isa80_form.calls (fun k_ => some k_ = (.slice Ao92 y191.length co92 : Value).ownBlock) (.slice Ao92 y191.length co92) y191 t194 w _ ?side1 ?side2 A88.out).mono ?_); (case side1 => repeat (first | (with_reducible first | exact HB.out | apply below_alloc | apply pw_below_drewN | apply below_drew1) | exact HB.out)); (case side2 => exact Kd.R_tight rfl HO193.out); rintro e w93 ⟨v195, rfl, ho0, hb, hkp⟩; refine ⟨_, rfl, ?_⟩; have n0_ := Aside0.mk (Kd.R_mono (ok' := fun k_ => True) ho0 (fun k_ hk_ => trivial)); have n1_ := Aside0.mk (hb); clear HB; clear HO193; have HO196 := n0_; have HB := n1_; clear n0_ n1_; (try clear hb); (try clear hkp); (try clear ho0)))
                                go_ret
                                exact ⟨_, by first | rfl | (simp <;> rfl) | (simp [*] <;> rfl), by (with_reducible repeat (first | apply Kd.R_alloc | apply Kd.R_drewN | apply Kd.R_drew)); exact HO196.out, by with_reducible repeat (first | exact HB.out | apply below_alloc | apply pw_below_drewN | apply below_drew1)⟩
                              · replace c86 := Bool.eq_false_iff.mpr c86
                                subst c86
                                have H1 : (if a0 = 34 then (isa80_low.j2 kj83 (a0 / 8) (a0 == 34)) else (if a0 = 42 then (isa80_low.j2 kj83 (a0 / 8) (a0 == 42)) else (if a0 = 50 then (isa80_low.j2 kj83 (a0 / 8) (a0 == 50)) else (isa80_low.j2 kj83 (a0 / 8) (a0 == 58))))) = some r := by rw [if_neg (show ¬ (false = true) by decide)] at H; exact H
                                clear H
                                have H := H1
                                clear H1
                                have HC94 := Aside0.mk H
                                clear H
                                go_upto_if 81 with (fail)
                                go_cut [81] (fun v81 wc => ∃ (kq : Nat) (x81_93 : Bool), v81 = .bool x81_93 ∧ Aside0 (isa80_low.j2 kq (a0 / 8) x81_93 = some r) ∧ Aside0 (kq ≤ kj83) ∧ Aside0 (Below w.heap.size w wc))
                                case first =>
                                  have H := HC94.out
                                  clear HC94
                                  by_cases c95 : a0 = 34
                                  · rw [if_pos c95] at H
                                    have c95b0 : (a0 == 34) = true := beq_iff_eq.mpr c95
                                    have c95b1 : (a0 != 34) = false := bne_eq_false_iff_eq.mpr c95
                                    clear c95
                                    (first | rw [c95b0] | (simp only [i64_w, i32_w]; rw [c95b0]) | skip)
                                    have H' := Aside0.mk H
                                    clear H
                                    go_wp2
                                    go_meet
                                    case rel => exact ⟨_, ((a0 == 34)), (by first | rfl | (simp; done) | (simp [*]; done)), H', ⟨by have := HJ73.out; have := HJ83.out; first | omega | exact Nat.le_refl _⟩, ⟨by with_reducible repeat (first | exact HB.out | apply below_alloc | apply pw_below_drewN | apply below_drew1)⟩⟩
                                  · rw [if_neg c95] at H
                                    have c95b0 : (a0 == 34) = false := beq_eq_false_iff_ne.mpr c95
                                    have c95b1 : (a0 != 34) = true := bne_iff_ne.mpr c95
                                    (first | rw [c95b0] | (simp only [i64_w, i32_w]; rw [c95b0]) | skip)
                                    by_cases c96 : a0 = 42
                                    · rw [if_pos c96] at H
                                      have c96b0 : (a0 == 42) = true := beq_iff_eq.mpr c96
                                      have c96b1 : (a0 != 42) = false := bne_eq_false_iff_eq.mpr c96
                                      clear c96
                                      have H' := Aside0.mk H
                                      clear H
                                      go_wp2
                                      go_meet
                                      case rel => exact ⟨_, ((a0 == 42)), (by first | rfl | (simp; done) | (simp [*]; done)), H', ⟨by have := HJ73.out; have := HJ83.out; first | omega | exact Nat.le_refl _⟩, ⟨by with_reducible repeat (first | exact HB.out | apply below_alloc | apply pw_below_drewN | apply below_drew1)⟩⟩
                                    · rw [if_neg c96] at H
                                      have c96b0 : (a0 == 42) = false := beq_eq_false_iff_ne.mpr c96
                                      have c96b1 : (a0 != 42) = true := bne_iff_ne.mpr c96
                                      by_cases c97 : a0 = 50
                                      · rw [if_pos c97] at H
                                        have c97b0 : (a0 == 50) = true := beq_iff_eq.mpr c97
                                        have c97b1 : (a0 != 50) = false := bne_eq_false_iff_eq.mpr c97
                                        clear c97
                                        have H' := Aside0.mk H
                                        clear H
                                        go_wp2
                                        go_meet
                                        case rel => exact ⟨_, ((a0 == 50)), (by first | rfl | (simp; done) | (simp [*]; done)), H', ⟨by have := HJ73.out; have := HJ83.out; first | omega | exact Nat.le_refl _⟩, ⟨by with_reducible repeat (first | exact HB.out | apply below_alloc | apply pw_below_drewN | apply below_drew1)⟩⟩
                                      · rw [if_neg c97] at H
                                        have c97b0 : (a0 == 50) = false := beq_eq_false_iff_ne.mpr c97
                                        have c97b1 : (a0 != 50) = true := bne_iff_ne.mpr c97
                                        have H' := Aside0.mk H
                                        clear H
                                        go_wp2
                                        go_meet
                                        case rel => exact ⟨_, ((a0 == 58)), (by first | rfl | (simp; done) | (simp [*]; done)), H', ⟨by have := HJ73.out; have := HJ83.out; first | omega | exact Nat.le_refl _⟩, ⟨by with_reducible repeat (first | exact HB.out | apply below_alloc | apply pw_below_drewN | apply below_drew1)⟩⟩
                                case rest =>
                                  clear HC94
                                  try clear c1
                                  try clear c2
                                  try clear c2b0
                                  try clear c2b1
                                  try clear p2
                                  try clear c3
                                  try clear c4
                                  try clear c5
                                  try clear c6
                                  try clear c7
                                  try clear c8
                                  try clear c9
                                  try clear c10
                                  try clear c10b0
                                  try clear c10b1
                                  try clear c18
                                  try clear c18b0
                                  try clear c18b1
                                  try clear c26
                                  try clear c26b0
                                  try clear c26b1
                                  try clear c36
                                  try clear c36b0
                                  try clear c36b1
                                  try clear c44
                                  try clear c44b0
                                  try clear c44b1
                                  try clear c52
                                  try clear c52b0
                                  try clear c52b1
                                  try clear c60
                                  try clear c60b0
                                  try clear c60b1
                                  try clear c68
                                  try clear c68b0
                                  try clear c68b1
                                  try clear c75
                                  try clear c75b0
                                  try clear c75b1
                                  try clear c76
                                  try clear c85
                                  try clear c85b0
                                  try clear c85b1
                                  try clear c86
                                  try clear c95
                                  try clear c95b0
                                  try clear c95b1
                                  try clear c96
                                  try clear c96b0
                                  try clear c96b1
                                  try clear c97
                                  try clear c97b0
                                  try clear c97b1
                                  try clear p2
                                  obtain ⟨kq, x81_93, rfl, HA, HJ93, HB⟩ := hcut
                                  cases kq with
                                  | zero => exact absurd HA.out (by simp [isa80_low.j2])
                                  | succ kj93 =>
                                    have H := HA.out
                                    clear HA
                                    simp only [isa80_low.j2] at H
                                    by_cases c98 : x81_93 = true
                                    · subst c98
                                      have H1 : ((isa80_pick.f (Go.bits .and .u8 (a0 / 8) 3) (([(⟨#[83, 72, 76, 68]⟩ : ByteArray), (⟨#[76, 72, 76, 68]⟩ : ByteArray), (⟨#[83, 84, 65]⟩ : ByteArray), (⟨#[76, 68, 65]⟩ : ByteArray)] : List ByteArray))).bind fun t200 => ((isa80_form.f (([t200, (⟨#[100, 49, 54]⟩ : ByteArray)] : List ByteArray))).bind fun t204 => (some t204))) = some r := by rw [if_pos rfl] at H; exact H
                                      clear H
                                      have H := H1
                                      clear H1
                                      obtain ⟨y197, hy197⟩ : ∃ y_ : List ByteArray, y_ = (([(⟨#[83, 72, 76, 68]⟩ : ByteArray), (⟨#[76, 72, 76, 68]⟩ : ByteArray), (⟨#[83, 84, 65]⟩ : ByteArray), (⟨#[76, 68, 65]⟩ : ByteArray)] : List ByteArray)) := ⟨_, rfl⟩
                                      try rw [← hy197] at H
                                      have Ny197 := Aside0.mk hy197
                                      clear hy197
                                      replace H := Option.bind_eq_some_iff.mp H
                                      obtain ⟨t200, A990, H⟩ := H
                                      have A99 := Aside0.mk A990
                                      clear A990
                                      obtain ⟨y201, hy201⟩ : ∃ y_ : List ByteArray, y_ = (([t200, (⟨#[100, 49, 54]⟩ : ByteArray)] : List ByteArray)) := ⟨_, rfl⟩
                                      try rw [← hy201] at H
                                      have Ny201 := Aside0.mk hy201
                                      clear hy201
                                      replace H := Option.bind_eq_some_iff.mp H
                                      obtain ⟨t204, A1000, H⟩ := H
                                      have A100 := Aside0.mk A1000
                                      clear A1000
                                      obtain rfl := Option.some.inj H
                                      go_wp2_with (first | ((with_reducible refine gate_dst (N := 88) rfl ?_); refine Kd.R_lit Kd.string _ 9 ?hg (N := 88) ?hd (xs := ([⟨#[83, 72, 76, 68]⟩, ⟨#[76, 72, 76, 68]⟩, ⟨#[83, 84, 65]⟩, ⟨#[76, 68, 65]⟩] : List ByteArray)) (inner := [.string ⟨#[83, 72, 76, 68]⟩, .string ⟨#[76, 72, 76, 68]⟩, .string ⟨#[83, 84, 65]⟩, .string ⟨#[76, 68, 65]⟩]) (ok := fun _ => True) (okp := fun _ => True) ?hr ?hp (fun _ hk => hk) trivial (Below.refl _ _) (Nat.le_refl _) (by simp) ?_; (case hd => rfl); (case hg => rfl); (case hr => first | (go_simp; done) | (go_simp; rfl)); (case hp => exact (Reps.one (show Kd.M Kd.string _ _ _ ⟨#[83, 72, 76, 68]⟩ [.string ⟨#[83, 72, 76, 68]⟩] from rfl) (Reps.one (show Kd.M Kd.string _ _ _ ⟨#[76, 72, 76, 68]⟩ [.string ⟨#[76, 72, 76, 68]⟩] from rfl) (Reps.one (show Kd.M Kd.string _ _ _ ⟨#[83, 84, 65]⟩ [.string ⟨#[83, 84, 65]⟩] from rfl) (Reps.one (show Kd.M Kd.string _ _ _ ⟨#[76, 68, 65]⟩ [.string ⟨#[76, 68, 65]⟩] from rfl) (Reps.none _ _)))))); intro v198 w101 ho102 hb hg_ hnew_; clear hg_ hnew_; (first | rw [← Ny197.out] at ho102 | (simp only [Int.reduceToNat] at ho102; rw [← Ny197.out] at ho102)); have n0_ := Aside0.mk (Kd.R_lower ho102 (below_size (by with_reducible repeat (first | exact HB.out | apply below_alloc | apply pw_below_drewN | apply below_drew1)))); have n1_ := Aside0.mk (below_step (by with_reducible repeat (first | exact HB.out | apply below_alloc | apply pw_below_drewN | apply below_drew1)) hb); clear HB; have HO199 := n0_; have HB := n1_; clear n0_ n1_; clear hb ho102; obtain ⟨Ao103, co103, eo103⟩ := Kd.R_slice HO199.out; subst eo103) | ((with_reducible refine gate_callee (f := 98) rfl ?_); refine goesL_ (some 89) rfl rfl Try.func98 (by kernel_rfl) rfl #[.int .u8 (Go.bits .and .u8 (a0 / 8) 3), .slice Ao103 y197.length co103] rfl (by (try simp only [List.map_toArray, List.map_cons, List.map_nil]); first | done | rfl | (simp only [IntKind.wrap_u8, Int.emod_add_emod, Int.add_emod_emod] <;> rfl)) ?_; (with_reducible refine (isa80_pick.calls (Go.bits .and .u8 (a0 / 8) 3) _ _ y197 t200 _ ?side1 ?side2 A99.out).mono ?_); (case side1 => repeat (first | exact (Kd.R_reads' HO199.out).2.2 | (with_reducible refine Kd.C_alloc ?_ _) | (with_reducible refine Kd.C_drewN ?_ _) | (with_reducible refine Kd.C_drew ?_))); (case side2 => exact (Kd.R_reads' HO199.out).2.1); rintro e w' ⟨rfl, ⟨nd, rfl⟩⟩; refine ⟨_, rfl, ?_⟩) | ((with_reducible refine gate_dst (N := 90) rfl ?_); refine Kd.R_lit Kd.string _ 9 ?hg (N := 90) ?hd (xs := ([t200, ⟨#[100, 49, 54]⟩] : List ByteArray)) (inner := [.string t200, .string ⟨#[100, 49, 54]⟩]) (ok := fun _ => True) (okp := fun _ => True) ?hr ?hp (fun _ hk => hk) trivial (Below.refl _ _) (Nat.le_refl _) (by simp) ?_; (case hd => rfl); (case hg => rfl); (case hr => first | (go_simp; done) | (go_simp; rfl)); (case hp => exact (Reps.one (show Kd.M Kd.string _ _ _ t200 [.string t200] from rfl) (Reps.one (show Kd.M Kd.string _ _ _ ⟨#[100, 49, 54]⟩ [.string ⟨#[100, 49, 54]⟩] from rfl) (Reps.none _ _)))); intro v202 w104 ho105 hb hg_ hnew_; clear hg_ hnew_; (first | rw [← Ny201.out] at ho105 | (simp only [Int.reduceToNat] at ho105; rw [← Ny201.out] at ho105)); have n0_ := Aside0.mk (Kd.R_elder' (by (with_reducible repeat (first | apply Kd.R_alloc | apply Kd.R_drewN | apply Kd.R_drew)); exact HO199.out) (Kd.R_base ho105) hb); have n1_ := Aside0.mk (Kd.R_lower (Kd.R_new' ho105 (Kd.R_lt (by (with_reducible repeat (first | apply Kd.R_alloc | apply Kd.R_drewN | apply Kd.R_drew)); exact HO199.out))) (below_size (by with_reducible repeat (first | exact HB.out | apply below_alloc | apply pw_below_drewN | apply below_drew1)))); have n2_ := Aside0.mk (below_step (by with_reducible repeat (first | exact HB.out | apply below_alloc | apply pw_below_drewN | apply below_drew1)) hb); clear HO199; clear HB; have HO199 := n0_; have HO203 := n1_; have HB := n2_; clear n0_ n1_ n2_; clear hb ho105; obtain ⟨Ao106, co106, eo106⟩ := Kd.R_slice HO203.out; subst eo106) | ((with_reducible refine gate_callee (f := 96) rfl ?_); refine goesL_ (some 91) rfl rfl Try.func96 (by kernel_rfl) rfl #[.slice Ao106 y201.length co106] rfl (by (try simp only [List.map_toArray, List.map_cons, List.map_nil]); first | done | rfl | (simp only [IntKind.wrap_u8, Int.emod_add_emod, Int.add_emod_emod] <;> rfl)) ?_; (with_reducible refine (isa80_form.calls (fun k_ => some k_ = (.slice Ao106 y201.length co106 : Value).ownBlock) (.slice Ao106 y201.length co106) y201 t204 w _ ?side1 ?side2 A100.out).mono ?_); (case side1 => repeat (first | (with_reducible first | exact HB.out | apply below_alloc | apply pw_below_drewN | apply below_drew1) | exact HB.out)); (case side2 => exact Kd.R_tight rfl HO203.out); rintro e w107 ⟨v205, rfl, ho0, hb, hkp⟩; refine ⟨_, rfl, ?_⟩; have n0_ := Aside0.mk (Kd.R_mono (ok' := fun k_ => some k_ ≠ (v205 : Value).ownBlock) (Kd.R_keptB (HO199.out) hkp (fun k_ hk_ hs_ => (hk_.2) hs_)) (fun k_ hk_ => fun e_ => Or.elim (ho0.1 k_ e_.symm) (fun hs_ => hk_.2.1 hs_) (fun hn_ => Nat.not_le.2 hk_.2.2 hn_))); have n1_ := Aside0.mk (Kd.R_mono (ok' := fun k_ => some k_ ≠ (.slice Ao103 y197.length co103 : Value).ownBlock) ho0 (fun k_ hk_ => Or.elim hk_ (fun hs_ => fun e_ => (((HO199.out).1 k_ e_.symm).2) hs_) (fun hn_ => (Kd.fresh' (Kd.R_lt (by (with_reducible repeat (first | apply Kd.R_alloc | apply Kd.R_drewN | apply Kd.R_drew)); exact HO199.out)) k_ hn_)))); have n2_ := Aside0.mk (hb); clear HO199; clear HB; clear HO203; have HO199 := n0_; have HO206 := n1_; have HB := n2_; clear n0_ n1_ n2_; (try clear hb); (try clear hkp); (try clear ho0)))
                                      go_ret
                                      exact ⟨_, by first | rfl | (simp <;> rfl) | (simp [*] <;> rfl), by (with_reducible repeat (first | apply Kd.R_alloc | apply Kd.R_drewN | apply Kd.R_drew)); exact Kd.R_mono HO206.out (fun _ hk => trivial), by with_reducible repeat (first | exact HB.out | apply below_alloc | apply pw_below_drewN | apply below_drew1)⟩
                                    · replace c98 := Bool.eq_false_iff.mpr c98
                                      subst c98
                                      have H1 : (some ([] : List ByteArray)) = some r := by rw [if_neg (show ¬ (false = true) by decide)] at H; exact H
                                      clear H
                                      have H := H1
                                      clear H1
                                      obtain rfl := Option.some.inj H
                                      go_wp2
                                      go_ret
                                      exact ⟨_, by first | rfl | (simp <;> rfl) | (simp [*] <;> rfl), by first | exact Kd.R_nil _ _ _ _ _ | exact Kd.N_nil _ _ _ _ _ | exact Kd.V_nil _ _ _ _ _ | exact Kd.Q_nil _ _ _ _ _ | exact Kd.S_nil _ _ _ _ _, by with_reducible repeat (first | exact HB.out | apply below_alloc | apply pw_below_drewN | apply below_drew1)⟩
def isa80_cond.f (a0 : Int) : Option (ByteArray) := (isa80_pick.f (Go.bits .and .u8 a0 7) (([(⟨#[78, 90]⟩ : ByteArray), (⟨#[90]⟩ : ByteArray), (⟨#[78, 67]⟩ : ByteArray), (⟨#[67]⟩ : ByteArray), (⟨#[80, 79]⟩ : ByteArray), (⟨#[80, 69]⟩ : ByteArray), (⟨#[80]⟩ : ByteArray), (⟨#[77]⟩ : ByteArray)] : List ByteArray))).bind fun t210 => (some t210)
set_option maxHeartbeats 8000000 in
set_option maxRecDepth 100000 in
theorem isa80_cond.calls (a0 : Int) (r : ByteArray) (w : World) (h : isa80_cond.f a0 = some r) :
    Calls Try.prog 105 #[.int .u8 a0] w fun e w' => e = .returned (.string r) ∧ Below w.heap.size w w' := by
  have HB := Aside0.mk (Below.refl w.heap.size w)
  have H : ((isa80_pick.f (Go.bits .and .u8 a0 7) (([(⟨#[78, 90]⟩ : ByteArray), (⟨#[90]⟩ : ByteArray), (⟨#[78, 67]⟩ : ByteArray), (⟨#[67]⟩ : ByteArray), (⟨#[80, 79]⟩ : ByteArray), (⟨#[80, 69]⟩ : ByteArray), (⟨#[80]⟩ : ByteArray), (⟨#[77]⟩ : ByteArray)] : List ByteArray))).bind fun t210 => (some t210)) = some r := h
  clear h
  obtain ⟨y207, hy207⟩ : ∃ y_ : List ByteArray, y_ = (([(⟨#[78, 90]⟩ : ByteArray), (⟨#[90]⟩ : ByteArray), (⟨#[78, 67]⟩ : ByteArray), (⟨#[67]⟩ : ByteArray), (⟨#[80, 79]⟩ : ByteArray), (⟨#[80, 69]⟩ : ByteArray), (⟨#[80]⟩ : ByteArray), (⟨#[77]⟩ : ByteArray)] : List ByteArray)) := ⟨_, rfl⟩
  try rw [← hy207] at H
  have Ny207 := Aside0.mk hy207
  clear hy207
  replace H := Option.bind_eq_some_iff.mp H
  obtain ⟨t210, A20, H⟩ := H
  have A2 := Aside0.mk A20
  clear A20
  obtain rfl := Option.some.inj H
  go_enter Try.func105, Try.ntmps105
  go_wp2_with (first | ((with_reducible refine gate_dst (N := 5) rfl ?_); refine Kd.R_lit Kd.string _ 9 ?hg (N := 5) ?hd (xs := ([⟨#[78, 90]⟩, ⟨#[90]⟩, ⟨#[78, 67]⟩, ⟨#[67]⟩, ⟨#[80, 79]⟩, ⟨#[80, 69]⟩, ⟨#[80]⟩, ⟨#[77]⟩] : List ByteArray)) (inner := [.string ⟨#[78, 90]⟩, .string ⟨#[90]⟩, .string ⟨#[78, 67]⟩, .string ⟨#[67]⟩, .string ⟨#[80, 79]⟩, .string ⟨#[80, 69]⟩, .string ⟨#[80]⟩, .string ⟨#[77]⟩]) (ok := fun _ => True) (okp := fun _ => True) ?hr ?hp (fun _ hk => hk) trivial (Below.refl _ _) (Nat.le_refl _) (by simp) ?_; (case hd => rfl); (case hg => rfl); (case hr => first | (go_simp; done) | (go_simp; rfl)); (case hp => exact (Reps.one (show Kd.M Kd.string _ _ _ ⟨#[78, 90]⟩ [.string ⟨#[78, 90]⟩] from rfl) (Reps.one (show Kd.M Kd.string _ _ _ ⟨#[90]⟩ [.string ⟨#[90]⟩] from rfl) (Reps.one (show Kd.M Kd.string _ _ _ ⟨#[78, 67]⟩ [.string ⟨#[78, 67]⟩] from rfl) (Reps.one (show Kd.M Kd.string _ _ _ ⟨#[67]⟩ [.string ⟨#[67]⟩] from rfl) (Reps.one (show Kd.M Kd.string _ _ _ ⟨#[80, 79]⟩ [.string ⟨#[80, 79]⟩] from rfl) (Reps.one (show Kd.M Kd.string _ _ _ ⟨#[80, 69]⟩ [.string ⟨#[80, 69]⟩] from rfl) (Reps.one (show Kd.M Kd.string _ _ _ ⟨#[80]⟩ [.string ⟨#[80]⟩] from rfl) (Reps.one (show Kd.M Kd.string _ _ _ ⟨#[77]⟩ [.string ⟨#[77]⟩] from rfl) (Reps.none _ _)))))))))); intro v208 w3 ho4 hb hg_ hnew_; clear hg_ hnew_; (first | rw [← Ny207.out] at ho4 | (simp only [Int.reduceToNat] at ho4; rw [← Ny207.out] at ho4)); have n0_ := Aside0.mk (Kd.R_lower ho4 (below_size (by with_reducible repeat (first | exact HB.out | apply below_alloc | apply pw_below_drewN | apply below_drew1)))); have n1_ := Aside0.mk (below_step (by with_reducible repeat (first | exact HB.out | apply below_alloc | apply pw_below_drewN | apply below_drew1)) hb); clear HB; have HO209 := n0_; have HB := n1_; clear n0_ n1_; clear hb ho4; obtain ⟨Ao5, co5, eo5⟩ := Kd.R_slice HO209.out; subst eo5) | ((with_reducible refine gate_callee (f := 98) rfl ?_); refine goesL_ (some 6) rfl rfl Try.func98 (by kernel_rfl) rfl #[.int .u8 (Go.bits .and .u8 a0 7), .slice Ao5 y207.length co5] rfl (by (try simp only [List.map_toArray, List.map_cons, List.map_nil]); first | done | rfl | (simp only [IntKind.wrap_u8, Int.emod_add_emod, Int.add_emod_emod] <;> rfl)) ?_; (with_reducible refine (isa80_pick.calls (Go.bits .and .u8 a0 7) _ _ y207 t210 _ ?side1 ?side2 A2.out).mono ?_); (case side1 => repeat (first | exact (Kd.R_reads' HO209.out).2.2 | (with_reducible refine Kd.C_alloc ?_ _) | (with_reducible refine Kd.C_drewN ?_ _) | (with_reducible refine Kd.C_drew ?_))); (case side2 => exact (Kd.R_reads' HO209.out).2.1); rintro e w' ⟨rfl, ⟨nd, rfl⟩⟩; refine ⟨_, rfl, ?_⟩))
  go_ret
  exact ⟨by first | rfl | (simp <;> rfl) | (simp [*] <;> rfl), by with_reducible repeat (first | exact HB.out | apply below_alloc | apply pw_below_drewN | apply below_drew1)⟩
end Go.Proofs.Ytaiabehbappdaaa.PCpu
