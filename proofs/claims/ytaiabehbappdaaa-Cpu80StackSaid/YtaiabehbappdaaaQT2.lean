/- Own texts of this claim, merged by a program of the claim's own: what the claim's theorem reaches. -/
import Derived.Test.YtaiabehbappdaaaQT1

set_option linter.unusedVariables false
set_option linter.unusedSimpArgs false
set_option maxHeartbeats 4000000
namespace Go.Proofs.Ytaiabehbappdaaa.PCpu
open Go.RowKit Go.Proofs.YtaiabehbappdaaaW.PrintWords Go.Proofs.YtaiabehbappdaaaW.PrintLast Go.Proofs.YtaiabehbappdaaaW.PrintMore
attribute [local go_sem] max2_int min2_int max_two min_two max_three min_three max_four min_four   -- for this text's walks alone
mutual
def isa80_high.j0 : Nat → Int → Int → ByteArray → Int → Bool → Option (List ByteArray)
  | 0, _, _, _, _, _ => none
  | k + 1, x3, x4, x5, x53, x54 => if x54 = true then ((isa80_form.f (([(⟨#[80, 79, 80]⟩ : ByteArray), x5] : List ByteArray))).bind fun t258 => (some t258)) else (if x53 = 197 then (isa80_high.j1 k x3 x4 x5 x53 (x53 == 197)) else (if x53 = 213 then (isa80_high.j1 k x3 x4 x5 x53 (x53 == 213)) else (if x53 = 229 then (isa80_high.j1 k x3 x4 x5 x53 (x53 == 229)) else (isa80_high.j1 k x3 x4 x5 x53 (x53 == 245)))))
def isa80_high.j1 : Nat → Int → Int → ByteArray → Int → Bool → Option (List ByteArray)
  | 0, _, _, _, _, _ => none
  | k + 1, x3, x4, x5, x53, x62 => if x62 = true then ((isa80_form.f (([(⟨#[80, 85, 83, 72]⟩ : ByteArray), x5] : List ByteArray))).bind fun t264 => (some t264)) else (if x53 = 201 then (isa80_high.j2 k x3 x4 x53 (x53 == 201)) else (if x53 = 233 then (isa80_high.j2 k x3 x4 x53 (x53 == 233)) else (isa80_high.j2 k x3 x4 x53 (x53 == 249))))
def isa80_high.j2 : Nat → Int → Int → Int → Bool → Option (List ByteArray)
  | 0, _, _, _, _ => none
  | k + 1, x3, x4, x53, x70 => if x70 = true then ((isa80_pick.f x4 (([(⟨#[82, 69, 84]⟩ : ByteArray), (⟨#[45]⟩ : ByteArray), (⟨#[80, 67, 72, 76]⟩ : ByteArray), (⟨#[83, 80, 72, 76]⟩ : ByteArray)] : List ByteArray))).bind fun t270 => ((isa80_form.f (([t270] : List ByteArray))).bind fun t274 => (some t274))) else (if x53 = 195 then ((isa80_form.f (([(⟨#[74, 77, 80]⟩ : ByteArray), (⟨#[100, 49, 54]⟩ : ByteArray)] : List ByteArray))).bind fun t280 => (some t280)) else (if x53 = 205 then ((isa80_form.f (([(⟨#[67, 65, 76, 76]⟩ : ByteArray), (⟨#[100, 49, 54]⟩ : ByteArray)] : List ByteArray))).bind fun t286 => (some t286)) else (if x53 = 211 then (isa80_high.j3 k x3 x53 (x53 == 211)) else (isa80_high.j3 k x3 x53 (x53 == 219)))))
def isa80_high.j3 : Nat → Int → Int → Bool → Option (List ByteArray)
  | 0, _, _, _ => none
  | k + 1, x3, x53, x87 => if x87 = true then ((isa80_pick.f (Go.bits .and .u8 x3 1) (([(⟨#[79, 85, 84]⟩ : ByteArray), (⟨#[73, 78]⟩ : ByteArray)] : List ByteArray))).bind fun t292 => ((isa80_form.f (([t292, (⟨#[100, 56]⟩ : ByteArray)] : List ByteArray))).bind fun t296 => (some t296))) else (if x53 = 227 then (isa80_high.j4 k x3 (x53 == 227)) else (if x53 = 235 then (isa80_high.j4 k x3 (x53 == 235)) else (if x53 = 243 then (isa80_high.j4 k x3 (x53 == 243)) else (isa80_high.j4 k x3 (x53 == 251)))))
def isa80_high.j4 : Nat → Int → Bool → Option (List ByteArray)
  | 0, _, _ => none
  | k + 1, x3, x96 => if x96 = true then ((isa80_pick.f (Go.bits .and .u8 x3 3) (([(⟨#[88, 84, 72, 76]⟩ : ByteArray), (⟨#[88, 67, 72, 71]⟩ : ByteArray), (⟨#[68, 73]⟩ : ByteArray), (⟨#[69, 73]⟩ : ByteArray)] : List ByteArray))).bind fun t302 => ((isa80_form.f (([t302] : List ByteArray))).bind fun t306 => (some t306))) else (some ([] : List ByteArray))
end
def isa80_high.f (k : Nat) (a0 : Int) : Option (List ByteArray) := (isa80_pick.f (Go.bits .and .u8 (a0 / 16) 3) (([(⟨#[66]⟩ : ByteArray), (⟨#[68]⟩ : ByteArray), (⟨#[72]⟩ : ByteArray), (⟨#[80, 83, 87]⟩ : ByteArray)] : List ByteArray))).bind fun t214 => (if (Go.bits .and .u8 a0 7) = 0 then ((isa80_cond.f (Go.bits .and .u8 (a0 / 8) 7)).bind fun t215 => (if 1 + t215.size ≤ 9223372036854775807 then ((isa80_form.f (([(⟨#[82]⟩ : ByteArray) ++ t215] : List ByteArray))).bind fun t219 => (some t219)) else (none))) else (if (Go.bits .and .u8 a0 7) = 2 then ((isa80_cond.f (Go.bits .and .u8 (a0 / 8) 7)).bind fun t222 => (if 1 + t222.size ≤ 9223372036854775807 then ((isa80_form.f (([(⟨#[74]⟩ : ByteArray) ++ t222, (⟨#[100, 49, 54]⟩ : ByteArray)] : List ByteArray))).bind fun t226 => (some t226)) else (none))) else (if (Go.bits .and .u8 a0 7) = 4 then ((isa80_cond.f (Go.bits .and .u8 (a0 / 8) 7)).bind fun t229 => (if 1 + t229.size ≤ 9223372036854775807 then ((isa80_form.f (([(⟨#[67]⟩ : ByteArray) ++ t229, (⟨#[100, 49, 54]⟩ : ByteArray)] : List ByteArray))).bind fun t233 => (some t233)) else (none))) else (if (Go.bits .and .u8 a0 7) = 6 then ((isa80_pick.f (Go.bits .and .u8 (a0 / 8) 7) (([(⟨#[65, 68, 73]⟩ : ByteArray), (⟨#[65, 67, 73]⟩ : ByteArray), (⟨#[83, 85, 73]⟩ : ByteArray), (⟨#[83, 66, 73]⟩ : ByteArray), (⟨#[65, 78, 73]⟩ : ByteArray), (⟨#[88, 82, 73]⟩ : ByteArray), (⟨#[79, 82, 73]⟩ : ByteArray), (⟨#[67, 80, 73]⟩ : ByteArray)] : List ByteArray))).bind fun t239 => ((isa80_form.f (([t239, (⟨#[100, 56]⟩ : ByteArray)] : List ByteArray))).bind fun t243 => (some t243))) else (if (Go.bits .and .u8 a0 7) = 7 then ((isa80_form.f (([(⟨#[82, 83, 84]⟩ : ByteArray), strOfNums (([(48 + (Go.bits .and .u8 (a0 / 8) 7)) % 256] : List Int))] : List ByteArray))).bind fun t252 => (some t252)) else (if a0 = 193 then (isa80_high.j0 k (Go.bits .and .u8 (a0 / 8) 7) (Go.bits .and .u8 (a0 / 16) 3) t214 a0 (a0 == 193)) else (if a0 = 209 then (isa80_high.j0 k (Go.bits .and .u8 (a0 / 8) 7) (Go.bits .and .u8 (a0 / 16) 3) t214 a0 (a0 == 209)) else (if a0 = 225 then (isa80_high.j0 k (Go.bits .and .u8 (a0 / 8) 7) (Go.bits .and .u8 (a0 / 16) 3) t214 a0 (a0 == 225)) else (isa80_high.j0 k (Go.bits .and .u8 (a0 / 8) 7) (Go.bits .and .u8 (a0 / 16) 3) t214 a0 (a0 == 241))))))))))
set_option maxHeartbeats 8000000 in
set_option maxRecDepth 100000 in
theorem isa80_high.calls (k : Nat) (a0 : Int) (r : List ByteArray) (w : World) (h : isa80_high.f k a0 = some r) :
    Calls Try.prog 99 #[.int .u8 a0] w fun e w' => ∃ v0_ : Value, e = .returned (v0_) ∧ Kd.R Kd.string 9 w' w.heap.size (fun _ => True) v0_ r ∧ Below w.heap.size w w' := by
  have HB := Aside0.mk (Below.refl w.heap.size w)
  have H : ((isa80_pick.f (Go.bits .and .u8 (a0 / 16) 3) (([(⟨#[66]⟩ : ByteArray), (⟨#[68]⟩ : ByteArray), (⟨#[72]⟩ : ByteArray), (⟨#[80, 83, 87]⟩ : ByteArray)] : List ByteArray))).bind fun t214 => (if (Go.bits .and .u8 a0 7) = 0 then ((isa80_cond.f (Go.bits .and .u8 (a0 / 8) 7)).bind fun t215 => (if 1 + t215.size ≤ 9223372036854775807 then ((isa80_form.f (([(⟨#[82]⟩ : ByteArray) ++ t215] : List ByteArray))).bind fun t219 => (some t219)) else (none))) else (if (Go.bits .and .u8 a0 7) = 2 then ((isa80_cond.f (Go.bits .and .u8 (a0 / 8) 7)).bind fun t222 => (if 1 + t222.size ≤ 9223372036854775807 then ((isa80_form.f (([(⟨#[74]⟩ : ByteArray) ++ t222, (⟨#[100, 49, 54]⟩ : ByteArray)] : List ByteArray))).bind fun t226 => (some t226)) else (none))) else (if (Go.bits .and .u8 a0 7) = 4 then ((isa80_cond.f (Go.bits .and .u8 (a0 / 8) 7)).bind fun t229 => (if 1 + t229.size ≤ 9223372036854775807 then ((isa80_form.f (([(⟨#[67]⟩ : ByteArray) ++ t229, (⟨#[100, 49, 54]⟩ : ByteArray)] : List ByteArray))).bind fun t233 => (some t233)) else (none))) else (if (Go.bits .and .u8 a0 7) = 6 then ((isa80_pick.f (Go.bits .and .u8 (a0 / 8) 7) (([(⟨#[65, 68, 73]⟩ : ByteArray), (⟨#[65, 67, 73]⟩ : ByteArray), (⟨#[83, 85, 73]⟩ : ByteArray), (⟨#[83, 66, 73]⟩ : ByteArray), (⟨#[65, 78, 73]⟩ : ByteArray), (⟨#[88, 82, 73]⟩ : ByteArray), (⟨#[79, 82, 73]⟩ : ByteArray), (⟨#[67, 80, 73]⟩ : ByteArray)] : List ByteArray))).bind fun t239 => ((isa80_form.f (([t239, (⟨#[100, 56]⟩ : ByteArray)] : List ByteArray))).bind fun t243 => (some t243))) else (if (Go.bits .and .u8 a0 7) = 7 then ((isa80_form.f (([(⟨#[82, 83, 84]⟩ : ByteArray), strOfNums (([(48 + (Go.bits .and .u8 (a0 / 8) 7)) % 256] : List Int))] : List ByteArray))).bind fun t252 => (some t252)) else (if a0 = 193 then (isa80_high.j0 k (Go.bits .and .u8 (a0 / 8) 7) (Go.bits .and .u8 (a0 / 16) 3) t214 a0 (a0 == 193)) else (if a0 = 209 then (isa80_high.j0 k (Go.bits .and .u8 (a0 / 8) 7) (Go.bits .and .u8 (a0 / 16) 3) t214 a0 (a0 == 209)) else (if a0 = 225 then (isa80_high.j0 k (Go.bits .and .u8 (a0 / 8) 7) (Go.bits .and .u8 (a0 / 16) 3) t214 a0 (a0 == 225)) else (isa80_high.j0 k (Go.bits .and .u8 (a0 / 8) 7) (Go.bits .and .u8 (a0 / 16) 3) t214 a0 (a0 == 241))))))))))) = some r := h
  clear h
  obtain ⟨y211, hy211⟩ : ∃ y_ : List ByteArray, y_ = (([(⟨#[66]⟩ : ByteArray), (⟨#[68]⟩ : ByteArray), (⟨#[72]⟩ : ByteArray), (⟨#[80, 83, 87]⟩ : ByteArray)] : List ByteArray)) := ⟨_, rfl⟩
  try rw [← hy211] at H
  have Ny211 := Aside0.mk hy211
  clear hy211
  replace H := Option.bind_eq_some_iff.mp H
  obtain ⟨t214, A20, H⟩ := H
  have A2 := Aside0.mk A20
  clear A20
  by_cases c3 : (Go.bits .and .u8 a0 7) = 0
  · rw [if_pos c3] at H
    have c3b0 : ((Go.bits .and .u8 a0 7) == 0) = true := beq_iff_eq.mpr c3
    have c3b1 : ((Go.bits .and .u8 a0 7) != 0) = false := bne_eq_false_iff_eq.mpr c3
    clear c3
    replace H := Option.bind_eq_some_iff.mp H
    obtain ⟨t215, A40, H⟩ := H
    have A4 := Aside0.mk A40
    clear A40
    by_cases c5 : 1 + t215.size ≤ 9223372036854775807
    · rw [if_pos c5] at H
      have c5b0 := eq_true c5
      have c5b1 : decide (1 + t215.size ≤ 9223372036854775807) = true := decide_eq_true c5
      try have c5b2 : (9223372036854775807 < 1 + t215.size) = False := eq_false (Nat.not_lt.2 c5)
      obtain ⟨y216, hy216⟩ : ∃ y_ : List ByteArray, y_ = (([(⟨#[82]⟩ : ByteArray) ++ t215] : List ByteArray)) := ⟨_, rfl⟩
      try rw [← hy216] at H
      have Ny216 := Aside0.mk hy216
      clear hy216
      replace H := Option.bind_eq_some_iff.mp H
      obtain ⟨t219, A60, H⟩ := H
      have A6 := Aside0.mk A60
      clear A60
      obtain rfl := Option.some.inj H
      go_enter Try.func99, Try.ntmps99
      go_wp2_with (first | ((with_reducible refine gate_dst (N := 13) rfl ?_); refine Kd.R_lit Kd.string _ 9 ?hg (N := 13) ?hd (xs := ([⟨#[66]⟩, ⟨#[68]⟩, ⟨#[72]⟩, ⟨#[80, 83, 87]⟩] : List ByteArray)) (inner := [.string ⟨#[66]⟩, .string ⟨#[68]⟩, .string ⟨#[72]⟩, .string ⟨#[80, 83, 87]⟩]) (ok := fun _ => True) (okp := fun _ => True) ?hr ?hp (fun _ hk => hk) trivial (Below.refl _ _) (Nat.le_refl _) (by simp) ?_; (case hd => rfl); (case hg => rfl); (case hr => first | (go_simp; done) | (go_simp; rfl)); (case hp => exact (Reps.one (show Kd.M Kd.string _ _ _ ⟨#[66]⟩ [.string ⟨#[66]⟩] from rfl) (Reps.one (show Kd.M Kd.string _ _ _ ⟨#[68]⟩ [.string ⟨#[68]⟩] from rfl) (Reps.one (show Kd.M Kd.string _ _ _ ⟨#[72]⟩ [.string ⟨#[72]⟩] from rfl) (Reps.one (show Kd.M Kd.string _ _ _ ⟨#[80, 83, 87]⟩ [.string ⟨#[80, 83, 87]⟩] from rfl) (Reps.none _ _)))))); intro v212 w7 ho8 hb hg_ hnew_; clear hg_ hnew_; (first | rw [← Ny211.out] at ho8 | (simp only [Int.reduceToNat] at ho8; rw [← Ny211.out] at ho8)); have n0_ := Aside0.mk (Kd.R_lower ho8 (below_size (by with_reducible repeat (first | exact HB.out | apply below_alloc | apply pw_below_drewN | apply below_drew1)))); have n1_ := Aside0.mk (below_step (by with_reducible repeat (first | exact HB.out | apply below_alloc | apply pw_below_drewN | apply below_drew1)) hb); clear HB; have HO213 := n0_; have HB := n1_; clear n0_ n1_; clear hb ho8; obtain ⟨Ao9, co9, eo9⟩ := Kd.R_slice HO213.out; subst eo9) | ((with_reducible refine gate_callee (f := 98) rfl ?_); refine goesL_ (some 14) rfl rfl Try.func98 (by kernel_rfl) rfl #[.int .u8 (Go.bits .and .u8 (a0 / 16) 3), .slice Ao9 y211.length co9] rfl (by (try simp only [List.map_toArray, List.map_cons, List.map_nil]); first | done | rfl | (simp only [IntKind.wrap_u8, Int.emod_add_emod, Int.add_emod_emod] <;> rfl)) ?_; (with_reducible refine (isa80_pick.calls (Go.bits .and .u8 (a0 / 16) 3) _ _ y211 t214 _ ?side1 ?side2 A2.out).mono ?_); (case side1 => repeat (first | exact (Kd.R_reads' HO213.out).2.2 | (with_reducible refine Kd.C_alloc ?_ _) | (with_reducible refine Kd.C_drewN ?_ _) | (with_reducible refine Kd.C_drew ?_))); (case side2 => exact (Kd.R_reads' HO213.out).2.1); rintro e w' ⟨rfl, ⟨nd, rfl⟩⟩; refine ⟨_, rfl, ?_⟩) | ((with_reducible refine gate_callee (f := 105) rfl ?_); refine goesL_ (some 20) rfl rfl Try.func105 (by kernel_rfl) rfl #[.int .u8 (Go.bits .and .u8 (a0 / 8) 7)] rfl (by (try simp only [List.map_toArray, List.map_cons, List.map_nil]); first | done | rfl | (simp only [IntKind.wrap_u8, Int.emod_add_emod, Int.add_emod_emod] <;> rfl)) ?_; (with_reducible refine (isa80_cond.calls (Go.bits .and .u8 (a0 / 8) 7) t215 _ A4.out).mono ?_); rintro e w10 ⟨rfl, hb⟩; refine ⟨_, rfl, ?_⟩; have n0_ := Aside0.mk (Kd.R_below (by (with_reducible repeat (first | apply Kd.R_alloc | apply Kd.R_drewN | apply Kd.R_drew)); exact HO213.out) hb); have n1_ := Aside0.mk (below_step (by with_reducible repeat (first | exact HB.out | apply below_alloc | apply pw_below_drewN | apply below_drew1)) hb); clear HO213; clear HB; have HO213 := n0_; have HB := n1_; clear n0_ n1_; (try clear hb); (try clear hb2); (try clear hk); (try clear hi)) | ((with_reducible refine gate_dst (N := 22) rfl ?_); refine Kd.R_lit Kd.string _ 9 ?hg (N := 22) ?hd (xs := ([(⟨#[82]⟩ : ByteArray) ++ t215] : List ByteArray)) (inner := [.string ((⟨#[82]⟩ : ByteArray) ++ t215)]) (ok := fun _ => True) (okp := fun _ => True) ?hr ?hp (fun _ hk => hk) trivial (Below.refl _ _) (Nat.le_refl _) (by simp) ?_; (case hd => rfl); (case hg => rfl); (case hr => first | (go_simp; done) | (go_simp; rfl)); (case hp => exact (Reps.one (show Kd.M Kd.string _ _ _ ((⟨#[82]⟩ : ByteArray) ++ t215) [.string ((⟨#[82]⟩ : ByteArray) ++ t215)] from rfl) (Reps.none _ _))); intro v217 w11 ho12 hb hg_ hnew_; clear hg_ hnew_; (first | rw [← Ny216.out] at ho12 | (simp only [Int.reduceToNat] at ho12; rw [← Ny216.out] at ho12)); have n0_ := Aside0.mk (Kd.R_elder' (by (with_reducible repeat (first | apply Kd.R_alloc | apply Kd.R_drewN | apply Kd.R_drew)); exact HO213.out) (Kd.R_base ho12) hb); have n1_ := Aside0.mk (Kd.R_lower (Kd.R_new' ho12 (Kd.R_lt (by (with_reducible repeat (first | apply Kd.R_alloc | apply Kd.R_drewN | apply Kd.R_drew)); exact HO213.out))) (below_size (by with_reducible repeat (first | exact HB.out | apply below_alloc | apply pw_below_drewN | apply below_drew1)))); have n2_ := Aside0.mk (below_step (by with_reducible repeat (first | exact HB.out | apply below_alloc | apply pw_below_drewN | apply below_drew1)) hb); clear HO213; clear HB; have HO213 := n0_; have HO218 := n1_; have HB := n2_; clear n0_ n1_ n2_; clear hb ho12; obtain ⟨Ao13, co13, eo13⟩ := Kd.R_slice HO218.out; subst eo13) | ((with_reducible refine gate_callee (f := 96) rfl ?_); refine goesL_ (some 23) rfl rfl Try.func96 (by kernel_rfl) rfl #[.slice Ao13 y216.length co13] rfl (by (try simp only [List.map_toArray, List.map_cons, List.map_nil]); first | done | rfl | (simp only [IntKind.wrap_u8, Int.emod_add_emod, Int.add_emod_emod] <;> rfl)) ?_; (with_reducible refine (isa80_form.calls (fun k_ => some k_ = (.slice Ao13 y216.length co13 : Value).ownBlock) (.slice Ao13 y216.length co13) y216 t219 w _ ?side1 ?side2 A6.out).mono ?_); (case side1 => repeat (first | (with_reducible first | exact HB.out | apply below_alloc | apply pw_below_drewN | apply below_drew1) | exact HB.out)); (case side2 => exact Kd.R_tight rfl HO218.out); rintro e w14 ⟨v220, rfl, ho0, hb, hkp⟩; refine ⟨_, rfl, ?_⟩; have n0_ := Aside0.mk (Kd.R_mono (ok' := fun k_ => some k_ ≠ (v220 : Value).ownBlock) (Kd.R_keptB (HO213.out) hkp (fun k_ hk_ hs_ => (hk_.2) hs_)) (fun k_ hk_ => fun e_ => Or.elim (ho0.1 k_ e_.symm) (fun hs_ => hk_.2.1 hs_) (fun hn_ => Nat.not_le.2 hk_.2.2 hn_))); have n1_ := Aside0.mk (Kd.R_mono (ok' := fun k_ => some k_ ≠ (.slice Ao9 y211.length co9 : Value).ownBlock) ho0 (fun k_ hk_ => Or.elim hk_ (fun hs_ => fun e_ => (((HO213.out).1 k_ e_.symm).2) hs_) (fun hn_ => (Kd.fresh' (Kd.R_lt (by (with_reducible repeat (first | apply Kd.R_alloc | apply Kd.R_drewN | apply Kd.R_drew)); exact HO213.out)) k_ hn_)))); have n2_ := Aside0.mk (hb); clear HO213; clear HB; clear HO218; have HO213 := n0_; have HO221 := n1_; have HB := n2_; clear n0_ n1_ n2_; (try clear hb); (try clear hkp); (try clear ho0)))
      go_ret
      exact ⟨_, by first | rfl | (simp <;> rfl) | (simp [*] <;> rfl), by (with_reducible repeat (first | apply Kd.R_alloc | apply Kd.R_drewN | apply Kd.R_drew)); exact Kd.R_mono HO221.out (fun _ hk => trivial), by with_reducible repeat (first | exact HB.out | apply below_alloc | apply pw_below_drewN | apply below_drew1)⟩
    · rw [if_neg c5] at H
      exact absurd H (by simp)
  · rw [if_neg c3] at H
    have c3b0 : ((Go.bits .and .u8 a0 7) == 0) = false := beq_eq_false_iff_ne.mpr c3
    have c3b1 : ((Go.bits .and .u8 a0 7) != 0) = true := bne_iff_ne.mpr c3
    by_cases c15 : (Go.bits .and .u8 a0 7) = 2
    · rw [if_pos c15] at H
      have c15b0 : ((Go.bits .and .u8 a0 7) == 2) = true := beq_iff_eq.mpr c15
      have c15b1 : ((Go.bits .and .u8 a0 7) != 2) = false := bne_eq_false_iff_eq.mpr c15
      clear c15
      replace H := Option.bind_eq_some_iff.mp H
      obtain ⟨t222, A160, H⟩ := H
      have A16 := Aside0.mk A160
      clear A160
      by_cases c17 : 1 + t222.size ≤ 9223372036854775807
      · rw [if_pos c17] at H
        have c17b0 := eq_true c17
        have c17b1 : decide (1 + t222.size ≤ 9223372036854775807) = true := decide_eq_true c17
        try have c17b2 : (9223372036854775807 < 1 + t222.size) = False := eq_false (Nat.not_lt.2 c17)
        obtain ⟨y223, hy223⟩ : ∃ y_ : List ByteArray, y_ = (([(⟨#[74]⟩ : ByteArray) ++ t222, (⟨#[100, 49, 54]⟩ : ByteArray)] : List ByteArray)) := ⟨_, rfl⟩
        try rw [← hy223] at H
        have Ny223 := Aside0.mk hy223
        clear hy223
        replace H := Option.bind_eq_some_iff.mp H
        obtain ⟨t226, A180, H⟩ := H
        have A18 := Aside0.mk A180
        clear A180
        obtain rfl := Option.some.inj H
        go_enter Try.func99, Try.ntmps99
        go_wp2_with (first | ((with_reducible refine gate_dst (N := 13) rfl ?_); refine Kd.R_lit Kd.string _ 9 ?hg (N := 13) ?hd (xs := ([⟨#[66]⟩, ⟨#[68]⟩, ⟨#[72]⟩, ⟨#[80, 83, 87]⟩] : List ByteArray)) (inner := [.string ⟨#[66]⟩, .string ⟨#[68]⟩, .string ⟨#[72]⟩, .string ⟨#[80, 83, 87]⟩]) (ok := fun _ => True) (okp := fun _ => True) ?hr ?hp (fun _ hk => hk) trivial (Below.refl _ _) (Nat.le_refl _) (by simp) ?_; (case hd => rfl); (case hg => rfl); (case hr => first | (go_simp; done) | (go_simp; rfl)); (case hp => exact (Reps.one (show Kd.M Kd.string _ _ _ ⟨#[66]⟩ [.string ⟨#[66]⟩] from rfl) (Reps.one (show Kd.M Kd.string _ _ _ ⟨#[68]⟩ [.string ⟨#[68]⟩] from rfl) (Reps.one (show Kd.M Kd.string _ _ _ ⟨#[72]⟩ [.string ⟨#[72]⟩] from rfl) (Reps.one (show Kd.M Kd.string _ _ _ ⟨#[80, 83, 87]⟩ [.string ⟨#[80, 83, 87]⟩] from rfl) (Reps.none _ _)))))); intro v212 w19 ho20 hb hg_ hnew_; clear hg_ hnew_; (first | rw [← Ny211.out] at ho20 | (simp only [Int.reduceToNat] at ho20; rw [← Ny211.out] at ho20)); have n0_ := Aside0.mk (Kd.R_lower ho20 (below_size (by with_reducible repeat (first | exact HB.out | apply below_alloc | apply pw_below_drewN | apply below_drew1)))); have n1_ := Aside0.mk (below_step (by with_reducible repeat (first | exact HB.out | apply below_alloc | apply pw_below_drewN | apply below_drew1)) hb); clear HB; have HO213 := n0_; have HB := n1_; clear n0_ n1_; clear hb ho20; obtain ⟨Ao21, co21, eo21⟩ := Kd.R_slice HO213.out; subst eo21) | ((with_reducible refine gate_callee (f := 98) rfl ?_); refine goesL_ (some 14) rfl rfl Try.func98 (by kernel_rfl) rfl #[.int .u8 (Go.bits .and .u8 (a0 / 16) 3), .slice Ao21 y211.length co21] rfl (by (try simp only [List.map_toArray, List.map_cons, List.map_nil]); first | done | rfl | (simp only [IntKind.wrap_u8, Int.emod_add_emod, Int.add_emod_emod] <;> rfl)) ?_; (with_reducible refine (isa80_pick.calls (Go.bits .and .u8 (a0 / 16) 3) _ _ y211 t214 _ ?side1 ?side2 A2.out).mono ?_); (case side1 => repeat (first | exact (Kd.R_reads' HO213.out).2.2 | (with_reducible refine Kd.C_alloc ?_ _) | (with_reducible refine Kd.C_drewN ?_ _) | (with_reducible refine Kd.C_drew ?_))); (case side2 => exact (Kd.R_reads' HO213.out).2.1); rintro e w' ⟨rfl, ⟨nd, rfl⟩⟩; refine ⟨_, rfl, ?_⟩) | ((with_reducible refine gate_callee (f := 105) rfl ?_); refine goesL_ (some 27) rfl rfl Try.func105 (by kernel_rfl) rfl #[.int .u8 (Go.bits .and .u8 (a0 / 8) 7)] rfl (by (try simp only [List.map_toArray, List.map_cons, List.map_nil]); first | done | rfl | (simp only [IntKind.wrap_u8, Int.emod_add_emod, Int.add_emod_emod] <;> rfl)) ?_; (with_reducible refine (isa80_cond.calls (Go.bits .and .u8 (a0 / 8) 7) t222 _ A16.out).mono ?_); rintro e w22 ⟨rfl, hb⟩; refine ⟨_, rfl, ?_⟩; have n0_ := Aside0.mk (Kd.R_below (by (with_reducible repeat (first | apply Kd.R_alloc | apply Kd.R_drewN | apply Kd.R_drew)); exact HO213.out) hb); have n1_ := Aside0.mk (below_step (by with_reducible repeat (first | exact HB.out | apply below_alloc | apply pw_below_drewN | apply below_drew1)) hb); clear HO213; clear HB; have HO213 := n0_; have HB := n1_; clear n0_ n1_; (try clear hb); (try clear hb2); (try clear hk); (try clear hi)) | ((with_reducible refine gate_dst (N := 29) rfl ?_); refine Kd.R_lit Kd.string _ 9 ?hg (N := 29) ?hd (xs := ([(⟨#[74]⟩ : ByteArray) ++ t222, ⟨#[100, 49, 54]⟩] : List ByteArray)) (inner := [.string ((⟨#[74]⟩ : ByteArray) ++ t222), .string ⟨#[100, 49, 54]⟩]) (ok := fun _ => True) (okp := fun _ => True) ?hr ?hp (fun _ hk => hk) trivial (Below.refl _ _) (Nat.le_refl _) (by simp) ?_; (case hd => rfl); (case hg => rfl); (case hr => first | (go_simp; done) | (go_simp; rfl)); (case hp => exact (Reps.one (show Kd.M Kd.string _ _ _ ((⟨#[74]⟩ : ByteArray) ++ t222) [.string ((⟨#[74]⟩ : ByteArray) ++ t222)] from rfl) (Reps.one (show Kd.M Kd.string _ _ _ ⟨#[100, 49, 54]⟩ [.string ⟨#[100, 49, 54]⟩] from rfl) (Reps.none _ _)))); intro v224 w23 ho24 hb hg_ hnew_; clear hg_ hnew_; (first | rw [← Ny223.out] at ho24 | (simp only [Int.reduceToNat] at ho24; rw [← Ny223.out] at ho24)); have n0_ := Aside0.mk (Kd.R_elder' (by (with_reducible repeat (first | apply Kd.R_alloc | apply Kd.R_drewN | apply Kd.R_drew)); exact HO213.out) (Kd.R_base ho24) hb); have n1_ := Aside0.mk (Kd.R_lower (Kd.R_new' ho24 (Kd.R_lt (by (with_reducible repeat (first | apply Kd.R_alloc | apply Kd.R_drewN | apply Kd.R_drew)); exact HO213.out))) (below_size (by with_reducible repeat (first | exact HB.out | apply below_alloc | apply pw_below_drewN | apply below_drew1)))); have n2_ := Aside0.mk (below_step (by with_reducible repeat (first | exact HB.out | apply below_alloc | apply pw_below_drewN | apply below_drew1)) hb); clear HO213; clear HB; have HO213 := n0_; have HO225 := n1_; have HB := n2_; clear n0_ n1_ n2_; clear hb ho24; obtain ⟨Ao25, co25, eo25⟩ := Kd.R_slice HO225.out; subst eo25) | ((with_reducible refine gate_callee (f := 96) rfl ?_); refine goesL_ (some 30) rfl rfl Try.func96 (by kernel_rfl) rfl #[.slice Ao25 y223.length co25] rfl (by (try simp only [List.map_toArray, List.map_cons, List.map_nil]); first | done | rfl | (simp only [IntKind.wrap_u8, Int.emod_add_emod, Int.add_emod_emod] <;> rfl)) ?_; (with_reducible refine (isa80_form.calls (fun k_ => some k_ = (.slice Ao25 y223.length co25 : Value).ownBlock) (.slice Ao25 y223.length co25) y223 t226 w _ ?side1 ?side2 A18.out).mono ?_); (case side1 => repeat (first | (with_reducible first | exact HB.out | apply below_alloc | apply pw_below_drewN | apply below_drew1) | exact HB.out)); (case side2 => exact Kd.R_tight rfl HO225.out); rintro e w26 ⟨v227, rfl, ho0, hb, hkp⟩; refine ⟨_, rfl, ?_⟩; have n0_ := Aside0.mk (Kd.R_mono (ok' := fun k_ => some k_ ≠ (v227 : Value).ownBlock) (Kd.R_keptB (HO213.out) hkp (fun k_ hk_ hs_ => (hk_.2) hs_)) (fun k_ hk_ => fun e_ => Or.elim (ho0.1 k_ e_.symm) (fun hs_ => hk_.2.1 hs_) (fun hn_ => Nat.not_le.2 hk_.2.2 hn_))); have n1_ := Aside0.mk (Kd.R_mono (ok' := fun k_ => some k_ ≠ (.slice Ao21 y211.length co21 : Value).ownBlock) ho0 (fun k_ hk_ => Or.elim hk_ (fun hs_ => fun e_ => (((HO213.out).1 k_ e_.symm).2) hs_) (fun hn_ => (Kd.fresh' (Kd.R_lt (by (with_reducible repeat (first | apply Kd.R_alloc | apply Kd.R_drewN | apply Kd.R_drew)); exact HO213.out)) k_ hn_)))); have n2_ := Aside0.mk (hb); clear HO213; clear HB; clear HO225; have HO213 := n0_; have HO228 := n1_; have HB := n2_; clear n0_ n1_ n2_; (try clear hb); (try clear hkp); (try clear ho0)))
        go_ret
        exact ⟨_, by first | rfl | (simp <;> rfl) | (simp [*] <;> rfl), by (with_reducible repeat (first | apply Kd.R_alloc | apply Kd.R_drewN | apply Kd.R_drew)); exact Kd.R_mono HO228.out (fun _ hk => trivial), by with_reducible repeat (first | exact HB.out | apply below_alloc | apply pw_below_drewN | apply below_drew1)⟩
      · rw [if_neg c17] at H
        exact absurd H (by simp)
    · rw [if_neg c15] at H
      have c15b0 : ((Go.bits .and .u8 a0 7) == 2) = false := beq_eq_false_iff_ne.mpr c15
      have c15b1 : ((Go.bits .and .u8 a0 7) != 2) = true := bne_iff_ne.mpr c15
      by_cases c27 : (Go.bits .and .u8 a0 7) = 4
      · rw [if_pos c27] at H
        have c27b0 : ((Go.bits .and .u8 a0 7) == 4) = true := beq_iff_eq.mpr c27
        have c27b1 : ((Go.bits .and .u8 a0 7) != 4) = false := bne_eq_false_iff_eq.mpr c27
        clear c27
        replace H := Option.bind_eq_some_iff.mp H
        obtain ⟨t229, A280, H⟩ := H
        have A28 := Aside0.mk A280
        clear A280
        by_cases c29 : 1 + t229.size ≤ 9223372036854775807
        · rw [if_pos c29] at H
          have c29b0 := eq_true c29
          have c29b1 : decide (1 + t229.size ≤ 9223372036854775807) = true := decide_eq_true c29
          try have c29b2 : (9223372036854775807 < 1 + t229.size) = False := eq_false (Nat.not_lt.2 c29)
          obtain ⟨y230, hy230⟩ : ∃ y_ : List ByteArray, y_ = (([(⟨#[67]⟩ : ByteArray) ++ t229, (⟨#[100, 49, 54]⟩ : ByteArray)] : List ByteArray)) := ⟨_, rfl⟩
          try rw [← hy230] at H
          have Ny230 := Aside0.mk hy230
          clear hy230
          replace H := Option.bind_eq_some_iff.mp H
          obtain ⟨t233, A300, H⟩ := H
          have A30 := Aside0.mk A300
          clear A300
          obtain rfl := Option.some.inj H
          go_enter Try.func99, Try.ntmps99
          go_wp2_with (first | ((with_reducible refine gate_dst (N := 13) rfl ?_); refine Kd.R_lit Kd.string _ 9 ?hg (N := 13) ?hd (xs := ([⟨#[66]⟩, ⟨#[68]⟩, ⟨#[72]⟩, ⟨#[80, 83, 87]⟩] : List ByteArray)) (inner := [.string ⟨#[66]⟩, .string ⟨#[68]⟩, .string ⟨#[72]⟩, .string ⟨#[80, 83, 87]⟩]) (ok := fun _ => True) (okp := fun _ => True) ?hr ?hp (fun _ hk => hk) trivial (Below.refl _ _) (Nat.le_refl _) (by simp) ?_; (case hd => rfl); (case hg => rfl); (case hr => first | (go_simp; done) | (go_simp; rfl)); (case hp => exact (Reps.one (show Kd.M Kd.string _ _ _ ⟨#[66]⟩ [.string ⟨#[66]⟩] from rfl) (Reps.one (show Kd.M Kd.string _ _ _ ⟨#[68]⟩ [.string ⟨#[68]⟩] from rfl) (Reps.one (show Kd.M Kd.string _ _ _ ⟨#[72]⟩ [.string ⟨#[72]⟩] from rfl) (Reps.one (show Kd.M Kd.string _ _ _ ⟨#[80, 83, 87]⟩ [.string ⟨#[80, 83, 87]⟩] from rfl) (Reps.none _ _)))))); intro v212 w31 ho32 hb hg_ hnew_; clear hg_ hnew_; (first | rw [← Ny211.out] at ho32 | (simp only [Int.reduceToNat] at ho32; rw [← Ny211.out] at ho32)); have n0_ := Aside0.mk (Kd.R_lower ho32 (below_size (by with_reducible repeat (first | exact HB.out | apply below_alloc | apply pw_below_drewN | apply below_drew1)))); have n1_ := Aside0.mk (below_step (by with_reducible repeat (first | exact HB.out | apply below_alloc | apply pw_below_drewN | apply below_drew1)) hb); clear HB; have HO213 := n0_; have HB := n1_; clear n0_ n1_; clear hb ho32; obtain ⟨Ao33, co33, eo33⟩ := Kd.R_slice HO213.out; subst eo33) | ((with_reducible refine gate_callee (f := 98) rfl ?_); refine goesL_ (some 14) rfl rfl Try.func98 (by kernel_rfl) rfl #[.int .u8 (Go.bits .and .u8 (a0 / 16) 3), .slice Ao33 y211.length co33] rfl (by (try simp only [List.map_toArray, List.map_cons, List.map_nil]); first | done | rfl | (simp only [IntKind.wrap_u8, Int.emod_add_emod, Int.add_emod_emod] <;> rfl)) ?_; (with_reducible refine (isa80_pick.calls (Go.bits .and .u8 (a0 / 16) 3) _ _ y211 t214 _ ?side1 ?side2 A2.out).mono ?_); (case side1 => repeat (first | exact (Kd.R_reads' HO213.out).2.2 | (with_reducible refine Kd.C_alloc ?_ _) | (with_reducible refine Kd.C_drewN ?_ _) | (with_reducible refine Kd.C_drew ?_))); (case side2 => exact (Kd.R_reads' HO213.out).2.1); rintro e w' ⟨rfl, ⟨nd, rfl⟩⟩; refine ⟨_, rfl, ?_⟩) | ((with_reducible refine gate_callee (f := 105) rfl ?_); refine goesL_ (some 34) rfl rfl Try.func105 (by kernel_rfl) rfl #[.int .u8 (Go.bits .and .u8 (a0 / 8) 7)] rfl (by (try simp only [List.map_toArray, List.map_cons, List.map_nil]); first | done | rfl | (simp only [IntKind.wrap_u8, Int.emod_add_emod, Int.add_emod_emod] <;> rfl)) ?_; (with_reducible refine (isa80_cond.calls (Go.bits .and .u8 (a0 / 8) 7) t229 _ A28.out).mono ?_); rintro e w34 ⟨rfl, hb⟩; refine ⟨_, rfl, ?_⟩; have n0_ := Aside0.mk (Kd.R_below (by (with_reducible repeat (first | apply Kd.R_alloc | apply Kd.R_drewN | apply Kd.R_drew)); exact HO213.out) hb); have n1_ := Aside0.mk (below_step (by with_reducible repeat (first | exact HB.out | apply below_alloc | apply pw_below_drewN | apply below_drew1)) hb); clear HO213; clear HB; have HO213 := n0_; have HB := n1_; clear n0_ n1_; (try clear hb); (try clear hb2); (try clear hk); (try clear hi)) | ((with_reducible refine gate_dst (N := 36) rfl ?_); refine Kd.R_lit Kd.string _ 9 ?hg (N := 36) ?hd (xs := ([(⟨#[67]⟩ : ByteArray) ++ t229, ⟨#[100, 49, 54]⟩] : List ByteArray)) (inner := [.string ((⟨#[67]⟩ : ByteArray) ++ t229), .string ⟨#[100, 49, 54]⟩]) (ok := fun _ => True) (okp := fun _ => True) ?hr ?hp (fun _ hk => hk) trivial (Below.refl _ _) (Nat.le_refl _) (by simp) ?_; (case hd => rfl); (case hg => rfl); (case hr => first | (go_simp; done) | (go_simp; rfl)); (case hp => exact (Reps.one (show Kd.M Kd.string _ _ _ ((⟨#[67]⟩ : ByteArray) ++ t229) [.string ((⟨#[67]⟩ : ByteArray) ++ t229)] from rfl) (Reps.one (show Kd.M Kd.string _ _ _ ⟨#[100, 49, 54]⟩ [.string ⟨#[100, 49, 54]⟩] from rfl) (Reps.none _ _)))); intro v231 w35 ho36 hb hg_ hnew_; clear hg_ hnew_; (first | rw [← Ny230.out] at ho36 | (simp only [Int.reduceToNat] at ho36; rw [← Ny230.out] at ho36)); have n0_ := Aside0.mk (Kd.R_elder' (by (with_reducible repeat (first | apply Kd.R_alloc | apply Kd.R_drewN | apply Kd.R_drew)); exact HO213.out) (Kd.R_base ho36) hb); have n1_ := Aside0.mk (Kd.R_lower (Kd.R_new' ho36 (Kd.R_lt (by (with_reducible repeat (first | apply Kd.R_alloc | apply Kd.R_drewN | apply Kd.R_drew)); exact HO213.out))) (below_size (by with_reducible repeat (first | exact HB.out | apply below_alloc | apply pw_below_drewN | apply below_drew1)))); have n2_ := Aside0.mk (below_step (by with_reducible repeat (first | exact HB.out | apply below_alloc | apply pw_below_drewN | apply below_drew1)) hb); clear HO213; clear HB; have HO213 := n0_; have HO232 := n1_; have HB := n2_; clear n0_ n1_ n2_; clear hb ho36; obtain ⟨Ao37, co37, eo37⟩ := Kd.R_slice HO232.out; subst eo37) | ((with_reducible refine gate_callee (f := 96) rfl ?_); refine goesL_ (some 37) rfl rfl Try.func96 (by kernel_rfl) rfl #[.slice Ao37 y230.length co37] rfl (by (try simp only [List.map_toArray, List.map_cons, List.map_nil]); first | done | rfl | (simp only [IntKind.wrap_u8, Int.emod_add_emod, Int.add_emod_emod] <;> rfl)) ?_; (with_reducible refine (isa80_form.calls (fun k_ => some k_ = (.slice Ao37 y230.length co37 : Value).ownBlock) (.slice Ao37 y230.length co37) y230 t233 w _ ?side1 ?side2 A30.out).mono ?_); (case side1 => repeat (first | (with_reducible first | exact HB.out | apply below_alloc | apply pw_below_drewN | apply below_drew1) | exact HB.out)); (case side2 => exact Kd.R_tight rfl HO232.out); rintro e w38 ⟨v234, rfl, ho0, hb, hkp⟩; refine ⟨_, rfl, ?_⟩; have n0_ := Aside0.mk (Kd.R_mono (ok' := fun k_ => some k_ ≠ (v234 : Value).ownBlock) (Kd.R_keptB (HO213.out) hkp (fun k_ hk_ hs_ => (hk_.2) hs_)) (fun k_ hk_ => fun e_ => Or.elim (ho0.1 k_ e_.symm) (fun hs_ => hk_.2.1 hs_) (fun hn_ => Nat.not_le.2 hk_.2.2 hn_))); have n1_ := Aside0.mk (Kd.R_mono (ok' := fun k_ => some k_ ≠ (.slice Ao33 y211.length co33 : Value).ownBlock) ho0 (fun k_ hk_ => Or.elim hk_ (fun hs_ => fun e_ => (((HO213.out).1 k_ e_.symm).2) hs_) (fun hn_ => (Kd.fresh' (Kd.R_lt (by (with_reducible repeat (first | apply Kd.R_alloc | apply Kd.R_drewN | apply Kd.R_drew)); exact HO213.out)) k_ hn_)))); have n2_ := Aside0.mk (hb); clear HO213; clear HB; clear HO232; have HO213 := n0_; have HO235 := n1_; have HB := n2_; clear n0_ n1_ n2_; (try clear hb); (try clear hkp); (try clear ho0)))
          go_ret
          exact ⟨_, by first | rfl | (simp <;> rfl) | (simp [*] <;> rfl), by (with_reducible repeat (first | apply Kd.R_alloc | apply Kd.R_drewN | apply Kd.R_drew)); exact Kd.R_mono HO235.out (fun _ hk => trivial), by with_reducible repeat (first | exact HB.out | apply below_alloc | apply pw_below_drewN | apply below_drew1)⟩
        · rw [if_neg c29] at H
          exact absurd H (by simp)
      · rw [if_neg c27] at H
        have c27b0 : ((Go.bits .and .u8 a0 7) == 4) = false := beq_eq_false_iff_ne.mpr c27
        have c27b1 : ((Go.bits .and .u8 a0 7) != 4) = true := bne_iff_ne.mpr c27
        by_cases c39 : (Go.bits .and .u8 a0 7) = 6
        · rw [if_pos c39] at H
          have c39b0 : ((Go.bits .and .u8 a0 7) == 6) = true := beq_iff_eq.mpr c39
          have c39b1 : ((Go.bits .and .u8 a0 7) != 6) = false := bne_eq_false_iff_eq.mpr c39
          clear c39
          obtain ⟨y236, hy236⟩ : ∃ y_ : List ByteArray, y_ = (([(⟨#[65, 68, 73]⟩ : ByteArray), (⟨#[65, 67, 73]⟩ : ByteArray), (⟨#[83, 85, 73]⟩ : ByteArray), (⟨#[83, 66, 73]⟩ : ByteArray), (⟨#[65, 78, 73]⟩ : ByteArray), (⟨#[88, 82, 73]⟩ : ByteArray), (⟨#[79, 82, 73]⟩ : ByteArray), (⟨#[67, 80, 73]⟩ : ByteArray)] : List ByteArray)) := ⟨_, rfl⟩
          try rw [← hy236] at H
          have Ny236 := Aside0.mk hy236
          clear hy236
          replace H := Option.bind_eq_some_iff.mp H
          obtain ⟨t239, A400, H⟩ := H
          have A40 := Aside0.mk A400
          clear A400
          obtain ⟨y240, hy240⟩ : ∃ y_ : List ByteArray, y_ = (([t239, (⟨#[100, 56]⟩ : ByteArray)] : List ByteArray)) := ⟨_, rfl⟩
          try rw [← hy240] at H
          have Ny240 := Aside0.mk hy240
          clear hy240
          replace H := Option.bind_eq_some_iff.mp H
          obtain ⟨t243, A410, H⟩ := H
          have A41 := Aside0.mk A410
          clear A410
          obtain rfl := Option.some.inj H
          go_enter Try.func99, Try.ntmps99
          go_wp2_with (first | ((with_reducible refine gate_dst (N := 13) rfl ?_); refine Kd.R_lit Kd.string _ 9 ?hg (N := 13) ?hd (xs := ([⟨#[66]⟩, ⟨#[68]⟩, ⟨#[72]⟩, ⟨#[80, 83, 87]⟩] : List ByteArray)) (inner := [.string ⟨#[66]⟩, .string ⟨#[68]⟩, .string ⟨#[72]⟩, .string ⟨#[80, 83, 87]⟩]) (ok := fun _ => True) (okp := fun _ => True) ?hr ?hp (fun _ hk => hk) trivial (Below.refl _ _) (Nat.le_refl _) (by simp) ?_; (case hd => rfl); (case hg => rfl); (case hr => first | (go_simp; done) | (go_simp; rfl)); (case hp => exact (Reps.one (show Kd.M Kd.string _ _ _ ⟨#[66]⟩ [.string ⟨#[66]⟩] from rfl) (Reps.one (show Kd.M Kd.string _ _ _ ⟨#[68]⟩ [.string ⟨#[68]⟩] from rfl) (Reps.one (show Kd.M Kd.string _ _ _ ⟨#[72]⟩ [.string ⟨#[72]⟩] from rfl) (Reps.one (show Kd.M Kd.string _ _ _ ⟨#[80, 83, 87]⟩ [.string ⟨#[80, 83, 87]⟩] from rfl) (Reps.none _ _)))))); intro v212 w42 ho43 hb hg_ hnew_; clear hg_ hnew_; (first | rw [← Ny211.out] at ho43 | (simp only [Int.reduceToNat] at ho43; rw [← Ny211.out] at ho43)); have n0_ := Aside0.mk (Kd.R_lower ho43 (below_size (by with_reducible repeat (first | exact HB.out | apply below_alloc | apply pw_below_drewN | apply below_drew1)))); have n1_ := Aside0.mk (below_step (by with_reducible repeat (first | exact HB.out | apply below_alloc | apply pw_below_drewN | apply below_drew1)) hb); clear HB; have HO213 := n0_; have HB := n1_; clear n0_ n1_; clear hb ho43; obtain ⟨Ao44, co44, eo44⟩ := Kd.R_slice HO213.out; subst eo44) | ((with_reducible refine gate_callee (f := 98) rfl ?_); refine goesL_ (some 14) rfl rfl Try.func98 (by kernel_rfl) rfl #[.int .u8 (Go.bits .and .u8 (a0 / 16) 3), .slice Ao44 y211.length co44] rfl (by (try simp only [List.map_toArray, List.map_cons, List.map_nil]); first | done | rfl | (simp only [IntKind.wrap_u8, Int.emod_add_emod, Int.add_emod_emod] <;> rfl)) ?_; (with_reducible refine (isa80_pick.calls (Go.bits .and .u8 (a0 / 16) 3) _ _ y211 t214 _ ?side1 ?side2 A2.out).mono ?_); (case side1 => repeat (first | exact (Kd.R_reads' HO213.out).2.2 | (with_reducible refine Kd.C_alloc ?_ _) | (with_reducible refine Kd.C_drewN ?_ _) | (with_reducible refine Kd.C_drew ?_))); (case side2 => exact (Kd.R_reads' HO213.out).2.1); rintro e w' ⟨rfl, ⟨nd, rfl⟩⟩; refine ⟨_, rfl, ?_⟩) | ((with_reducible refine gate_dst (N := 41) rfl ?_); refine Kd.R_lit Kd.string _ 9 ?hg (N := 41) ?hd (xs := ([⟨#[65, 68, 73]⟩, ⟨#[65, 67, 73]⟩, ⟨#[83, 85, 73]⟩, ⟨#[83, 66, 73]⟩, ⟨#[65, 78, 73]⟩, ⟨#[88, 82, 73]⟩, ⟨#[79, 82, 73]⟩, ⟨#[67, 80, 73]⟩] : List ByteArray)) (inner := [.string ⟨#[65, 68, 73]⟩, .string ⟨#[65, 67, 73]⟩, .string ⟨#[83, 85, 73]⟩, .string ⟨#[83, 66, 73]⟩, .string ⟨#[65, 78, 73]⟩, .string ⟨#[88, 82, 73]⟩, .string ⟨#[79, 82, 73]⟩, .string ⟨#[67, 80, 73]⟩]) (ok := fun _ => True) (okp := fun _ => True) ?hr ?hp (fun _ hk => hk) trivial (Below.refl _ _) (Nat.le_refl _) (by simp) ?_; (case hd => rfl); (case hg => rfl); (case hr => first | (go_simp; done) | (go_simp; rfl)); (case hp => exact (Reps.one (show Kd.M Kd.string _ _ _ ⟨#[65, 68, 73]⟩ [.string ⟨#[65, 68, 73]⟩] from rfl) (Reps.one (show Kd.M Kd.string _ _ _ ⟨#[65, 67, 73]⟩ [.string ⟨#[65, 67, 73]⟩] from rfl) (Reps.one (show Kd.M Kd.string _ _ _ ⟨#[83, 85, 73]⟩ [.string ⟨#[83, 85, 73]⟩] from rfl) (Reps.one (show Kd.M Kd.string _ _ _ ⟨#[83, 66, 73]⟩ [.string ⟨#[83, 66, 73]⟩] from rfl) (Reps.one (show Kd.M Kd.string _ _ _ ⟨#[65, 78, 73]⟩ [.string ⟨#[65, 78, 73]⟩] from rfl) (Reps.one (show Kd.M Kd.string _ _ _ ⟨#[88, 82, 73]⟩ [.string ⟨#[88, 82, 73]⟩] from rfl) (Reps.one (show Kd.M Kd.string _ _ _ ⟨#[79, 82, 73]⟩ [.string ⟨#[79, 82, 73]⟩] from rfl) (Reps.one (show Kd.M Kd.string _ _ _ ⟨#[67, 80, 73]⟩ [.string ⟨#[67, 80, 73]⟩] from rfl) (Reps.none _ _)))))))))); intro v237 w45 ho46 hb hg_ hnew_; clear hg_ hnew_; (first | rw [← Ny236.out] at ho46 | (simp only [Int.reduceToNat] at ho46; rw [← Ny236.out] at ho46)); have n0_ := Aside0.mk (Kd.R_elder' (by (with_reducible repeat (first | apply Kd.R_alloc | apply Kd.R_drewN | apply Kd.R_drew)); exact HO213.out) (Kd.R_base ho46) hb); have n1_ := Aside0.mk (Kd.R_lower (Kd.R_new' ho46 (Kd.R_lt (by (with_reducible repeat (first | apply Kd.R_alloc | apply Kd.R_drewN | apply Kd.R_drew)); exact HO213.out))) (below_size (by with_reducible repeat (first | exact HB.out | apply below_alloc | apply pw_below_drewN | apply below_drew1)))); have n2_ := Aside0.mk (below_step (by with_reducible repeat (first | exact HB.out | apply below_alloc | apply pw_below_drewN | apply below_drew1)) hb); clear HO213; clear HB; have HO213 := n0_; have HO238 := n1_; have HB := n2_; clear n0_ n1_ n2_; clear hb ho46; obtain ⟨Ao47, co47, eo47⟩ := Kd.R_slice HO238.out; subst eo47) | ((with_reducible refine gate_callee (f := 98) rfl ?_); refine goesL_ (some 42) rfl rfl Try.func98 (by kernel_rfl) rfl #[.int .u8 (Go.bits .and .u8 (a0 / 8) 7), .slice Ao47 y236.length co47] rfl (by (try simp only [List.map_toArray, List.map_cons, List.map_nil]); first | done | rfl | (simp only [IntKind.wrap_u8, Int.emod_add_emod, Int.add_emod_emod] <;> rfl)) ?_; (with_reducible refine (isa80_pick.calls (Go.bits .and .u8 (a0 / 8) 7) _ _ y236 t239 _ ?side1 ?side2 A40.out).mono ?_); (case side1 => repeat (first | exact (Kd.R_reads' HO238.out).2.2 | (with_reducible refine Kd.C_alloc ?_ _) | (with_reducible refine Kd.C_drewN ?_ _) | (with_reducible refine Kd.C_drew ?_))); (case side2 => exact (Kd.R_reads' HO238.out).2.1); rintro e w' ⟨rfl, ⟨nd, rfl⟩⟩; refine ⟨_, rfl, ?_⟩) | ((with_reducible refine gate_dst (N := 43) rfl ?_); refine Kd.R_lit Kd.string _ 9 ?hg (N := 43) ?hd (xs := ([t239, ⟨#[100, 56]⟩] : List ByteArray)) (inner := [.string t239, .string ⟨#[100, 56]⟩]) (ok := fun _ => True) (okp := fun _ => True) ?hr ?hp (fun _ hk => hk) trivial (Below.refl _ _) (Nat.le_refl _) (by simp) ?_; (case hd => rfl); (case hg => rfl); (case hr => first | (go_simp; done) | (go_simp; rfl)); (case hp => exact (Reps.one (show Kd.M Kd.string _ _ _ t239 [.string t239] from rfl) (Reps.one (show Kd.M Kd.string _ _ _ ⟨#[100, 56]⟩ [.string ⟨#[100, 56]⟩] from rfl) (Reps.none _ _)))); intro v241 w48 ho49 hb hg_ hnew_; clear hg_ hnew_; (first | rw [← Ny240.out] at ho49 | (simp only [Int.reduceToNat] at ho49; rw [← Ny240.out] at ho49)); have n0_ := Aside0.mk (Kd.R_elder' (by (with_reducible repeat (first | apply Kd.R_alloc | apply Kd.R_drewN | apply Kd.R_drew)); exact HO213.out) (Kd.R_base ho49) hb); have n1_ := Aside0.mk (Kd.R_elder' (by (with_reducible repeat (first | apply Kd.R_alloc | apply Kd.R_drewN | apply Kd.R_drew)); exact HO238.out) (Kd.R_base ho49) hb); have n2_ := Aside0.mk (Kd.R_lower (Kd.R_new' (Kd.R_new' ho49 (Kd.R_lt (by (with_reducible repeat (first | apply Kd.R_alloc | apply Kd.R_drewN | apply Kd.R_drew)); exact HO213.out))) (Kd.R_lt (by (with_reducible repeat (first | apply Kd.R_alloc | apply Kd.R_drewN | apply Kd.R_drew)); exact HO238.out))) (below_size (by with_reducible repeat (first | exact HB.out | apply below_alloc | apply pw_below_drewN | apply below_drew1)))); have n3_ := Aside0.mk (below_step (by with_reducible repeat (first | exact HB.out | apply below_alloc | apply pw_below_drewN | apply below_drew1)) hb); clear HO213; clear HO238; clear HB; have HO213 := n0_; have HO238 := n1_; have HO242 := n2_; have HB := n3_; clear n0_ n1_ n2_ n3_; clear hb ho49; obtain ⟨Ao50, co50, eo50⟩ := Kd.R_slice HO242.out; subst eo50) | ((with_reducible refine gate_callee (f := 96) rfl ?_); refine goesL_ (some 44) rfl rfl Try.func96 (by kernel_rfl) rfl #[.slice Ao50 y240.length co50] rfl (by (try simp only [List.map_toArray, List.map_cons, List.map_nil]); first | done | rfl | (simp only [IntKind.wrap_u8, Int.emod_add_emod, Int.add_emod_emod] <;> rfl)) ?_; (with_reducible refine (isa80_form.calls (fun k_ => some k_ = (.slice Ao50 y240.length co50 : Value).ownBlock) (.slice Ao50 y240.length co50) y240 t243 w _ ?side1 ?side2 A41.out).mono ?_); (case side1 => repeat (first | (with_reducible first | exact HB.out | apply below_alloc | apply pw_below_drewN | apply below_drew1) | exact HB.out)); (case side2 => exact Kd.R_tight rfl HO242.out); rintro e w51 ⟨v244, rfl, ho0, hb, hkp⟩; refine ⟨_, rfl, ?_⟩; have n0_ := Aside0.mk (Kd.R_mono (ok' := fun k_ => some k_ ≠ (.slice Ao47 y236.length co47 : Value).ownBlock ∧ some k_ ≠ (v244 : Value).ownBlock) (Kd.R_keptB (HO213.out) hkp (fun k_ hk_ hs_ => (hk_.2) hs_)) (fun k_ hk_ => ⟨hk_.1.1.2, fun e_ => Or.elim (ho0.1 k_ e_.symm) (fun hs_ => hk_.2.1 hs_) (fun hn_ => Nat.not_le.2 hk_.2.2 hn_)⟩)); have n1_ := Aside0.mk (Kd.R_mono (ok' := fun k_ => some k_ ≠ (.slice Ao44 y211.length co44 : Value).ownBlock ∧ some k_ ≠ (v244 : Value).ownBlock) (Kd.R_keptB (HO238.out) hkp (fun k_ hk_ hs_ => (hk_.2) hs_)) (fun k_ hk_ => ⟨hk_.1.1.2, fun e_ => Or.elim (ho0.1 k_ e_.symm) (fun hs_ => hk_.2.1 hs_) (fun hn_ => Nat.not_le.2 hk_.2.2 hn_)⟩)); have n2_ := Aside0.mk (Kd.R_mono (ok' := fun k_ => some k_ ≠ (.slice Ao44 y211.length co44 : Value).ownBlock ∧ some k_ ≠ (.slice Ao47 y236.length co47 : Value).ownBlock) ho0 (fun k_ hk_ => ⟨Or.elim hk_ (fun hs_ => fun e_ => (((HO213.out).1 k_ e_.symm).2) hs_) (fun hn_ => (Kd.fresh' (Kd.R_lt (by (with_reducible repeat (first | apply Kd.R_alloc | apply Kd.R_drewN | apply Kd.R_drew)); exact HO213.out)) k_ hn_)), Or.elim hk_ (fun hs_ => fun e_ => (((HO238.out).1 k_ e_.symm).2) hs_) (fun hn_ => (Kd.fresh' (Kd.R_lt (by (with_reducible repeat (first | apply Kd.R_alloc | apply Kd.R_drewN | apply Kd.R_drew)); exact HO238.out)) k_ hn_))⟩)); have n3_ := Aside0.mk (hb); clear HO213; clear HO238; clear HB; clear HO242; have HO213 := n0_; have HO238 := n1_; have HO245 := n2_; have HB := n3_; clear n0_ n1_ n2_ n3_; (try clear hb); (try clear hkp); (try clear ho0)))
          go_ret
          exact ⟨_, by first | rfl | (simp <;> rfl) | (simp [*] <;> rfl), by (with_reducible repeat (first | apply Kd.R_alloc | apply Kd.R_drewN | apply Kd.R_drew)); exact Kd.R_mono HO245.out (fun _ hk => trivial), by with_reducible repeat (first | exact HB.out | apply below_alloc | apply pw_below_drewN | apply below_drew1)⟩
        · rw [if_neg c39] at H
          have c39b0 : ((Go.bits .and .u8 a0 7) == 6) = false := beq_eq_false_iff_ne.mpr c39
          have c39b1 : ((Go.bits .and .u8 a0 7) != 6) = true := bne_iff_ne.mpr c39
          by_cases c52 : (Go.bits .and .u8 a0 7) = 7
          · rw [if_pos c52] at H
            have c52b0 : ((Go.bits .and .u8 a0 7) == 7) = true := beq_iff_eq.mpr c52
            have c52b1 : ((Go.bits .and .u8 a0 7) != 7) = false := bne_eq_false_iff_eq.mpr c52
            clear c52
            obtain ⟨y246, hy246⟩ : ∃ y_ : List Int, y_ = (([(48 + (Go.bits .and .u8 (a0 / 8) 7)) % 256] : List Int)) := ⟨_, rfl⟩
            try rw [← hy246] at H
            have Ny246 := Aside0.mk hy246
            clear hy246
            obtain ⟨y249, hy249⟩ : ∃ y_ : List ByteArray, y_ = (([(⟨#[82, 83, 84]⟩ : ByteArray), strOfNums y246] : List ByteArray)) := ⟨_, rfl⟩
            try rw [← hy249] at H
            have Ny249 := Aside0.mk hy249
            clear hy249
            replace H := Option.bind_eq_some_iff.mp H
            obtain ⟨t252, A530, H⟩ := H
            have A53 := Aside0.mk A530
            clear A530
            obtain rfl := Option.some.inj H
            go_enter Try.func99, Try.ntmps99
            go_wp2_with (first | ((with_reducible refine gate_dst (N := 13) rfl ?_); refine Kd.R_lit Kd.string _ 9 ?hg (N := 13) ?hd (xs := ([⟨#[66]⟩, ⟨#[68]⟩, ⟨#[72]⟩, ⟨#[80, 83, 87]⟩] : List ByteArray)) (inner := [.string ⟨#[66]⟩, .string ⟨#[68]⟩, .string ⟨#[72]⟩, .string ⟨#[80, 83, 87]⟩]) (ok := fun _ => True) (okp := fun _ => True) ?hr ?hp (fun _ hk => hk) trivial (Below.refl _ _) (Nat.le_refl _) (by simp) ?_; (case hd => rfl); (case hg => rfl); (case hr => first | (go_simp; done) | (go_simp; rfl)); (case hp => exact (Reps.one (show Kd.M Kd.string _ _ _ ⟨#[66]⟩ [.string ⟨#[66]⟩] from rfl) (Reps.one (show Kd.M Kd.string _ _ _ ⟨#[68]⟩ [.string ⟨#[68]⟩] from rfl) (Reps.one (show Kd.M Kd.string _ _ _ ⟨#[72]⟩ [.string ⟨#[72]⟩] from rfl) (Reps.one (show Kd.M Kd.string _ _ _ ⟨#[80, 83, 87]⟩ [.string ⟨#[80, 83, 87]⟩] from rfl) (Reps.none _ _)))))); intro v212 w54 ho55 hb hg_ hnew_; clear hg_ hnew_; (first | rw [← Ny211.out] at ho55 | (simp only [Int.reduceToNat] at ho55; rw [← Ny211.out] at ho55)); have n0_ := Aside0.mk (Kd.R_lower ho55 (below_size (by with_reducible repeat (first | exact HB.out | apply below_alloc | apply pw_below_drewN | apply below_drew1)))); have n1_ := Aside0.mk (below_step (by with_reducible repeat (first | exact HB.out | apply below_alloc | apply pw_below_drewN | apply below_drew1)) hb); clear HB; have HO213 := n0_; have HB := n1_; clear n0_ n1_; clear hb ho55; obtain ⟨Ao56, co56, eo56⟩ := Kd.R_slice HO213.out; subst eo56) | ((with_reducible refine gate_callee (f := 98) rfl ?_); refine goesL_ (some 14) rfl rfl Try.func98 (by kernel_rfl) rfl #[.int .u8 (Go.bits .and .u8 (a0 / 16) 3), .slice Ao56 y211.length co56] rfl (by (try simp only [List.map_toArray, List.map_cons, List.map_nil]); first | done | rfl | (simp only [IntKind.wrap_u8, Int.emod_add_emod, Int.add_emod_emod] <;> rfl)) ?_; (with_reducible refine (isa80_pick.calls (Go.bits .and .u8 (a0 / 16) 3) _ _ y211 t214 _ ?side1 ?side2 A2.out).mono ?_); (case side1 => repeat (first | exact (Kd.R_reads' HO213.out).2.2 | (with_reducible refine Kd.C_alloc ?_ _) | (with_reducible refine Kd.C_drewN ?_ _) | (with_reducible refine Kd.C_drew ?_))); (case side2 => exact (Kd.R_reads' HO213.out).2.1); rintro e w' ⟨rfl, ⟨nd, rfl⟩⟩; refine ⟨_, rfl, ?_⟩) | ((with_reducible refine gate_dst (N := 49) rfl ?_); refine Kd.R_lit (Kd.int .u8) _ 5 ?hg (N := 49) ?hd (xs := ([(48 + (Go.bits .and .u8 (a0 / 8) 7)) % 256] : List Int)) (inner := [.int .u8 ((48 + (Go.bits .and .u8 (a0 / 8) 7)) % 256)]) (ok := fun _ => True) (okp := fun _ => True) ?hr ?hp (fun _ hk => hk) trivial (Below.refl _ _) (Nat.le_refl _) (by simp) ?_; (case hd => rfl); (case hg => rfl); (case hr => first | (go_simp; done) | (go_simp; rfl)); (case hp => exact (Reps.one (show Kd.M (Kd.int .u8) _ _ _ ((48 + (Go.bits .and .u8 (a0 / 8) 7)) % 256) [.int .u8 ((48 + (Go.bits .and .u8 (a0 / 8) 7)) % 256)] from rfl) (Reps.none _ _))); intro v247 w57 ho58 hb hg_ hnew_; clear hg_ hnew_; (first | rw [← Ny246.out] at ho58 | (simp only [Int.reduceToNat] at ho58; rw [← Ny246.out] at ho58)); have n0_ := Aside0.mk (Kd.R_below (by (with_reducible repeat (first | apply Kd.R_alloc | apply Kd.R_drewN | apply Kd.R_drew)); exact HO213.out) hb); have n1_ := Aside0.mk (Kd.R_lower ho58 (below_size (by with_reducible repeat (first | exact HB.out | apply below_alloc | apply pw_below_drewN | apply below_drew1)))); have n2_ := Aside0.mk (below_step (by with_reducible repeat (first | exact HB.out | apply below_alloc | apply pw_below_drewN | apply below_drew1)) hb); clear HO213; clear HB; have HO213 := n0_; have HO248 := n1_; have HB := n2_; clear n0_ n1_ n2_; clear hb ho58; have hcv59 := own_string (P := Try.prog) Try.underlying26 Try.underlying5 Try.underlying9 (Kd.own_of_R HO248.out)) | ((with_reducible refine gate_dst (N := 51) rfl ?_); refine Kd.R_lit Kd.string _ 9 ?hg (N := 51) ?hd (xs := ([⟨#[82, 83, 84]⟩, strOfNums y246] : List ByteArray)) (inner := [.string ⟨#[82, 83, 84]⟩, .string (strOfNums y246)]) (ok := fun _ => True) (okp := fun _ => True) ?hr ?hp (fun _ hk => hk) trivial (Below.refl _ _) (Nat.le_refl _) (by simp) ?_; (case hd => rfl); (case hg => rfl); (case hr => first | (go_simp; done) | (go_simp; rfl)); (case hp => exact (Reps.one (show Kd.M Kd.string _ _ _ ⟨#[82, 83, 84]⟩ [.string ⟨#[82, 83, 84]⟩] from rfl) (Reps.one (show Kd.M Kd.string _ _ _ (strOfNums y246) [.string (strOfNums y246)] from rfl) (Reps.none _ _)))); intro v250 w60 ho61 hb hg_ hnew_; clear hg_ hnew_; (first | rw [← Ny249.out] at ho61 | (simp only [Int.reduceToNat] at ho61; rw [← Ny249.out] at ho61)); have n0_ := Aside0.mk (Kd.R_elder' (by (with_reducible repeat (first | apply Kd.R_alloc | apply Kd.R_drewN | apply Kd.R_drew)); exact HO213.out) (Kd.R_base ho61) hb); have n1_ := Aside0.mk (Kd.R_below (by (with_reducible repeat (first | apply Kd.R_alloc | apply Kd.R_drewN | apply Kd.R_drew)); exact HO248.out) hb); have n2_ := Aside0.mk (Kd.R_lower (Kd.R_new' ho61 (Kd.R_lt (by (with_reducible repeat (first | apply Kd.R_alloc | apply Kd.R_drewN | apply Kd.R_drew)); exact HO213.out))) (below_size (by with_reducible repeat (first | exact HB.out | apply below_alloc | apply pw_below_drewN | apply below_drew1)))); have n3_ := Aside0.mk (below_step (by with_reducible repeat (first | exact HB.out | apply below_alloc | apply pw_below_drewN | apply below_drew1)) hb); clear HO213; clear HO248; clear HB; have HO213 := n0_; have HO248 := n1_; have HO251 := n2_; have HB := n3_; clear n0_ n1_ n2_ n3_; clear hb ho61; obtain ⟨Ao62, co62, eo62⟩ := Kd.R_slice HO251.out; subst eo62) | ((with_reducible refine gate_callee (f := 96) rfl ?_); refine goesL_ (some 52) rfl rfl Try.func96 (by kernel_rfl) rfl #[.slice Ao62 y249.length co62] rfl (by (try simp only [List.map_toArray, List.map_cons, List.map_nil]); first | done | rfl | (simp only [IntKind.wrap_u8, Int.emod_add_emod, Int.add_emod_emod] <;> rfl)) ?_; (with_reducible refine (isa80_form.calls (fun k_ => some k_ = (.slice Ao62 y249.length co62 : Value).ownBlock) (.slice Ao62 y249.length co62) y249 t252 w _ ?side1 ?side2 A53.out).mono ?_); (case side1 => repeat (first | (with_reducible first | exact HB.out | apply below_alloc | apply pw_below_drewN | apply below_drew1) | exact HB.out)); (case side2 => exact Kd.R_tight rfl HO251.out); rintro e w63 ⟨v253, rfl, ho0, hb, hkp⟩; refine ⟨_, rfl, ?_⟩; have n0_ := Aside0.mk (Kd.R_mono (ok' := fun k_ => some k_ ≠ (v253 : Value).ownBlock) (Kd.R_keptB (HO213.out) hkp (fun k_ hk_ hs_ => (hk_.2) hs_)) (fun k_ hk_ => fun e_ => Or.elim (ho0.1 k_ e_.symm) (fun hs_ => hk_.2.1 hs_) (fun hn_ => Nat.not_le.2 hk_.2.2 hn_))); have n1_ := Aside0.mk (Kd.R_mono (ok' := fun k_ => True) (Kd.R_keptB ((Kd.R_apart' HO248.out (Kd.R_typed HO251.out) (by decide))) hkp (fun k_ hk_ hs_ => (hk_.2) hs_)) (fun k_ hk_ => trivial)); have n2_ := Aside0.mk (Kd.R_mono (ok' := fun k_ => some k_ ≠ (.slice Ao56 y211.length co56 : Value).ownBlock) ho0 (fun k_ hk_ => Or.elim hk_ (fun hs_ => fun e_ => (((HO213.out).1 k_ e_.symm).2) hs_) (fun hn_ => (Kd.fresh' (Kd.R_lt (by (with_reducible repeat (first | apply Kd.R_alloc | apply Kd.R_drewN | apply Kd.R_drew)); exact HO213.out)) k_ hn_)))); have n3_ := Aside0.mk (hb); clear HO213; clear HO248; clear HB; clear HO251; have HO213 := n0_; have HO248 := n1_; have HO254 := n2_; have HB := n3_; clear n0_ n1_ n2_ n3_; (try clear hb); (try clear hkp); (try clear ho0)))
            go_ret
            exact ⟨_, by first | rfl | (simp <;> rfl) | (simp [*] <;> rfl), by (with_reducible repeat (first | apply Kd.R_alloc | apply Kd.R_drewN | apply Kd.R_drew)); exact Kd.R_mono HO254.out (fun _ hk => trivial), by with_reducible repeat (first | exact HB.out | apply below_alloc | apply pw_below_drewN | apply below_drew1)⟩
          · rw [if_neg c52] at H
            have c52b0 : ((Go.bits .and .u8 a0 7) == 7) = false := beq_eq_false_iff_ne.mpr c52
            have c52b1 : ((Go.bits .and .u8 a0 7) != 7) = true := bne_iff_ne.mpr c52
            have HC64 := Aside0.mk H
            clear H
            go_enter Try.func99, Try.ntmps99
            go_upto_if 54 with (first | ((with_reducible refine gate_dst (N := 13) rfl ?_); refine Kd.R_lit Kd.string _ 9 ?hg (N := 13) ?hd (xs := ([⟨#[66]⟩, ⟨#[68]⟩, ⟨#[72]⟩, ⟨#[80, 83, 87]⟩] : List ByteArray)) (inner := [.string ⟨#[66]⟩, .string ⟨#[68]⟩, .string ⟨#[72]⟩, .string ⟨#[80, 83, 87]⟩]) (ok := fun _ => True) (okp := fun _ => True) ?hr ?hp (fun _ hk => hk) trivial (Below.refl _ _) (Nat.le_refl _) (by simp) ?_; (case hd => rfl); (case hg => rfl); (case hr => first | (go_simp; done) | (go_simp; rfl)); (case hp => exact (Reps.one (show Kd.M Kd.string _ _ _ ⟨#[66]⟩ [.string ⟨#[66]⟩] from rfl) (Reps.one (show Kd.M Kd.string _ _ _ ⟨#[68]⟩ [.string ⟨#[68]⟩] from rfl) (Reps.one (show Kd.M Kd.string _ _ _ ⟨#[72]⟩ [.string ⟨#[72]⟩] from rfl) (Reps.one (show Kd.M Kd.string _ _ _ ⟨#[80, 83, 87]⟩ [.string ⟨#[80, 83, 87]⟩] from rfl) (Reps.none _ _)))))); intro v212 w65 ho66 hb hg_ hnew_; clear hg_ hnew_; (first | rw [← Ny211.out] at ho66 | (simp only [Int.reduceToNat] at ho66; rw [← Ny211.out] at ho66)); have n0_ := Aside0.mk (Kd.R_lower ho66 (below_size (by with_reducible repeat (first | exact HB.out | apply below_alloc | apply pw_below_drewN | apply below_drew1)))); have n1_ := Aside0.mk (below_step (by with_reducible repeat (first | exact HB.out | apply below_alloc | apply pw_below_drewN | apply below_drew1)) hb); clear HB; have HO213 := n0_; have HB := n1_; clear n0_ n1_; clear hb ho66; obtain ⟨Ao67, co67, eo67⟩ := Kd.R_slice HO213.out; subst eo67) | ((with_reducible refine gate_callee (f := 98) rfl ?_); refine goesL_ (some 14) rfl rfl Try.func98 (by kernel_rfl) rfl #[.int .u8 (Go.bits .and .u8 (a0 / 16) 3), .slice Ao67 y211.length co67] rfl (by (try simp only [List.map_toArray, List.map_cons, List.map_nil]); first | done | rfl | (simp only [IntKind.wrap_u8, Int.emod_add_emod, Int.add_emod_emod] <;> rfl)) ?_; (with_reducible refine (isa80_pick.calls (Go.bits .and .u8 (a0 / 16) 3) _ _ y211 t214 _ ?side1 ?side2 A2.out).mono ?_); (case side1 => repeat (first | exact (Kd.R_reads' HO213.out).2.2 | (with_reducible refine Kd.C_alloc ?_ _) | (with_reducible refine Kd.C_drewN ?_ _) | (with_reducible refine Kd.C_drew ?_))); (case side2 => exact (Kd.R_reads' HO213.out).2.1); rintro e w' ⟨rfl, ⟨nd, rfl⟩⟩; refine ⟨_, rfl, ?_⟩))
            (try simp only [Act.put, List.setIfInBounds_toArray, List.set_cons_zero, List.set_cons_succ])
            go_cut [54] (fun v54 wc => ∃ (kq : Nat) (x54_63 : Bool), v54 = .bool x54_63 ∧ Aside0 (isa80_high.j0 kq (Go.bits .and .u8 (a0 / 8) 7) (Go.bits .and .u8 (a0 / 16) 3) t214 a0 x54_63 = some r) ∧ Aside0 (kq ≤ k) ∧ Aside0 (Below w.heap.size w wc))
            case first =>
              have H := HC64.out
              clear HC64
              by_cases c68 : a0 = 193
              · rw [if_pos c68] at H
                have c68b0 : (a0 == 193) = true := beq_iff_eq.mpr c68
                have c68b1 : (a0 != 193) = false := bne_eq_false_iff_eq.mpr c68
                clear c68
                (first | rw [c68b0] | (simp only [i64_w, i32_w]; rw [c68b0]) | skip)
                have H' := Aside0.mk H
                clear H
                go_wp2
                go_meet
                case rel => exact ⟨_, ((a0 == 193)), (by first | rfl | (simp; done) | (simp [*]; done)), H', ⟨by first | omega | exact Nat.le_refl _⟩, ⟨by with_reducible repeat (first | exact HB.out | apply below_alloc | apply pw_below_drewN | apply below_drew1)⟩⟩
              · rw [if_neg c68] at H
                have c68b0 : (a0 == 193) = false := beq_eq_false_iff_ne.mpr c68
                have c68b1 : (a0 != 193) = true := bne_iff_ne.mpr c68
                (first | rw [c68b0] | (simp only [i64_w, i32_w]; rw [c68b0]) | skip)
                by_cases c69 : a0 = 209
                · rw [if_pos c69] at H
                  have c69b0 : (a0 == 209) = true := beq_iff_eq.mpr c69
                  have c69b1 : (a0 != 209) = false := bne_eq_false_iff_eq.mpr c69
                  clear c69
                  have H' := Aside0.mk H
                  clear H
                  go_wp2
                  go_meet
                  case rel => exact ⟨_, ((a0 == 209)), (by first | rfl | (simp; done) | (simp [*]; done)), H', ⟨by first | omega | exact Nat.le_refl _⟩, ⟨by with_reducible repeat (first | exact HB.out | apply below_alloc | apply pw_below_drewN | apply below_drew1)⟩⟩
                · rw [if_neg c69] at H
                  have c69b0 : (a0 == 209) = false := beq_eq_false_iff_ne.mpr c69
                  have c69b1 : (a0 != 209) = true := bne_iff_ne.mpr c69
                  by_cases c70 : a0 = 225
                  · rw [if_pos c70] at H
                    have c70b0 : (a0 == 225) = true := beq_iff_eq.mpr c70
                    have c70b1 : (a0 != 225) = false := bne_eq_false_iff_eq.mpr c70
                    clear c70
                    have H' := Aside0.mk H
                    clear H
                    go_wp2
                    go_meet
                    case rel => exact ⟨_, ((a0 == 225)), (by first | rfl | (simp; done) | (simp [*]; done)), H', ⟨by first | omega | exact Nat.le_refl _⟩, ⟨by with_reducible repeat (first | exact HB.out | apply below_alloc | apply pw_below_drewN | apply below_drew1)⟩⟩
                  · rw [if_neg c70] at H
                    have c70b0 : (a0 == 225) = false := beq_eq_false_iff_ne.mpr c70
                    have c70b1 : (a0 != 225) = true := bne_iff_ne.mpr c70
                    have H' := Aside0.mk H
                    clear H
                    go_wp2
                    go_meet
                    case rel => exact ⟨_, ((a0 == 241)), (by first | rfl | (simp; done) | (simp [*]; done)), H', ⟨by first | omega | exact Nat.le_refl _⟩, ⟨by with_reducible repeat (first | exact HB.out | apply below_alloc | apply pw_below_drewN | apply below_drew1)⟩⟩
            case rest =>
              clear HC64
              try clear c1
              try clear c2
              try clear p2
              try clear c3
              try clear c3b0
              try clear c3b1
              try clear c5
              try clear c5b0
              try clear c5b1
              try clear c5b2
              try clear hcv5
              try clear c6
              try clear c7
              try clear c9
              try clear c10
              try clear c15
              try clear c15b0
              try clear c15b1
              try clear c17
              try clear c17b0
              try clear c17b1
              try clear c17b2
              try clear c27
              try clear c27b0
              try clear c27b1
              try clear c29
              try clear c29b0
              try clear c29b1
              try clear c29b2
              try clear c39
              try clear c39b0
              try clear c39b1
              try clear c52
              try clear c52b0
              try clear c52b1
              try clear hcv59
              try clear c68
              try clear c68b0
              try clear c68b1
              try clear c69
              try clear c69b0
              try clear c69b1
              try clear c70
              try clear c70b0
              try clear c70b1
              obtain ⟨kq, x54_63, rfl, HA, HJ63, HB⟩ := hcut
              cases kq with
              | zero => exact absurd HA.out (by simp [isa80_high.j0])
              | succ kj63 =>
                have H := HA.out
                clear HA
                simp only [isa80_high.j0] at H
                by_cases c71 : x54_63 = true
                · subst c71
                  have H1 : ((isa80_form.f (([(⟨#[80, 79, 80]⟩ : ByteArray), t214] : List ByteArray))).bind fun t258 => (some t258)) = some r := by rw [if_pos rfl] at H; exact H
                  clear H
                  have H := H1
                  clear H1
                  obtain ⟨y255, hy255⟩ : ∃ y_ : List ByteArray, y_ = (([(⟨#[80, 79, 80]⟩ : ByteArray), t214] : List ByteArray)) := ⟨_, rfl⟩
                  try rw [← hy255] at H
                  have Ny255 := Aside0.mk hy255
                  clear hy255
                  replace H := Option.bind_eq_some_iff.mp H
                  obtain ⟨t258, A720, H⟩ := H
                  have A72 := Aside0.mk A720
                  clear A720
                  obtain rfl := Option.some.inj H
                  go_wp2_with (first | ((with_reducible refine gate_dst (N := 60) rfl ?_); refine Kd.R_lit Kd.string _ 9 ?hg (N := 60) ?hd (xs := ([⟨#[80, 79, 80]⟩, t214] : List ByteArray)) (inner := [.string ⟨#[80, 79, 80]⟩, .string t214]) (ok := fun _ => True) (okp := fun _ => True) ?hr ?hp (fun _ hk => hk) trivial (Below.refl _ _) (Nat.le_refl _) (by simp) ?_; (case hd => rfl); (case hg => rfl); (case hr => first | (go_simp; done) | (go_simp; rfl)); (case hp => exact (Reps.one (show Kd.M Kd.string _ _ _ ⟨#[80, 79, 80]⟩ [.string ⟨#[80, 79, 80]⟩] from rfl) (Reps.one (show Kd.M Kd.string _ _ _ t214 [.string t214] from rfl) (Reps.none _ _)))); intro v256 w73 ho74 hb hg_ hnew_; clear hg_ hnew_; (first | rw [← Ny255.out] at ho74 | (simp only [Int.reduceToNat] at ho74; rw [← Ny255.out] at ho74)); have n0_ := Aside0.mk (Kd.R_lower ho74 (below_size (by with_reducible repeat (first | exact HB.out | apply below_alloc | apply pw_below_drewN | apply below_drew1)))); have n1_ := Aside0.mk (below_step (by with_reducible repeat (first | exact HB.out | apply below_alloc | apply pw_below_drewN | apply below_drew1)) hb); clear HB; have HO257 := n0_; have HB := n1_; clear n0_ n1_; clear hb ho74; obtain ⟨Ao75, co75, eo75⟩ := Kd.R_slice HO257.out; subst eo75) | ((with_reducible refine gate_callee (f := 96) rfl ?_); refine goesL_ (some 61) rfl rfl Try.func96 (by kernel_rfl) rfl #[.slice Ao75 y255.length co75] rfl (by (try simp only [List.map_toArray, List.map_cons, List.map_nil]); first | done | rfl | (simp only [IntKind.wrap_u8, Int.emod_add_emod, Int.add_emod_emod] <;> rfl)) ?_; (with_reducible refine (isa80_form.calls (fun k_ => some k_ = (.slice Ao75 y255.length co75 : Value).ownBlock) (.slice Ao75 y255.length co75) y255 t258 w _ ?side1 ?side2 A72.out).mono ?_); (case side1 => repeat (first | (with_reducible first | exact HB.out | apply below_alloc | apply pw_below_drewN | apply below_drew1) | exact HB.out)); (case side2 => exact Kd.R_tight rfl HO257.out); rintro e w76 ⟨v259, rfl, ho0, hb, hkp⟩; refine ⟨_, rfl, ?_⟩; have n0_ := Aside0.mk (Kd.R_mono (ok' := fun k_ => True) ho0 (fun k_ hk_ => trivial)); have n1_ := Aside0.mk (hb); clear HB; clear HO257; have HO260 := n0_; have HB := n1_; clear n0_ n1_; (try clear hb); (try clear hkp); (try clear ho0)))
                  go_ret
                  exact ⟨_, by first | rfl | (simp <;> rfl) | (simp [*] <;> rfl), by (with_reducible repeat (first | apply Kd.R_alloc | apply Kd.R_drewN | apply Kd.R_drew)); exact HO260.out, by with_reducible repeat (first | exact HB.out | apply below_alloc | apply pw_below_drewN | apply below_drew1)⟩
                · replace c71 := Bool.eq_false_iff.mpr c71
                  subst c71
                  have H1 : (if a0 = 197 then (isa80_high.j1 kj63 (Go.bits .and .u8 (a0 / 8) 7) (Go.bits .and .u8 (a0 / 16) 3) t214 a0 (a0 == 197)) else (if a0 = 213 then (isa80_high.j1 kj63 (Go.bits .and .u8 (a0 / 8) 7) (Go.bits .and .u8 (a0 / 16) 3) t214 a0 (a0 == 213)) else (if a0 = 229 then (isa80_high.j1 kj63 (Go.bits .and .u8 (a0 / 8) 7) (Go.bits .and .u8 (a0 / 16) 3) t214 a0 (a0 == 229)) else (isa80_high.j1 kj63 (Go.bits .and .u8 (a0 / 8) 7) (Go.bits .and .u8 (a0 / 16) 3) t214 a0 (a0 == 245))))) = some r := by rw [if_neg (show ¬ (false = true) by decide)] at H; exact H
                  clear H
                  have H := H1
                  clear H1
                  have HC77 := Aside0.mk H
                  clear H
                  go_upto_if 62 with (fail)
                  go_cut [62] (fun v62 wc => ∃ (kq : Nat) (x62_76 : Bool), v62 = .bool x62_76 ∧ Aside0 (isa80_high.j1 kq (Go.bits .and .u8 (a0 / 8) 7) (Go.bits .and .u8 (a0 / 16) 3) t214 a0 x62_76 = some r) ∧ Aside0 (kq ≤ kj63) ∧ Aside0 (Below w.heap.size w wc))
                  case first =>
                    have H := HC77.out
                    clear HC77
                    by_cases c78 : a0 = 197
                    · rw [if_pos c78] at H
                      have c78b0 : (a0 == 197) = true := beq_iff_eq.mpr c78
                      have c78b1 : (a0 != 197) = false := bne_eq_false_iff_eq.mpr c78
                      clear c78
                      (first | rw [c78b0] | (simp only [i64_w, i32_w]; rw [c78b0]) | skip)
                      have H' := Aside0.mk H
                      clear H
                      go_wp2
                      go_meet
                      case rel => exact ⟨_, ((a0 == 197)), (by first | rfl | (simp; done) | (simp [*]; done)), H', ⟨by have := HJ63.out; first | omega | exact Nat.le_refl _⟩, ⟨by with_reducible repeat (first | exact HB.out | apply below_alloc | apply pw_below_drewN | apply below_drew1)⟩⟩
                    · rw [if_neg c78] at H
                      have c78b0 : (a0 == 197) = false := beq_eq_false_iff_ne.mpr c78
                      have c78b1 : (a0 != 197) = true := bne_iff_ne.mpr c78
                      (first | rw [c78b0] | (simp only [i64_w, i32_w]; rw [c78b0]) | skip)
                      by_cases c79 : a0 = 213
                      · rw [if_pos c79] at H
                        have c79b0 : (a0 == 213) = true := beq_iff_eq.mpr c79
                        have c79b1 : (a0 != 213) = false := bne_eq_false_iff_eq.mpr c79
                        clear c79
                        have H' := Aside0.mk H
                        clear H
                        go_wp2
                        go_meet
                        case rel => exact ⟨_, ((a0 == 213)), (by first | rfl | (simp; done) | (simp [*]; done)), H', ⟨by have := HJ63.out; first | omega | exact Nat.le_refl _⟩, ⟨by with_reducible repeat (first | exact HB.out | apply below_alloc | apply pw_below_drewN | apply below_drew1)⟩⟩
                      · rw [if_neg c79] at H
                        have c79b0 : (a0 == 213) = false := beq_eq_false_iff_ne.mpr c79
                        have c79b1 : (a0 != 213) = true := bne_iff_ne.mpr c79
                        by_cases c80 : a0 = 229
                        · rw [if_pos c80] at H
                          have c80b0 : (a0 == 229) = true := beq_iff_eq.mpr c80
                          have c80b1 : (a0 != 229) = false := bne_eq_false_iff_eq.mpr c80
                          clear c80
                          have H' := Aside0.mk H
                          clear H
                          go_wp2
                          go_meet
                          case rel => exact ⟨_, ((a0 == 229)), (by first | rfl | (simp; done) | (simp [*]; done)), H', ⟨by have := HJ63.out; first | omega | exact Nat.le_refl _⟩, ⟨by with_reducible repeat (first | exact HB.out | apply below_alloc | apply pw_below_drewN | apply below_drew1)⟩⟩
                        · rw [if_neg c80] at H
                          have c80b0 : (a0 == 229) = false := beq_eq_false_iff_ne.mpr c80
                          have c80b1 : (a0 != 229) = true := bne_iff_ne.mpr c80
                          have H' := Aside0.mk H
                          clear H
                          go_wp2
                          go_meet
                          case rel => exact ⟨_, ((a0 == 245)), (by first | rfl | (simp; done) | (simp [*]; done)), H', ⟨by have := HJ63.out; first | omega | exact Nat.le_refl _⟩, ⟨by with_reducible repeat (first | exact HB.out | apply below_alloc | apply pw_below_drewN | apply below_drew1)⟩⟩
                  case rest =>
                    clear HC77
                    try clear c1
                    try clear c2
                    try clear p2
                    try clear c3
                    try clear c3b0
                    try clear c3b1
                    try clear c5
                    try clear c5b0
                    try clear c5b1
                    try clear c5b2
                    try clear hcv5
                    try clear c6
                    try clear c7
                    try clear c8
                    try clear c9
                    try clear c10
                    try clear c15
                    try clear c15b0
                    try clear c15b1
                    try clear c17
                    try clear c17b0
                    try clear c17b1
                    try clear c17b2
                    try clear c27
                    try clear c27b0
                    try clear c27b1
                    try clear c29
                    try clear c29b0
                    try clear c29b1
                    try clear c29b2
                    try clear c39
                    try clear c39b0
                    try clear c39b1
                    try clear c52
                    try clear c52b0
                    try clear c52b1
                    try clear hcv59
                    try clear c68
                    try clear c68b0
                    try clear c68b1
                    try clear c69
                    try clear c69b0
                    try clear c69b1
                    try clear c70
                    try clear c70b0
                    try clear c70b1
                    try clear c71
                    try clear c78
                    try clear c78b0
                    try clear c78b1
                    try clear c79
                    try clear c79b0
                    try clear c79b1
                    try clear c80
                    try clear c80b0
                    try clear c80b1
                    try clear p2
                    obtain ⟨kq, x62_76, rfl, HA, HJ76, HB⟩ := hcut
                    cases kq with
                    | zero => exact absurd HA.out (by simp [isa80_high.j1])
                    | succ kj76 =>
                      have H := HA.out
                      clear HA
                      simp only [isa80_high.j1] at H
                      by_cases c81 : x62_76 = true
                      · subst c81
                        have H1 : ((isa80_form.f (([(⟨#[80, 85, 83, 72]⟩ : ByteArray), t214] : List ByteArray))).bind fun t264 => (some t264)) = some r := by rw [if_pos rfl] at H; exact H
                        clear H
                        have H := H1
                        clear H1
                        obtain ⟨y261, hy261⟩ : ∃ y_ : List ByteArray, y_ = (([(⟨#[80, 85, 83, 72]⟩ : ByteArray), t214] : List ByteArray)) := ⟨_, rfl⟩
                        try rw [← hy261] at H
                        have Ny261 := Aside0.mk hy261
                        clear hy261
                        replace H := Option.bind_eq_some_iff.mp H
                        obtain ⟨t264, A820, H⟩ := H
                        have A82 := Aside0.mk A820
                        clear A820
                        obtain rfl := Option.some.inj H
                        go_wp2_with (first | ((with_reducible refine gate_dst (N := 68) rfl ?_); refine Kd.R_lit Kd.string _ 9 ?hg (N := 68) ?hd (xs := ([⟨#[80, 85, 83, 72]⟩, t214] : List ByteArray)) (inner := [.string ⟨#[80, 85, 83, 72]⟩, .string t214]) (ok := fun _ => True) (okp := fun _ => True) ?hr ?hp (fun _ hk => hk) trivial (Below.refl _ _) (Nat.le_refl _) (by simp) ?_; (case hd => rfl); (case hg => rfl); (case hr => first | (go_simp; done) | (go_simp; rfl)); (case hp => exact (Reps.one (show Kd.M Kd.string _ _ _ ⟨#[80, 85, 83, 72]⟩ [.string ⟨#[80, 85, 83, 72]⟩] from rfl) (Reps.one (show Kd.M Kd.string _ _ _ t214 [.string t214] from rfl) (Reps.none _ _)))); intro v262 w83 ho84 hb hg_ hnew_; clear hg_ hnew_; (first | rw [← Ny261.out] at ho84 | (simp only [Int.reduceToNat] at ho84; rw [← Ny261.out] at ho84)); have n0_ := Aside0.mk (Kd.R_lower ho84 (below_size (by with_reducible repeat (first | exact HB.out | apply below_alloc | apply pw_below_drewN | apply below_drew1)))); have n1_ := Aside0.mk (below_step (by with_reducible repeat (first | exact HB.out | apply below_alloc | apply pw_below_drewN | apply below_drew1)) hb); clear HB; have HO263 := n0_; have HB := n1_; clear n0_ n1_; clear hb ho84; obtain ⟨Ao85, co85, eo85⟩ := Kd.R_slice HO263.out; subst eo85) | ((with_reducible refine gate_callee (f := 96) rfl ?_); refine goesL_ (some 69) rfl rfl Try.func96 (by kernel_rfl) rfl #[.slice Ao85 y261.length co85] rfl (by (try simp only [List.map_toArray, List.map_cons, List.map_nil]); first | done | rfl | (simp only [IntKind.wrap_u8, Int.emod_add_emod, Int.add_emod_emod] <;> rfl)) ?_; (with_reducible refine (isa80_form.calls (fun k_ => some k_ = (.slice Ao85 y261.length co85 : Value).ownBlock) (.slice Ao85 y261.length co85) y261 t264 w _ ?side1 ?side2 A82.out).mono ?_); (case side1 => repeat (first | (with_reducible first | exact HB.out | apply below_alloc | apply pw_below_drewN | apply below_drew1) | exact HB.out)); (case side2 => exact Kd.R_tight rfl HO263.out); rintro e w86 ⟨v265, rfl, ho0, hb, hkp⟩; refine ⟨_, rfl, ?_⟩; have n0_ := Aside0.mk (Kd.R_mono (ok' := fun k_ => True) ho0 (fun k_ hk_ => trivial)); have n1_ := Aside0.mk (hb); clear HB; clear HO263; have HO266 := n0_; have HB := n1_; clear n0_ n1_; (try clear hb); (try clear hkp); (try clear ho0)))
                        go_ret
                        exact ⟨_, by first | rfl | (simp <;> rfl) | (simp [*] <;> rfl), by (with_reducible repeat (first | apply Kd.R_alloc | apply Kd.R_drewN | apply Kd.R_drew)); exact HO266.out, by with_reducible repeat (first | exact HB.out | apply below_alloc | apply pw_below_drewN | apply below_drew1)⟩
                      · replace c81 := Bool.eq_false_iff.mpr c81
                        subst c81
                        have H1 : (if a0 = 201 then (isa80_high.j2 kj76 (Go.bits .and .u8 (a0 / 8) 7) (Go.bits .and .u8 (a0 / 16) 3) a0 (a0 == 201)) else (if a0 = 233 then (isa80_high.j2 kj76 (Go.bits .and .u8 (a0 / 8) 7) (Go.bits .and .u8 (a0 / 16) 3) a0 (a0 == 233)) else (isa80_high.j2 kj76 (Go.bits .and .u8 (a0 / 8) 7) (Go.bits .and .u8 (a0 / 16) 3) a0 (a0 == 249)))) = some r := by rw [if_neg (show ¬ (false = true) by decide)] at H; exact H
                        clear H
                        have H := H1
                        clear H1
                        have HC87 := Aside0.mk H
                        clear H
                        go_upto_if 70 with (fail)
                        go_cut [70] (fun v70 wc => ∃ (kq : Nat) (x70_86 : Bool), v70 = .bool x70_86 ∧ Aside0 (isa80_high.j2 kq (Go.bits .and .u8 (a0 / 8) 7) (Go.bits .and .u8 (a0 / 16) 3) a0 x70_86 = some r) ∧ Aside0 (kq ≤ kj76) ∧ Aside0 (Below w.heap.size w wc))
                        case first =>
                          have H := HC87.out
                          clear HC87
                          by_cases c88 : a0 = 201
                          · rw [if_pos c88] at H
                            have c88b0 : (a0 == 201) = true := beq_iff_eq.mpr c88
                            have c88b1 : (a0 != 201) = false := bne_eq_false_iff_eq.mpr c88
                            clear c88
                            (first | rw [c88b0] | (simp only [i64_w, i32_w]; rw [c88b0]) | skip)
                            have H' := Aside0.mk H
                            clear H
                            go_wp2
                            go_meet
                            case rel => exact ⟨_, ((a0 == 201)), (by first | rfl | (simp; done) | (simp [*]; done)), H', ⟨by have := HJ63.out; have := HJ76.out; first | omega | exact Nat.le_refl _⟩, ⟨by with_reducible repeat (first | exact HB.out | apply below_alloc | apply pw_below_drewN | apply below_drew1)⟩⟩
                          · rw [if_neg c88] at H
                            have c88b0 : (a0 == 201) = false := beq_eq_false_iff_ne.mpr c88
                            have c88b1 : (a0 != 201) = true := bne_iff_ne.mpr c88
                            (first | rw [c88b0] | (simp only [i64_w, i32_w]; rw [c88b0]) | skip)
                            by_cases c89 : a0 = 233
                            · rw [if_pos c89] at H
                              have c89b0 : (a0 == 233) = true := beq_iff_eq.mpr c89
                              have c89b1 : (a0 != 233) = false := bne_eq_false_iff_eq.mpr c89
                              clear c89
                              have H' := Aside0.mk H
                              clear H
                              go_wp2
                              go_meet
                              case rel => exact ⟨_, ((a0 == 233)), (by first | rfl | (simp; done) | (simp [*]; done)), H', ⟨by have := HJ63.out; have := HJ76.out; first | omega | exact Nat.le_refl _⟩, ⟨by with_reducible repeat (first | exact HB.out | apply below_alloc | apply pw_below_drewN | apply below_drew1)⟩⟩
                            · rw [if_neg c89] at H
                              have c89b0 : (a0 == 233) = false := beq_eq_false_iff_ne.mpr c89
                              have c89b1 : (a0 != 233) = true := bne_iff_ne.mpr c89
                              have H' := Aside0.mk H
                              clear H
                              go_wp2
                              go_meet
                              case rel => exact ⟨_, ((a0 == 249)), (by first | rfl | (simp; done) | (simp [*]; done)), H', ⟨by have := HJ63.out; have := HJ76.out; first | omega | exact Nat.le_refl _⟩, ⟨by with_reducible repeat (first | exact HB.out | apply below_alloc | apply pw_below_drewN | apply below_drew1)⟩⟩
                        case rest =>
                          clear HC87
                          try clear c1
                          try clear c2
                          try clear p2
                          try clear c3
                          try clear c3b0
                          try clear c3b1
                          try clear c5
                          try clear c5b0
                          try clear c5b1
                          try clear c5b2
                          try clear hcv5
                          try clear c6
                          try clear c7
                          try clear c8
                          try clear c9
                          try clear c10
                          try clear c15
                          try clear c15b0
                          try clear c15b1
                          try clear c17
                          try clear c17b0
                          try clear c17b1
                          try clear c17b2
                          try clear c27
                          try clear c27b0
                          try clear c27b1
                          try clear c29
                          try clear c29b0
                          try clear c29b1
                          try clear c29b2
                          try clear c39
                          try clear c39b0
                          try clear c39b1
                          try clear c52
                          try clear c52b0
                          try clear c52b1
                          try clear hcv59
                          try clear c68
                          try clear c68b0
                          try clear c68b1
                          try clear c69
                          try clear c69b0
                          try clear c69b1
                          try clear c70
                          try clear c70b0
                          try clear c70b1
                          try clear c71
                          try clear c78
                          try clear c78b0
                          try clear c78b1
                          try clear c79
                          try clear c79b0
                          try clear c79b1
                          try clear c80
                          try clear c80b0
                          try clear c80b1
                          try clear c81
                          try clear c88
                          try clear c88b0
                          try clear c88b1
                          try clear c89
                          try clear c89b0
                          try clear c89b1
                          try clear p2
                          obtain ⟨kq, x70_86, rfl, HA, HJ86, HB⟩ := hcut
                          cases kq with
                          | zero => exact absurd HA.out (by simp [isa80_high.j2])
                          | succ kj86 =>
                            have H := HA.out
                            clear HA
                            simp only [isa80_high.j2] at H
                            by_cases c90 : x70_86 = true
                            · subst c90
                              have H1 : ((isa80_pick.f (Go.bits .and .u8 (a0 / 16) 3) (([(⟨#[82, 69, 84]⟩ : ByteArray), (⟨#[45]⟩ : ByteArray), (⟨#[80, 67, 72, 76]⟩ : ByteArray), (⟨#[83, 80, 72, 76]⟩ : ByteArray)] : List ByteArray))).bind fun t270 => ((isa80_form.f (([t270] : List ByteArray))).bind fun t274 => (some t274))) = some r := by rw [if_pos rfl] at H; exact H
                              clear H
                              have H := H1
                              clear H1
                              obtain ⟨y267, hy267⟩ : ∃ y_ : List ByteArray, y_ = (([(⟨#[82, 69, 84]⟩ : ByteArray), (⟨#[45]⟩ : ByteArray), (⟨#[80, 67, 72, 76]⟩ : ByteArray), (⟨#[83, 80, 72, 76]⟩ : ByteArray)] : List ByteArray)) := ⟨_, rfl⟩
                              try rw [← hy267] at H
                              have Ny267 := Aside0.mk hy267
                              clear hy267
                              replace H := Option.bind_eq_some_iff.mp H
                              obtain ⟨t270, A910, H⟩ := H
                              have A91 := Aside0.mk A910
                              clear A910
                              obtain ⟨y271, hy271⟩ : ∃ y_ : List ByteArray, y_ = (([t270] : List ByteArray)) := ⟨_, rfl⟩
                              try rw [← hy271] at H
                              have Ny271 := Aside0.mk hy271
                              clear hy271
                              replace H := Option.bind_eq_some_iff.mp H
                              obtain ⟨t274, A920, H⟩ := H
                              have A92 := Aside0.mk A920
                              clear A920
                              obtain rfl := Option.some.inj H
                              go_wp2_with (first | ((with_reducible refine gate_dst (N := 75) rfl ?_); refine Kd.R_lit Kd.string _ 9 ?hg (N := 75) ?hd (xs := ([⟨#[82, 69, 84]⟩, ⟨#[45]⟩, ⟨#[80, 67, 72, 76]⟩, ⟨#[83, 80, 72, 76]⟩] : List ByteArray)) (inner := [.string ⟨#[82, 69, 84]⟩, .string ⟨#[45]⟩, .string ⟨#[80, 67, 72, 76]⟩, .string ⟨#[83, 80, 72, 76]⟩]) (ok := fun _ => True) (okp := fun _ => True) ?hr ?hp (fun _ hk => hk) trivial (Below.refl _ _) (Nat.le_refl _) (by simp) ?_; (case hd => rfl); (case hg => rfl); (case hr => first | (go_simp; done) | (go_simp; rfl)); (case hp => exact (Reps.one (show Kd.M Kd.string _ _ _ ⟨#[82, 69, 84]⟩ [.string ⟨#[82, 69, 84]⟩] from rfl) (Reps.one (show Kd.M Kd.string _ _ _ ⟨#[45]⟩ [.string ⟨#[45]⟩] from rfl) (Reps.one (show Kd.M Kd.string _ _ _ ⟨#[80, 67, 72, 76]⟩ [.string ⟨#[80, 67, 72, 76]⟩] from rfl) (Reps.one (show Kd.M Kd.string _ _ _ ⟨#[83, 80, 72, 76]⟩ [.string ⟨#[83, 80, 72, 76]⟩] from rfl) (Reps.none _ _)))))); intro v268 w93 ho94 hb hg_ hnew_; clear hg_ hnew_; (first | rw [← Ny267.out] at ho94 | (simp only [Int.reduceToNat] at ho94; rw [← Ny267.out] at ho94)); have n0_ := Aside0.mk (Kd.R_lower ho94 (below_size (by with_reducible repeat (first | exact HB.out | apply below_alloc | apply pw_below_drewN | apply below_drew1)))); have n1_ := Aside0.mk (below_step (by with_reducible repeat (first | exact HB.out | apply below_alloc | apply pw_below_drewN | apply below_drew1)) hb); clear HB; have HO269 := n0_; have HB := n1_; clear n0_ n1_; clear hb ho94; obtain ⟨Ao95, co95, eo95⟩ := Kd.R_slice HO269.out; subst eo95) | ((with_reducible refine gate_callee (f := 98) rfl ?_); refine goesL_ (some 76) rfl rfl Try.func98 (by kernel_rfl) rfl #[.int .u8 (Go.bits .and .u8 (a0 / 16) 3), .slice Ao95 y267.length co95] rfl (by (try simp only [List.map_toArray, List.map_cons, List.map_nil]); first | done | rfl | (simp only [IntKind.wrap_u8, Int.emod_add_emod, Int.add_emod_emod] <;> rfl)) ?_; (with_reducible refine (isa80_pick.calls (Go.bits .and .u8 (a0 / 16) 3) _ _ y267 t270 _ ?side1 ?side2 A91.out).mono ?_); (case side1 => repeat (first | exact (Kd.R_reads' HO269.out).2.2 | (with_reducible refine Kd.C_alloc ?_ _) | (with_reducible refine Kd.C_drewN ?_ _) | (with_reducible refine Kd.C_drew ?_))); (case side2 => exact (Kd.R_reads' HO269.out).2.1); rintro e w' ⟨rfl, ⟨nd, rfl⟩⟩; refine ⟨_, rfl, ?_⟩) | ((with_reducible refine gate_dst (N := 77) rfl ?_); refine Kd.R_lit Kd.string _ 9 ?hg (N := 77) ?hd (xs := ([t270] : List ByteArray)) (inner := [.string t270]) (ok := fun _ => True) (okp := fun _ => True) ?hr ?hp (fun _ hk => hk) trivial (Below.refl _ _) (Nat.le_refl _) (by simp) ?_; (case hd => rfl); (case hg => rfl); (case hr => first | (go_simp; done) | (go_simp; rfl)); (case hp => exact (Reps.one (show Kd.M Kd.string _ _ _ t270 [.string t270] from rfl) (Reps.none _ _))); intro v272 w96 ho97 hb hg_ hnew_; clear hg_ hnew_; (first | rw [← Ny271.out] at ho97 | (simp only [Int.reduceToNat] at ho97; rw [← Ny271.out] at ho97)); have n0_ := Aside0.mk (Kd.R_elder' (by (with_reducible repeat (first | apply Kd.R_alloc | apply Kd.R_drewN | apply Kd.R_drew)); exact HO269.out) (Kd.R_base ho97) hb); have n1_ := Aside0.mk (Kd.R_lower (Kd.R_new' ho97 (Kd.R_lt (by (with_reducible repeat (first | apply Kd.R_alloc | apply Kd.R_drewN | apply Kd.R_drew)); exact HO269.out))) (below_size (by with_reducible repeat (first | exact HB.out | apply below_alloc | apply pw_below_drewN | apply below_drew1)))); have n2_ := Aside0.mk (below_step (by with_reducible repeat (first | exact HB.out | apply below_alloc | apply pw_below_drewN | apply below_drew1)) hb); clear HO269; clear HB; have HO269 := n0_; have HO273 := n1_; have HB := n2_; clear n0_ n1_ n2_; clear hb ho97; obtain ⟨Ao98, co98, eo98⟩ := Kd.R_slice HO273.out; subst eo98) | ((with_reducible refine gate_callee (f := 96) rfl ?_); refine goesL_ (some 78) rfl rfl Try.func96 (by kernel_rfl) rfl #[.slice Ao98 y271.length co98] rfl (by (try simp only [List.map_toArray, List.map_cons, List.map_nil]); first | done | rfl | (simp only [IntKind.wrap_u8, Int.emod_add_emod, Int.add_emod_emod] <;> rfl)) ?_; (with_reducible refine (isa80_form.calls (fun k_ => some k_ = (.slice Ao98 y271.length co98 : Value).ownBlock) (.slice Ao98 y271.length co98) y271 t274 w _ ?side1 ?side2 A92.out).mono ?_); (case side1 => repeat (first | (with_reducible first | exact HB.out | apply below_alloc | apply pw_below_drewN | apply below_drew1) | exact HB.out)); (case side2 => exact Kd.R_tight rfl HO273.out); rintro e w99 ⟨v275, rfl, ho0, hb, hkp⟩; refine ⟨_, rfl, ?_⟩; have n0_ := Aside0.mk (Kd.R_mono (ok' := fun k_ => some k_ ≠ (v275 : Value).ownBlock) (Kd.R_keptB (HO269.out) hkp (fun k_ hk_ hs_ => (hk_.2) hs_)) (fun k_ hk_ => fun e_ => Or.elim (ho0.1 k_ e_.symm) (fun hs_ => hk_.2.1 hs_) (fun hn_ => Nat.not_le.2 hk_.2.2 hn_))); have n1_ := Aside0.mk (Kd.R_mono (ok' := fun k_ => some k_ ≠ (.slice Ao95 y267.length co95 : Value).ownBlock) ho0 (fun k_ hk_ => Or.elim hk_ (fun hs_ => fun e_ => (((HO269.out).1 k_ e_.symm).2) hs_) (fun hn_ => (Kd.fresh' (Kd.R_lt (by (with_reducible repeat (first | apply Kd.R_alloc | apply Kd.R_drewN | apply Kd.R_drew)); exact HO269.out)) k_ hn_)))); have n2_ := Aside0.mk (hb); clear HO269; clear HB; clear HO273; have HO269 := n0_; have HO276 := n1_; have HB := n2_; clear n0_ n1_ n2_; (try clear hb); (try clear hkp); (try clear ho0)))
                              go_ret
                              exact ⟨_, by first | rfl | (simp <;> rfl) | (simp [*] <;> rfl), by (with_reducible repeat (first | apply Kd.R_alloc | apply Kd.R_drewN | apply Kd.R_drew)); exact Kd.R_mono HO276.out (fun _ hk => trivial), by with_reducible repeat (first | exact HB.out | apply below_alloc | apply pw_below_drewN | apply below_drew1)⟩
                            · replace c90 := Bool.eq_false_iff.mpr c90
                              subst c90
                              have H1 : (if a0 = 195 then ((isa80_form.f (([(⟨#[74, 77, 80]⟩ : ByteArray), (⟨#[100, 49, 54]⟩ : ByteArray)] : List ByteArray))).bind fun t280 => (some t280)) else (if a0 = 205 then ((isa80_form.f (([(⟨#[67, 65, 76, 76]⟩ : ByteArray), (⟨#[100, 49, 54]⟩ : ByteArray)] : List ByteArray))).bind fun t286 => (some t286)) else (if a0 = 211 then (isa80_high.j3 kj86 (Go.bits .and .u8 (a0 / 8) 7) a0 (a0 == 211)) else (isa80_high.j3 kj86 (Go.bits .and .u8 (a0 / 8) 7) a0 (a0 == 219))))) = some r := by rw [if_neg (show ¬ (false = true) by decide)] at H; exact H
                              clear H
                              have H := H1
                              clear H1
                              by_cases c100 : a0 = 195
                              · rw [if_pos c100] at H
                                have c100b0 : (a0 == 195) = true := beq_iff_eq.mpr c100
                                have c100b1 : (a0 != 195) = false := bne_eq_false_iff_eq.mpr c100
                                clear c100
                                obtain ⟨y277, hy277⟩ : ∃ y_ : List ByteArray, y_ = (([(⟨#[74, 77, 80]⟩ : ByteArray), (⟨#[100, 49, 54]⟩ : ByteArray)] : List ByteArray)) := ⟨_, rfl⟩
                                try rw [← hy277] at H
                                have Ny277 := Aside0.mk hy277
                                clear hy277
                                replace H := Option.bind_eq_some_iff.mp H
                                obtain ⟨t280, A1010, H⟩ := H
                                have A101 := Aside0.mk A1010
                                clear A1010
                                obtain rfl := Option.some.inj H
                                go_wp2_with (first | ((with_reducible refine gate_dst (N := 81) rfl ?_); refine Kd.R_lit Kd.string _ 9 ?hg (N := 81) ?hd (xs := ([⟨#[74, 77, 80]⟩, ⟨#[100, 49, 54]⟩] : List ByteArray)) (inner := [.string ⟨#[74, 77, 80]⟩, .string ⟨#[100, 49, 54]⟩]) (ok := fun _ => True) (okp := fun _ => True) ?hr ?hp (fun _ hk => hk) trivial (Below.refl _ _) (Nat.le_refl _) (by simp) ?_; (case hd => rfl); (case hg => rfl); (case hr => first | (go_simp; done) | (go_simp; rfl)); (case hp => exact (Reps.one (show Kd.M Kd.string _ _ _ ⟨#[74, 77, 80]⟩ [.string ⟨#[74, 77, 80]⟩] from rfl) (Reps.one (show Kd.M Kd.string _ _ _ ⟨#[100, 49, 54]⟩ [.string ⟨#[100, 49, 54]⟩] from rfl) (Reps.none _ _)))); intro v278 w102 ho103 hb hg_ hnew_; clear hg_ hnew_; (first | rw [← Ny277.out] at ho103 | (simp only [Int.reduceToNat] at ho103; rw [← Ny277.out] at ho103)); have n0_ := Aside0.mk (Kd.R_lower ho103 (below_size (by with_reducible repeat (first | exact HB.out | apply below_alloc | apply pw_below_drewN | apply below_drew1)))); have n1_ := Aside0.mk (below_step (by with_reducible repeat (first | exact HB.out | apply below_alloc | apply pw_below_drewN | apply below_drew1)) hb); clear HB; have HO279 := n0_; have HB := n1_; clear n0_ n1_; clear hb ho103; obtain ⟨Ao104, co104, eo104⟩ := Kd.R_slice HO279.out; subst eo104) | ((with_reducible refine gate_callee (f := 96) rfl ?_); refine goesL_ (some 82) rfl rfl Try.func96 (by kernel_rfl) rfl #[.slice Ao104 y277.length co104] rfl (by (try simp only [List.map_toArray, List.map_cons, List.map_nil]); first | done | rfl | (simp only [IntKind.wrap_u8, Int.emod_add_emod, Int.add_emod_emod] <;> rfl)) ?_; (with_reducible refine (isa80_form.calls (fun k_ => some k_ = (.slice Ao104 y277.length co104 : Value).ownBlock) (.slice Ao104 y277.length co104) y277 t280 w _ ?side1 ?side2 A101.out).mono ?_); (case side1 => repeat (first | (with_reducible first | exact HB.out | apply below_alloc | apply pw_below_drewN | apply below_drew1) | exact HB.out)); (case side2 => exact Kd.R_tight rfl HO279.out); rintro e w105 ⟨v281, rfl, ho0, hb, hkp⟩; refine ⟨_, rfl, ?_⟩; have n0_ := Aside0.mk (Kd.R_mono (ok' := fun k_ => True) ho0 (fun k_ hk_ => trivial)); have n1_ := Aside0.mk (hb); clear HB; clear HO279; have HO282 := n0_; have HB := n1_; clear n0_ n1_; (try clear hb); (try clear hkp); (try clear ho0)))
                                go_ret
                                exact ⟨_, by first | rfl | (simp <;> rfl) | (simp [*] <;> rfl), by (with_reducible repeat (first | apply Kd.R_alloc | apply Kd.R_drewN | apply Kd.R_drew)); exact HO282.out, by with_reducible repeat (first | exact HB.out | apply below_alloc | apply pw_below_drewN | apply below_drew1)⟩
                              · rw [if_neg c100] at H
                                have c100b0 : (a0 == 195) = false := beq_eq_false_iff_ne.mpr c100
                                have c100b1 : (a0 != 195) = true := bne_iff_ne.mpr c100
                                by_cases c106 : a0 = 205
                                · rw [if_pos c106] at H
                                  have c106b0 : (a0 == 205) = true := beq_iff_eq.mpr c106
                                  have c106b1 : (a0 != 205) = false := bne_eq_false_iff_eq.mpr c106
                                  clear c106
                                  obtain ⟨y283, hy283⟩ : ∃ y_ : List ByteArray, y_ = (([(⟨#[67, 65, 76, 76]⟩ : ByteArray), (⟨#[100, 49, 54]⟩ : ByteArray)] : List ByteArray)) := ⟨_, rfl⟩
                                  try rw [← hy283] at H
                                  have Ny283 := Aside0.mk hy283
                                  clear hy283
                                  replace H := Option.bind_eq_some_iff.mp H
                                  obtain ⟨t286, A1070, H⟩ := H
                                  have A107 := Aside0.mk A1070
                                  clear A1070
                                  obtain rfl := Option.some.inj H
                                  go_wp2_with (first | ((with_reducible refine gate_dst (N := 85) rfl ?_); refine Kd.R_lit Kd.string _ 9 ?hg (N := 85) ?hd (xs := ([⟨#[67, 65, 76, 76]⟩, ⟨#[100, 49, 54]⟩] : List ByteArray)) (inner := [.string ⟨#[67, 65, 76, 76]⟩, .string ⟨#[100, 49, 54]⟩]) (ok := fun _ => True) (okp := fun _ => True) ?hr ?hp (fun _ hk => hk) trivial (Below.refl _ _) (Nat.le_refl _) (by simp) ?_; (case hd => rfl); (case hg => rfl); (case hr => first | (go_simp; done) | (go_simp; rfl)); (case hp => exact (Reps.one (show Kd.M Kd.string _ _ _ ⟨#[67, 65, 76, 76]⟩ [.string ⟨#[67, 65, 76, 76]⟩] from rfl) (Reps.one (show Kd.M Kd.string _ _ _ ⟨#[100, 49, 54]⟩ [.string ⟨#[100, 49, 54]⟩] from rfl) (Reps.none _ _)))); intro v284 w108 ho109 hb hg_ hnew_; clear hg_ hnew_; (first | rw [← Ny283.out] at ho109 | (simp only [Int.reduceToNat] at ho109; rw [← Ny283.out] at ho109)); have n0_ := Aside0.mk (Kd.R_lower ho109 (below_size (by with_reducible repeat (first | exact HB.out | apply below_alloc | apply pw_below_drewN | apply below_drew1)))); have n1_ := Aside0.mk (below_step (by with_reducible repeat (first | exact HB.out | apply below_alloc | apply pw_below_drewN | apply below_drew1)) hb); clear HB; have HO285 := n0_; have HB := n1_; clear n0_ n1_; clear hb ho109; obtain ⟨Ao110, co110, eo110⟩ := Kd.R_slice HO285.out; subst eo110) | ((with_reducible refine gate_callee (f := 96) rfl ?_); refine goesL_ (some 86) rfl rfl Try.func96 (by kernel_rfl) rfl #[.slice Ao110 y283.length co110] rfl (by (try simp only [List.map_toArray, List.map_cons, List.map_nil]); first | done | rfl | (simp only [IntKind.wrap_u8, Int.emod_add_emod, Int.add_emod_emod] <;> rfl)) ?_; (with_reducible refine (isa80_form.calls (fun k_ => some k_ = (.slice Ao110 y283.length co110 : Value).ownBlock) (.slice Ao110 y283.length co110) y283 t286 w _ ?side1 ?side2 A107.out).mono ?_); (case side1 => repeat (first | (with_reducible first | exact HB.out | apply below_alloc | apply pw_below_drewN | apply below_drew1) | exact HB.out)); (case side2 => exact Kd.R_tight rfl HO285.out); rintro e w111 ⟨v287, rfl, ho0, hb, hkp⟩; refine ⟨_, rfl, ?_⟩; have n0_ := Aside0.mk (Kd.R_mono (ok' := fun k_ => True) ho0 (fun k_ hk_ => trivial)); have n1_ := Aside0.mk (hb); clear HB; clear HO285; have HO288 := n0_; have HB := n1_; clear n0_ n1_; (try clear hb); (try clear hkp); (try clear ho0)))
                                  go_ret
                                  exact ⟨_, by first | rfl | (simp <;> rfl) | (simp [*] <;> rfl), by (with_reducible repeat (first | apply Kd.R_alloc | apply Kd.R_drewN | apply Kd.R_drew)); exact HO288.out, by with_reducible repeat (first | exact HB.out | apply below_alloc | apply pw_below_drewN | apply below_drew1)⟩
                                · rw [if_neg c106] at H
                                  have c106b0 : (a0 == 205) = false := beq_eq_false_iff_ne.mpr c106
                                  have c106b1 : (a0 != 205) = true := bne_iff_ne.mpr c106
                                  have HC112 := Aside0.mk H
                                  clear H
                                  go_upto_if 87 with (fail)
                                  go_cut [87] (fun v87 wc => ∃ (kq : Nat) (x87_111 : Bool), v87 = .bool x87_111 ∧ Aside0 (isa80_high.j3 kq (Go.bits .and .u8 (a0 / 8) 7) a0 x87_111 = some r) ∧ Aside0 (kq ≤ kj86) ∧ Aside0 (Below w.heap.size w wc))
                                  case first =>
                                    have H := HC112.out
                                    clear HC112
                                    by_cases c113 : a0 = 211
                                    · rw [if_pos c113] at H
                                      have c113b0 : (a0 == 211) = true := beq_iff_eq.mpr c113
                                      have c113b1 : (a0 != 211) = false := bne_eq_false_iff_eq.mpr c113
                                      clear c113
                                      (first | rw [c113b0] | (simp only [i64_w, i32_w]; rw [c113b0]) | skip)
                                      have H' := Aside0.mk H
                                      clear H
                                      go_wp2
                                      go_meet
                                      case rel => exact ⟨_, ((a0 == 211)), (by first | rfl | (simp; done) | (simp [*]; done)), H', ⟨by have := HJ63.out; have := HJ76.out; have := HJ86.out; first | omega | exact Nat.le_refl _⟩, ⟨by with_reducible repeat (first | exact HB.out | apply below_alloc | apply pw_below_drewN | apply below_drew1)⟩⟩
                                    · rw [if_neg c113] at H
                                      have c113b0 : (a0 == 211) = false := beq_eq_false_iff_ne.mpr c113
                                      have c113b1 : (a0 != 211) = true := bne_iff_ne.mpr c113
                                      (first | rw [c113b0] | (simp only [i64_w, i32_w]; rw [c113b0]) | skip)
                                      have H' := Aside0.mk H
                                      clear H
                                      go_wp2
                                      go_meet
                                      case rel => exact ⟨_, ((a0 == 219)), (by first | rfl | (simp; done) | (simp [*]; done)), H', ⟨by have := HJ63.out; have := HJ76.out; have := HJ86.out; first | omega | exact Nat.le_refl _⟩, ⟨by with_reducible repeat (first | exact HB.out | apply below_alloc | apply pw_below_drewN | apply below_drew1)⟩⟩
                                  case rest =>
                                    clear HC112
                                    try clear c1
                                    try clear c2
                                    try clear p2
                                    try clear c3
                                    try clear c3b0
                                    try clear c3b1
                                    try clear c5
                                    try clear c5b0
                                    try clear c5b1
                                    try clear c5b2
                                    try clear hcv5
                                    try clear c6
                                    try clear c7
                                    try clear c8
                                    try clear c9
                                    try clear c10
                                    try clear c11
                                    try clear c15
                                    try clear c15b0
                                    try clear c15b1
                                    try clear c17
                                    try clear c17b0
                                    try clear c17b1
                                    try clear c17b2
                                    try clear c27
                                    try clear c27b0
                                    try clear c27b1
                                    try clear c29
                                    try clear c29b0
                                    try clear c29b1
                                    try clear c29b2
                                    try clear c39
                                    try clear c39b0
                                    try clear c39b1
                                    try clear c52
                                    try clear c52b0
                                    try clear c52b1
                                    try clear hcv59
                                    try clear c68
                                    try clear c68b0
                                    try clear c68b1
                                    try clear c69
                                    try clear c69b0
                                    try clear c69b1
                                    try clear c70
                                    try clear c70b0
                                    try clear c70b1
                                    try clear c71
                                    try clear c78
                                    try clear c78b0
                                    try clear c78b1
                                    try clear c79
                                    try clear c79b0
                                    try clear c79b1
                                    try clear c80
                                    try clear c80b0
                                    try clear c80b1
                                    try clear c81
                                    try clear c88
                                    try clear c88b0
                                    try clear c88b1
                                    try clear c89
                                    try clear c89b0
                                    try clear c89b1
                                    try clear c90
                                    try clear c96
                                    try clear c98
                                    try clear c99
                                    try clear c100
                                    try clear c100b0
                                    try clear c100b1
                                    try clear c105
                                    try clear c106
                                    try clear c106b0
                                    try clear c106b1
                                    try clear c113
                                    try clear c113b0
                                    try clear c113b1
                                    try clear p2
                                    obtain ⟨kq, x87_111, rfl, HA, HJ111, HB⟩ := hcut
                                    cases kq with
                                    | zero => exact absurd HA.out (by simp [isa80_high.j3])
                                    | succ kj111 =>
                                      have H := HA.out
                                      clear HA
                                      simp only [isa80_high.j3] at H
                                      by_cases c114 : x87_111 = true
                                      · subst c114
                                        have H1 : ((isa80_pick.f (Go.bits .and .u8 (Go.bits .and .u8 (a0 / 8) 7) 1) (([(⟨#[79, 85, 84]⟩ : ByteArray), (⟨#[73, 78]⟩ : ByteArray)] : List ByteArray))).bind fun t292 => ((isa80_form.f (([t292, (⟨#[100, 56]⟩ : ByteArray)] : List ByteArray))).bind fun t296 => (some t296))) = some r := by rw [if_pos rfl] at H; exact H
                                        clear H
                                        have H := H1
                                        clear H1
                                        obtain ⟨y289, hy289⟩ : ∃ y_ : List ByteArray, y_ = (([(⟨#[79, 85, 84]⟩ : ByteArray), (⟨#[73, 78]⟩ : ByteArray)] : List ByteArray)) := ⟨_, rfl⟩
                                        try rw [← hy289] at H
                                        have Ny289 := Aside0.mk hy289
                                        clear hy289
                                        replace H := Option.bind_eq_some_iff.mp H
                                        obtain ⟨t292, A1150, H⟩ := H
                                        have A115 := Aside0.mk A1150
                                        clear A1150
                                        obtain ⟨y293, hy293⟩ : ∃ y_ : List ByteArray, y_ = (([t292, (⟨#[100, 56]⟩ : ByteArray)] : List ByteArray)) := ⟨_, rfl⟩
                                        try rw [← hy293] at H
                                        have Ny293 := Aside0.mk hy293
                                        clear hy293
                                        replace H := Option.bind_eq_some_iff.mp H
                                        obtain ⟨t296, A1160, H⟩ := H
                                        have A116 := Aside0.mk A1160
                                        clear A1160
                                        obtain rfl := Option.some.inj H
                                        go_wp2_with (first | ((with_reducible refine gate_dst (N := 92) rfl ?_); refine Kd.R_lit Kd.string _ 9 ?hg (N := 92) ?hd (xs := ([⟨#[79, 85, 84]⟩, ⟨#[73, 78]⟩] : List ByteArray)) (inner := [.string ⟨#[79, 85, 84]⟩, .string ⟨#[73, 78]⟩]) (ok := fun _ => True) (okp := fun _ => True) ?hr ?hp (fun _ hk => hk) trivial (Below.refl _ _) (Nat.le_refl _) (by simp) ?_; (case hd => rfl); (case hg => rfl); (case hr => first | (go_simp; done) | (go_simp; rfl)); (case hp => exact (Reps.one (show Kd.M Kd.string _ _ _ ⟨#[79, 85, 84]⟩ [.string ⟨#[79, 85, 84]⟩] from rfl) (Reps.one (show Kd.M Kd.string _ _ _ ⟨#[73, 78]⟩ [.string ⟨#[73, 78]⟩] from rfl) (Reps.none _ _)))); intro v290 w117 ho118 hb hg_ hnew_; clear hg_ hnew_; (first | rw [← Ny289.out] at ho118 | (simp only [Int.reduceToNat] at ho118; rw [← Ny289.out] at ho118)); have n0_ := Aside0.mk (Kd.R_lower ho118 (below_size (by with_reducible repeat (first | exact HB.out | apply below_alloc | apply pw_below_drewN | apply below_drew1)))); have n1_ := Aside0.mk (below_step (by with_reducible repeat (first | exact HB.out | apply below_alloc | apply pw_below_drewN | apply below_drew1)) hb); clear HB; have HO291 := n0_; have HB := n1_; clear n0_ n1_; clear hb ho118; obtain ⟨Ao119, co119, eo119⟩ := Kd.R_slice HO291.out; subst eo119) | ((with_reducible refine gate_callee (f := 98) rfl ?_); refine goesL_ (some 93) rfl rfl Try.func98 (by kernel_rfl) rfl #[.int .u8 (Go.bits .and .u8 (Go.bits .and .u8 (a0 / 8) 7) 1), .slice Ao119 y289.length co119] rfl (by (try simp only [List.map_toArray, List.map_cons, List.map_nil]); first | done | rfl | (simp only [IntKind.wrap_u8, Int.emod_add_emod, Int.add_emod_emod] <;> rfl)) ?_; (with_reducible refine (isa80_pick.calls (Go.bits .and .u8 (Go.bits .and .u8 (a0 / 8) 7) 1) _ _ y289 t292 _ ?side1 ?side2 A115.out).mono ?_); (case side1 => repeat (first | exact (Kd.R_reads' HO291.out).2.2 | (with_reducible refine Kd.C_alloc ?_ _) | (with_reducible refine Kd.C_drewN ?_ _) | (with_reducible refine Kd.C_drew ?_))); (case side2 => exact (Kd.R_reads' HO291.out).2.1); rintro e w' ⟨rfl, ⟨nd, rfl⟩⟩; refine ⟨_, rfl, ?_⟩) | ((with_reducible refine gate_dst (N := 94) rfl ?_); refine Kd.R_lit Kd.string _ 9 ?hg (N := 94) ?hd (xs := ([t292, ⟨#[100, 56]⟩] : List ByteArray)) (inner := [.string t292, .string ⟨#[100, 56]⟩]) (ok := fun _ => True) (okp := fun _ => True) ?hr ?hp (fun _ hk => hk) trivial (Below.refl _ _) (Nat.le_refl _) (by simp) ?_; (case hd => rfl); (case hg => rfl); (case hr => first | (go_simp; done) | (go_simp; rfl)); (case hp => exact (Reps.one (show Kd.M Kd.string _ _ _ t292 [.string t292] from rfl) (Reps.one (show Kd.M Kd.string _ _ _ ⟨#[100, 56]⟩ [.string ⟨#[100, 56]⟩] from rfl) (Reps.none _ _)))); intro v294 w120 ho121 hb hg_ hnew_; clear hg_ hnew_; (first | rw [← Ny293.out] at ho121 | (simp only [Int.reduceToNat] at ho121; rw [← Ny293.out] at ho121)); have n0_ := Aside0.mk (Kd.R_elder' (by (with_reducible repeat (first | apply Kd.R_alloc | apply Kd.R_drewN | apply Kd.R_drew)); exact HO291.out) (Kd.R_base ho121) hb); have n1_ := Aside0.mk (Kd.R_lower (Kd.R_new' ho121 (Kd.R_lt (by (with_reducible repeat (first | apply Kd.R_alloc | apply Kd.R_drewN | apply Kd.R_drew)); exact HO291.out))) (below_size (by with_reducible repeat (first | exact HB.out | apply below_alloc | apply pw_below_drewN | apply below_drew1)))); have n2_ := Aside0.mk (below_step (by with_reducible repeat (first | exact HB.out | apply below_alloc | apply pw_below_drewN | apply below_drew1)) hb); clear HO291; clear HB; have HO291 := n0_; have HO295 := n1_; have HB := n2_; clear n0_ n1_ n2_; clear hb ho121; obtain ⟨Ao122, co122, eo122⟩ := Kd.R_slice HO295.out; subst eo122) | ((with_reducible refine gate_callee (f := 96) rfl ?_); refine goesL_ (some 95) rfl rfl Try.func96 (by kernel_rfl) rfl #[.slice Ao122 y293.length co122] rfl (by (try simp only [List.map_toArray, List.map_cons, List.map_nil]); first | done | rfl | (simp only [IntKind.wrap_u8, Int.emod_add_emod, Int.add_emod_emod] <;> rfl)) ?_; (with_reducible refine (isa80_form.calls (fun k_ => some k_ = (.slice Ao122 y293.length co122 : Value).ownBlock) (.slice Ao122 y293.length co122) y293 t296 w _ ?side1 ?side2 A116.out).mono ?_); (case side1 => repeat (first | (with_reducible first | exact HB.out | apply below_alloc | apply pw_below_drewN | apply below_drew1) | exact HB.out)); (case side2 => exact Kd.R_tight rfl HO295.out); rintro e w123 ⟨v297, rfl, ho0, hb, hkp⟩; refine ⟨_, rfl, ?_⟩; have n0_ := Aside0.mk (Kd.R_mono (ok' := fun k_ => some k_ ≠ (v297 : Value).ownBlock) (Kd.R_keptB (HO291.out) hkp (fun k_ hk_ hs_ => (hk_.2) hs_)) (fun k_ hk_ => fun e_ => Or.elim (ho0.1 k_ e_.symm) (fun hs_ => hk_.2.1 hs_) (fun hn_ => Nat.not_le.2 hk_.2.2 hn_))); have n1_ := Aside0.mk (Kd.R_mono (ok' := fun k_ => some k_ ≠ (.slice Ao119 y289.length co119 : Value).ownBlock) ho0 (fun k_ hk_ => Or.elim hk_ (fun hs_ => fun e_ => (((HO291.out).1 k_ e_.symm).2) hs_) (fun hn_ => (Kd.fresh' (Kd.R_lt (by (with_reducible repeat (first | apply Kd.R_alloc | apply Kd.R_drewN | apply Kd.R_drew)); exact HO291.out)) k_ hn_)))); have n2_ := Aside0.mk (hb); clear HO291; clear HB; clear HO295; have HO291 := n0_; have HO298 := n1_; have HB := n2_; clear n0_ n1_ n2_; (try clear hb); (try clear hkp); (try clear ho0)))
                                        go_ret
                                        exact ⟨_, by first | rfl | (simp <;> rfl) | (simp [*] <;> rfl), by (with_reducible repeat (first | apply Kd.R_alloc | apply Kd.R_drewN | apply Kd.R_drew)); exact Kd.R_mono HO298.out (fun _ hk => trivial), by with_reducible repeat (first | exact HB.out | apply below_alloc | apply pw_below_drewN | apply below_drew1)⟩
                                      · replace c114 := Bool.eq_false_iff.mpr c114
                                        subst c114
                                        have H1 : (if a0 = 227 then (isa80_high.j4 kj111 (Go.bits .and .u8 (a0 / 8) 7) (a0 == 227)) else (if a0 = 235 then (isa80_high.j4 kj111 (Go.bits .and .u8 (a0 / 8) 7) (a0 == 235)) else (if a0 = 243 then (isa80_high.j4 kj111 (Go.bits .and .u8 (a0 / 8) 7) (a0 == 243)) else (isa80_high.j4 kj111 (Go.bits .and .u8 (a0 / 8) 7) (a0 == 251))))) = some r := by rw [if_neg (show ¬ (false = true) by decide)] at H; exact H
                                        clear H
                                        have H := H1
                                        clear H1
                                        have HC124 := Aside0.mk H
                                        clear H
                                        go_upto_if 96 with (fail)
                                        go_cut [96] (fun v96 wc => ∃ (kq : Nat) (x96_123 : Bool), v96 = .bool x96_123 ∧ Aside0 (isa80_high.j4 kq (Go.bits .and .u8 (a0 / 8) 7) x96_123 = some r) ∧ Aside0 (kq ≤ kj111) ∧ Aside0 (Below w.heap.size w wc))
                                        case first =>
                                          have H := HC124.out
                                          clear HC124
                                          by_cases c125 : a0 = 227
                                          · rw [if_pos c125] at H
                                            have c125b0 : (a0 == 227) = true := beq_iff_eq.mpr c125
                                            have c125b1 : (a0 != 227) = false := bne_eq_false_iff_eq.mpr c125
                                            clear c125
                                            (first | rw [c125b0] | (simp only [i64_w, i32_w]; rw [c125b0]) | skip)
                                            have H' := Aside0.mk H
                                            clear H
                                            go_wp2
                                            go_meet
                                            case rel => exact ⟨_, ((a0 == 227)), (by first | rfl | (simp; done) | (simp [*]; done)), H', ⟨by have := HJ63.out; have := HJ76.out; have := HJ86.out; have := HJ111.out; first | omega | exact Nat.le_refl _⟩, ⟨by with_reducible repeat (first | exact HB.out | apply below_alloc | apply pw_below_drewN | apply below_drew1)⟩⟩
                                          · rw [if_neg c125] at H
                                            have c125b0 : (a0 == 227) = false := beq_eq_false_iff_ne.mpr c125
                                            have c125b1 : (a0 != 227) = true := bne_iff_ne.mpr c125
                                            (first | rw [c125b0] | (simp only [i64_w, i32_w]; rw [c125b0]) | skip)
                                            by_cases c126 : a0 = 235
                                            · rw [if_pos c126] at H
                                              have c126b0 : (a0 == 235) = true := beq_iff_eq.mpr c126
                                              have c126b1 : (a0 != 235) = false := bne_eq_false_iff_eq.mpr c126
                                              clear c126
                                              have H' := Aside0.mk H
                                              clear H
                                              go_wp2
                                              go_meet
                                              case rel => exact ⟨_, ((a0 == 235)), (by first | rfl | (simp; done) | (simp [*]; done)), H', ⟨by have := HJ63.out; have := HJ76.out; have := HJ86.out; have := HJ111.out; first | omega | exact Nat.le_refl _⟩, ⟨by with_reducible repeat (first | exact HB.out | apply below_alloc | apply pw_below_drewN | apply below_drew1)⟩⟩
                                            · rw [if_neg c126] at H
                                              have c126b0 : (a0 == 235) = false := beq_eq_false_iff_ne.mpr c126
                                              have c126b1 : (a0 != 235) = true := bne_iff_ne.mpr c126
                                              by_cases c127 : a0 = 243
                                              · rw [if_pos c127] at H
                                                have c127b0 : (a0 == 243) = true := beq_iff_eq.mpr c127
                                                have c127b1 : (a0 != 243) = false := bne_eq_false_iff_eq.mpr c127
                                                clear c127
                                                have H' := Aside0.mk H
                                                clear H
                                                go_wp2
                                                go_meet
                                                case rel => exact ⟨_, ((a0 == 243)), (by first | rfl | (simp; done) | (simp [*]; done)), H', ⟨by have := HJ63.out; have := HJ76.out; have := HJ86.out; have := HJ111.out; first | omega | exact Nat.le_refl _⟩, ⟨by with_reducible repeat (first | exact HB.out | apply below_alloc | apply pw_below_drewN | apply below_drew1)⟩⟩
                                              · rw [if_neg c127] at H
                                                have c127b0 : (a0 == 243) = false := beq_eq_false_iff_ne.mpr c127
                                                have c127b1 : (a0 != 243) = true := bne_iff_ne.mpr c127
                                                have H' := Aside0.mk H
                                                clear H
                                                go_wp2
                                                go_meet
                                                case rel => exact ⟨_, ((a0 == 251)), (by first | rfl | (simp; done) | (simp [*]; done)), H', ⟨by have := HJ63.out; have := HJ76.out; have := HJ86.out; have := HJ111.out; first | omega | exact Nat.le_refl _⟩, ⟨by with_reducible repeat (first | exact HB.out | apply below_alloc | apply pw_below_drewN | apply below_drew1)⟩⟩
                                        case rest =>
                                          clear HC124
                                          try clear c1
                                          try clear c2
                                          try clear p2
                                          try clear c3
                                          try clear c3b0
                                          try clear c3b1
                                          try clear c5
                                          try clear c5b0
                                          try clear c5b1
                                          try clear c5b2
                                          try clear hcv5
                                          try clear c6
                                          try clear c7
                                          try clear c8
                                          try clear c9
                                          try clear c10
                                          try clear c11
                                          try clear c12
                                          try clear c15
                                          try clear c15b0
                                          try clear c15b1
                                          try clear c17
                                          try clear c17b0
                                          try clear c17b1
                                          try clear c17b2
                                          try clear c27
                                          try clear c27b0
                                          try clear c27b1
                                          try clear c29
                                          try clear c29b0
                                          try clear c29b1
                                          try clear c29b2
                                          try clear c39
                                          try clear c39b0
                                          try clear c39b1
                                          try clear c52
                                          try clear c52b0
                                          try clear c52b1
                                          try clear hcv59
                                          try clear c68
                                          try clear c68b0
                                          try clear c68b1
                                          try clear c69
                                          try clear c69b0
                                          try clear c69b1
                                          try clear c70
                                          try clear c70b0
                                          try clear c70b1
                                          try clear c71
                                          try clear c78
                                          try clear c78b0
                                          try clear c78b1
                                          try clear c79
                                          try clear c79b0
                                          try clear c79b1
                                          try clear c80
                                          try clear c80b0
                                          try clear c80b1
                                          try clear c81
                                          try clear c88
                                          try clear c88b0
                                          try clear c88b1
                                          try clear c89
                                          try clear c89b0
                                          try clear c89b1
                                          try clear c90
                                          try clear c96
                                          try clear c98
                                          try clear c99
                                          try clear c100
                                          try clear c100b0
                                          try clear c100b1
                                          try clear c105
                                          try clear c106
                                          try clear c106b0
                                          try clear c106b1
                                          try clear c113
                                          try clear c113b0
                                          try clear c113b1
                                          try clear c114
                                          try clear c125
                                          try clear c125b0
                                          try clear c125b1
                                          try clear c126
                                          try clear c126b0
                                          try clear c126b1
                                          try clear c127
                                          try clear c127b0
                                          try clear c127b1
                                          try clear p2
                                          obtain ⟨kq, x96_123, rfl, HA, HJ123, HB⟩ := hcut
                                          cases kq with
                                          | zero => exact absurd HA.out (by simp [isa80_high.j4])
                                          | succ kj123 =>
                                            have H := HA.out
                                            clear HA
                                            simp only [isa80_high.j4] at H
                                            by_cases c128 : x96_123 = true
                                            · subst c128
                                              have H1 : ((isa80_pick.f (Go.bits .and .u8 (Go.bits .and .u8 (a0 / 8) 7) 3) (([(⟨#[88, 84, 72, 76]⟩ : ByteArray), (⟨#[88, 67, 72, 71]⟩ : ByteArray), (⟨#[68, 73]⟩ : ByteArray), (⟨#[69, 73]⟩ : ByteArray)] : List ByteArray))).bind fun t302 => ((isa80_form.f (([t302] : List ByteArray))).bind fun t306 => (some t306))) = some r := by rw [if_pos rfl] at H; exact H
                                              clear H
                                              have H := H1
                                              clear H1
                                              obtain ⟨y299, hy299⟩ : ∃ y_ : List ByteArray, y_ = (([(⟨#[88, 84, 72, 76]⟩ : ByteArray), (⟨#[88, 67, 72, 71]⟩ : ByteArray), (⟨#[68, 73]⟩ : ByteArray), (⟨#[69, 73]⟩ : ByteArray)] : List ByteArray)) := ⟨_, rfl⟩
                                              try rw [← hy299] at H
                                              have Ny299 := Aside0.mk hy299
                                              clear hy299
                                              replace H := Option.bind_eq_some_iff.mp H
                                              obtain ⟨t302, A1290, H⟩ := H
                                              have A129 := Aside0.mk A1290
                                              clear A1290
                                              obtain ⟨y303, hy303⟩ : ∃ y_ : List ByteArray, y_ = (([t302] : List ByteArray)) := ⟨_, rfl⟩
                                              try rw [← hy303] at H
                                              have Ny303 := Aside0.mk hy303
                                              clear hy303
                                              replace H := Option.bind_eq_some_iff.mp H
                                              obtain ⟨t306, A1300, H⟩ := H
                                              have A130 := Aside0.mk A1300
                                              clear A1300
                                              obtain rfl := Option.some.inj H
                                              go_wp2_with (first | ((with_reducible refine gate_dst (N := 103) rfl ?_); refine Kd.R_lit Kd.string _ 9 ?hg (N := 103) ?hd (xs := ([⟨#[88, 84, 72, 76]⟩, ⟨#[88, 67, 72, 71]⟩, ⟨#[68, 73]⟩, ⟨#[69, 73]⟩] : List ByteArray)) (inner := [.string ⟨#[88, 84, 72, 76]⟩, .string ⟨#[88, 67, 72, 71]⟩, .string ⟨#[68, 73]⟩, .string ⟨#[69, 73]⟩]) (ok := fun _ => True) (okp := fun _ => True) ?hr ?hp (fun _ hk => hk) trivial (Below.refl _ _) (Nat.le_refl _) (by simp) ?_; (case hd => rfl); (case hg => rfl); (case hr => first | (go_simp; done) | (go_simp; rfl)); (case hp => exact (Reps.one (show Kd.M Kd.string _ _ _ ⟨#[88, 84, 72, 76]⟩ [.string ⟨#[88, 84, 72, 76]⟩] from rfl) (Reps.one (show Kd.M Kd.string _ _ _ ⟨#[88, 67, 72, 71]⟩ [.string ⟨#[88, 67, 72, 71]⟩] from rfl) (Reps.one (show Kd.M Kd.string _ _ _ ⟨#[68, 73]⟩ [.string ⟨#[68, 73]⟩] from rfl) (Reps.one (show Kd.M Kd.string _ _ _ ⟨#[69, 73]⟩ [.string ⟨#[69, 73]⟩] from rfl) (Reps.none _ _)))))); intro v300 w131 ho132 hb hg_ hnew_; clear hg_ hnew_; (first | rw [← Ny299.out] at ho132 | (simp only [Int.reduceToNat] at ho132; rw [← Ny299.out] at ho132)); have n0_ := Aside0.mk (Kd.R_lower ho132 (below_size (by with_reducible repeat (first | exact HB.out | apply below_alloc | apply pw_below_drewN | apply below_drew1)))); have n1_ := Aside0.mk (below_step (by with_reducible repeat (first | exact HB.out | apply below_alloc | apply pw_below_drewN | apply below_drew1)) hb); clear HB; have HO301 := n0_; have HB := n1_; clear n0_ n1_; clear hb ho132; obtain ⟨Ao133, co133, eo133⟩ := Kd.R_slice HO301.out; subst eo133) | ((with_reducible refine gate_callee (f := 98) rfl ?_); refine goesL_ (some 104) rfl rfl Try.func98 (by kernel_rfl) rfl #[.int .u8 (Go.bits .and .u8 (Go.bits .and .u8 (a0 / 8) 7) 3), .slice Ao133 y299.length co133] rfl (by (try simp only [List.map_toArray, List.map_cons, List.map_nil]); first | done | rfl | (simp only [IntKind.wrap_u8, Int.emod_add_emod, Int.add_emod_emod] <;> rfl)) ?_; (with_reducible refine (isa80_pick.calls (Go.bits .and .u8 (Go.bits .and .u8 (a0 / 8) 7) 3) _ _ y299 t302 _ ?side1 ?side2 A129.out).mono ?_); (case side1 => repeat (first | exact (Kd.R_reads' HO301.out).2.2 | (with_reducible refine Kd.C_alloc ?_ _) | (with_reducible refine Kd.C_drewN ?_ _) | (with_reducible refine Kd.C_drew ?_))); (case side2 => exact (Kd.R_reads' HO301.out).2.1); rintro e w' ⟨rfl, ⟨nd, rfl⟩⟩; refine ⟨_, rfl, ?_⟩) | ((with_reducible refine gate_dst (N := 105) rfl ?_); refine Kd.R_lit Kd.string _ 9 ?hg (N := 105) ?hd (xs := ([t302] : List ByteArray)) (inner := [.string t302]) (ok := fun _ => True) (okp := fun _ => True) ?hr ?hp (fun _ hk => hk) trivial (Below.refl _ _) (Nat.le_refl _) (by simp) ?_; (case hd => rfl); (case hg => rfl); (case hr => first | (go_simp; done) | (go_simp; rfl)); (case hp => exact (Reps.one (show Kd.M Kd.string _ _ _ t302 [.string t302] from rfl) (Reps.none _ _))); intro v304 w134 ho135 hb hg_ hnew_; clear hg_ hnew_; (first | rw [← Ny303.out] at ho135 | (simp only [Int.reduceToNat] at ho135; rw [← Ny303.out] at ho135)); have n0_ := Aside0.mk (Kd.R_elder' (by (with_reducible repeat (first | apply Kd.R_alloc | apply Kd.R_drewN | apply Kd.R_drew)); exact HO301.out) (Kd.R_base ho135) hb); have n1_ := Aside0.mk (Kd.R_lower (Kd.R_new' ho135 (Kd.R_lt (by (with_reducible repeat (first | apply Kd.R_alloc | apply Kd.R_drewN | apply Kd.R_drew)); exact HO301.out))) (below_size (by with_reducible repeat (first | exact HB.out | apply below_alloc | apply pw_below_drewN | apply below_drew1)))); have n2_ := Aside0.mk (below_step (by with_reducible repeat (first | exact HB.out | apply below_alloc | apply pw_below_drewN | apply below_drew1)) hb); clear HO301; clear HB; have HO301 := n0_; have HO305 := n1_; have HB := n2_; clear n0_ n1_ n2_; clear hb ho135; obtain ⟨Ao136, co136, eo136⟩ := Kd.R_slice HO305.out; subst eo136) | ((with_reducible refine gate_callee (f := 96) rfl ?_); refine goesL_ (some 106) rfl rfl Try.func96 (by kernel_rfl) rfl #[.slice Ao136 y303.length co136] rfl (by (try simp only [List.map_toArray, List.map_cons, List.map_nil]); first | done | rfl | (simp only [IntKind.wrap_u8, Int.emod_add_emod, Int.add_emod_emod] <;> rfl)) ?_; (with_reducible refine (isa80_form.calls (fun k_ => some k_ = (.slice Ao136 y303.length co136 : Value).ownBlock) (.slice Ao136 y303.length co136) y303 t306 w _ ?side1 ?side2 A130.out).mono ?_); (case side1 => repeat (first | (with_reducible first | exact HB.out | apply below_alloc | apply pw_below_drewN | apply below_drew1) | exact HB.out)); (case side2 => exact Kd.R_tight rfl HO305.out); rintro e w137 ⟨v307, rfl, ho0, hb, hkp⟩; refine ⟨_, rfl, ?_⟩; have n0_ := Aside0.mk (Kd.R_mono (ok' := fun k_ => some k_ ≠ (v307 : Value).ownBlock) (Kd.R_keptB (HO301.out) hkp (fun k_ hk_ hs_ => (hk_.2) hs_)) (fun k_ hk_ => fun e_ => Or.elim (ho0.1 k_ e_.symm) (fun hs_ => hk_.2.1 hs_) (fun hn_ => Nat.not_le.2 hk_.2.2 hn_))); have n1_ := Aside0.mk (Kd.R_mono (ok' := fun k_ => some k_ ≠ (.slice Ao133 y299.length co133 : Value).ownBlock) ho0 (fun k_ hk_ => Or.elim hk_ (fun hs_ => fun e_ => (((HO301.out).1 k_ e_.symm).2) hs_) (fun hn_ => (Kd.fresh' (Kd.R_lt (by (with_reducible repeat (first | apply Kd.R_alloc | apply Kd.R_drewN | apply Kd.R_drew)); exact HO301.out)) k_ hn_)))); have n2_ := Aside0.mk (hb); clear HO301; clear HB; clear HO305; have HO301 := n0_; have HO308 := n1_; have HB := n2_; clear n0_ n1_ n2_; (try clear hb); (try clear hkp); (try clear ho0)))
                                              go_ret
                                              exact ⟨_, by first | rfl | (simp <;> rfl) | (simp [*] <;> rfl), by (with_reducible repeat (first | apply Kd.R_alloc | apply Kd.R_drewN | apply Kd.R_drew)); exact Kd.R_mono HO308.out (fun _ hk => trivial), by with_reducible repeat (first | exact HB.out | apply below_alloc | apply pw_below_drewN | apply below_drew1)⟩
                                            · replace c128 := Bool.eq_false_iff.mpr c128
                                              subst c128
                                              have H1 : (some ([] : List ByteArray)) = some r := by rw [if_neg (show ¬ (false = true) by decide)] at H; exact H
                                              clear H
                                              have H := H1
                                              clear H1
                                              obtain rfl := Option.some.inj H
                                              go_wp2
                                              go_ret
                                              exact ⟨_, by first | rfl | (simp <;> rfl) | (simp [*] <;> rfl), by first | exact Kd.R_nil _ _ _ _ _ | exact Kd.N_nil _ _ _ _ _ | exact Kd.V_nil _ _ _ _ _ | exact Kd.Q_nil _ _ _ _ _ | exact Kd.S_nil _ _ _ _ _, by with_reducible repeat (first | exact HB.out | apply below_alloc | apply pw_below_drewN | apply below_drew1)⟩
end Go.Proofs.Ytaiabehbappdaaa.PCpu
