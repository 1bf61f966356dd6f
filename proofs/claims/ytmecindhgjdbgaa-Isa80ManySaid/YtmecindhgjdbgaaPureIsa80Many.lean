/- Isa80Many: just 244 opcodes are documented, each found by its own form, no two of one form; pure part. No condition. -/
import Derived.Test.YtmecindhgjdbgaaIsaAid
import Derived.Test.YtmecindhgjdbgaaPIsax8
namespace Go.Proofs.Ytmecindhgjdbgaa.Pure
open Go Go.RowKit Go.Proofs.Ytmecindhgjdbgaa.PIsa Go.Proofs.YtmecindhgjdbgaaW.PrintWords Go.Proofs.YtmecindhgjdbgaaW.PrintLast

/-- What the law asks of one opcode. -/
def good (o : Int) : Bool :=
  if sz o = 0 then decide ((isa80_Name.f 500 o).map ByteArray.toList = some []) && decide ((isa80_Args.f 500 o).map List.length = some 0)
  else decide (((isa80_Name.f 500 o).bind fun nm => (isa80_Args.f 500 o).bind fun ar => isa80_Find.f 500 nm ar) = some (o, true))
theorem good_all : (List.range 256).all (fun n => good (n : Int)) = true := by decide +kernel

/-- How many of the first opcodes are documented, round and round. -/
def tally : Nat → Nat
  | 0 => 0
  | n + 1 => tally n + if sz ((n % 256 : Nat) : Int) = 0 then 0 else 1
theorem tally_256 : tally 256 = 244 := by decide +kernel
theorem tally_succ (n : Nat) : tally (n + 1) = tally n + if sz ((n % 256 : Nat) : Int) = 0 then 0 else 1 := rfl
theorem tally_on (a : Nat) : tally (a + 256) = tally a + 244 := by
  induction a with
  | zero => rw [Nat.zero_add, tally_256]; rfl
  | succ a ih =>
    have h := tally_succ (a + 256)
    rw [ih, show (a + 256) % 256 = a % 256 by omega] at h
    have h2 := tally_succ a
    rw [show a + 1 + 256 = (a + 256) + 1 by omega, h, h2]
    omega
theorem tally_le (a d : Nat) : tally (a + d) ≤ tally a + d := by
  induction d with
  | zero => exact Nat.le_refl _
  | succ d ih =>
    rw [show a + (d + 1) = (a + d) + 1 by omega, tally_succ]
    generalize tally (a + d) = x at *
    generalize tally a = y at *
    split <;> omega

/-- What has been counted till a round. -/
structure Tal (a i c : Nat) : Prop where
  out : tally (a + i) = tally a + c
theorem Tal.done {a c : Nat} (h : Tal a 256 c) : c = 244 := by
  have h1 := h.out
  rw [tally_on a] at h1
  exact (Nat.add_left_cancel h1).symm
theorem Tal.le {a i c : Nat} (h : Tal a i c) : c ≤ i := by
  have h1 := tally_le a i
  rw [h.out] at h1
  exact Nat.le_of_add_le_add_left h1
theorem Tal.step0 {a i c : Nat} (h : Tal a i c) (e : sz (((a + i) % 256 : Nat) : Int) = 0) : Tal a (i + 1) c := by
  refine ⟨?_⟩
  rw [← Nat.add_assoc, tally_succ, if_pos e, h.out]
  rfl
theorem Tal.step1 {a i c : Nat} (h : Tal a i c) (e : ¬ sz (((a + i) % 256 : Nat) : Int) = 0) : Tal a (i + 1) (c + 1) := by
  refine ⟨?_⟩
  rw [← Nat.add_assoc, tally_succ, if_neg e, h.out]
  rfl

theorem many_l0 (a : Nat) (_ha : a < 256) (d : Nat) : ∀ (k : Nat) (i c : Nat), i + d = 256 → 500 + d < k → Tal a i c → pidginlaw06_Isa80Many.l0 k (a : Int) (c : Int) (i : Int) = some true := by
  induction d with
  | zero =>
    intro k i c hi hk hc
    obtain ⟨k, rfl⟩ : ∃ m, k = m + 1 := ⟨k - 1, by omega⟩
    obtain rfl : i = 256 := by omega
    obtain rfl := hc.done
    rw [pidginlaw06_Isa80Many.l0, if_neg (by omega), if_pos (by omega), at_rounds pidginlaw06_alive.mono (by omega : 500 ≤ k) alive_ok]
    rfl
  | succ d ih =>
    intro k i c hi hk hc
    obtain ⟨k, rfl⟩ : ∃ m, k = m + 1 := ⟨k - 1, by omega⟩
    have ho : (((i : Int) % 256) + (a : Int)) % 256 = (((a + i) % 256 : Nat) : Int) := by omega
    have hw : wrap64 ((i : Int) + 1) = ((i + 1 : Nat) : Int) := by unfold wrap64; omega
    have hcl := hc.le
    have hwc : wrap64 ((c : Int) + 1) = ((c + 1 : Nat) : Int) := by unfold wrap64; omega
    have s0 := hc.step0
    have s1 := hc.step1
    rw [pidginlaw06_Isa80Many.l0, if_pos (by omega), ho, hw, hwc]
    have ob : (0 : Int) ≤ (((a + i) % 256 : Nat) : Int) ∧ (((a + i) % 256 : Nat) : Int) < 256 := by omega
    have hg := byte_all' good_all ob.1 ob.2
    obtain ⟨hs, _, _⟩ := sz_tells ob.1 ob.2
    generalize (((a + i) % 256 : Nat) : Int) = o at *
    rw [at_rounds (isa80_Size.mono o) (by omega : 500 ≤ k) hs]
    simp only [Option.bind_some]
    unfold good at hg
    by_cases e : sz o = 0
    · rw [if_pos e] at hg ⊢
      simp only [Bool.and_eq_true, decide_eq_true_eq] at hg
      obtain ⟨g1, g2⟩ := hg
      obtain ⟨nm, h1, e1⟩ := Option.map_eq_some_iff.mp g1
      obtain ⟨ar, h2, e2⟩ := Option.map_eq_some_iff.mp g2
      rw [at_rounds (isa80_Name.mono o) (by omega : 500 ≤ k) h1]
      simp only [Option.bind_some]
      rw [if_pos e1, at_rounds (isa80_Args.mono o) (by omega : 500 ≤ k) h2]
      simp only [Option.bind_some]
      rw [if_pos (by omega)]
      exact ih k (i + 1) c (by omega) (by omega) (s0 e)
    · rw [if_neg e] at hg ⊢
      simp only [decide_eq_true_eq] at hg
      obtain ⟨nm, h1, g⟩ := Option.bind_eq_some_iff.mp hg
      obtain ⟨ar, h2, h3⟩ := Option.bind_eq_some_iff.mp g
      rw [at_rounds (isa80_Name.mono o) (by omega : 500 ≤ k) h1]
      simp only [Option.bind_some]
      rw [at_rounds (isa80_Args.mono o) (by omega : 500 ≤ k) h2]
      simp only [Option.bind_some]
      rw [at_rounds (isa80_Find.mono nm ar) (by omega : 500 ≤ k) h3]
      simp only [Option.bind_some, if_true]
      exact ih k (i + 1) (c + 1) (by omega) (by omega) (s1 e)

theorem Isa80Many : pidginlaw06_Isa80Many.Pure := by
  intro a ha
  refine ⟨1000, ?_⟩
  obtain ⟨a0, a1⟩ := u8_bd ha
  obtain ⟨m, rfl⟩ := Int.eq_ofNat_of_zero_le a0
  exact many_l0 m (by omega) 256 1000 0 0 (by omega) (by omega) ⟨rfl⟩

end Go.Proofs.Ytmecindhgjdbgaa.Pure
