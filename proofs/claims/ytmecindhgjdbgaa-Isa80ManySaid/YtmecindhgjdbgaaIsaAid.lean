/- Plain lemmas on the printed functions of isa80 and its reference, for the pure statements. -/
import Derived.Test.YtmecindhgjdbgaaPIsax7
namespace Go.Proofs.Ytmecindhgjdbgaa.Pure
open Go Go.RowKit Go.Proofs.Ytmecindhgjdbgaa.PIsa Go.Proofs.YtmecindhgjdbgaaW.PrintWords Go.Proofs.YtmecindhgjdbgaaW.PrintLast

theorem u8_bd {a : Int} (h : (Lit.int .u8 a).wf = true) : 0 ≤ a ∧ a < 256 := by
  simp [Lit.wf] at h
  obtain ⟨h1, h2⟩ := h
  exact ⟨h1, Int.lt_add_one_of_le h2⟩
theorem u16_bd {a : Int} (h : (Lit.int .u16 a).wf = true) : 0 ≤ a ∧ a < 65536 := by
  simp [Lit.wf] at h
  obtain ⟨h1, h2⟩ := h
  exact ⟨h1, Int.lt_add_one_of_le h2⟩
theorem byte_all' {P : Int → Bool} (h : (List.range 256).all (fun n => P (n : Int)) = true) {a : Int} (h0 : 0 ≤ a) (h1 : a < 256) : P a = true := by
  have := List.all_eq_true.mp h a.toNat (List.mem_range.mpr (by omega))
  rwa [Int.toNat_of_nonneg h0] at this
theorem byte_all {P : Int → Bool} (h : (List.range 256).all (fun n => P (n : Int)) = true) {a : Int} (ha : (Lit.int .u8 a).wf = true) : P a = true :=
  byte_all' h (u8_bd ha).1 (u8_bd ha).2

theorem alive_ok : pidginlaw06_alive.f 500 = some true := by decide +kernel

/-- The size of an opcode's instruction, as the code works it out. -/
def sz (a : Int) : Int := (isa80_Size.f 500 a).getD 0
theorem sz_all : (List.range 256).all (fun n => decide (isa80_Size.f 500 (n : Int) = some (sz n)) && decide (pidginref06_Size.f 500 (n : Int) = some (sz n)) && (decide (sz n = 0) || decide (sz n = 1) || decide (sz n = 2) || decide (sz n = 3))) = true := by decide +kernel
theorem sz_tells {a : Int} (h0 : 0 ≤ a) (h1 : a < 256) : isa80_Size.f 500 a = some (sz a) ∧ pidginref06_Size.f 500 a = some (sz a) ∧ (sz a = 0 ∨ sz a = 1 ∨ sz a = 2 ∨ sz a = 3) := by
  have := byte_all' (P := fun n => decide (isa80_Size.f 500 n = some (sz n)) && decide (pidginref06_Size.f 500 n = some (sz n)) && (decide (sz n = 0) || decide (sz n = 1) || decide (sz n = 2) || decide (sz n = 3))) sz_all h0 h1
  simp only [Bool.and_eq_true, Bool.or_eq_true, decide_eq_true_eq] at this
  obtain ⟨⟨a1, a2⟩, a3⟩ := this
  exact ⟨a1, a2, by omega⟩

theorem same_l0 (l : List Int) (hb : l.length ≤ 1000000) (d : Nat) : ∀ (k : Nat) (i : Int), 0 ≤ i → (l.length : Int) - i = d → d < k → pidginref02_Bytes.l0 k l l i = some true := by
  induction d with
  | zero =>
    intro k i h0 hd hk
    obtain ⟨k, rfl⟩ : ∃ m, k = m + 1 := ⟨k - 1, by omega⟩
    simp only [pidginref02_Bytes.l0]
    rw [if_neg (by omega)]
  | succ d ih =>
    intro k i h0 hd hk
    obtain ⟨k, rfl⟩ : ∃ m, k = m + 1 := ⟨k - 1, by omega⟩
    simp only [pidginref02_Bytes.l0]
    rw [if_pos (by omega), if_pos h0, if_pos (by omega)]
    simp only [if_true]
    rw [show wrap64 (i + 1) = i + 1 by unfold wrap64; omega]
    exact ih k (i + 1) (by omega) (by omega) (by omega)
theorem same_bytes (l : List Int) (hb : l.length ≤ 1000000) (k : Nat) (hk : l.length < k) : pidginref02_Bytes.f k l l = some true := by
  unfold pidginref02_Bytes.f
  rw [if_pos rfl]
  exact same_l0 l hb l.length k 0 (by omega) (by omega) hk

/-- What the bytes of an instruction are. -/
def specBytes (a n : Int) : List Int × Int :=
  if sz a = 0 then ([], 8) else if sz a < 3 ∧ n / 256 ≠ 0 then ([], 5) else if sz a < 2 ∧ n ≠ 0 then ([], 5) else ([a, n % 256, n / 256 % 256].take (sz a).toNat, 0)

theorem isaBytes_spec {a n : Int} (h0 : 0 ≤ a) (h1 : a < 256) : isa80_Bytes.f 500 a n = some (specBytes a n) := by
  obtain ⟨hs, _, hc⟩ := sz_tells h0 h1
  unfold isa80_Bytes.f specBytes
  simp only [Option.bind_some, hs]
  generalize sz a = s at *
  rw [show (500 : Nat) = 499 + 1 from rfl]
  simp only [isa80_Bytes.j0]
  rcases hc with rfl | rfl | rfl | rfl
  · simp
  · by_cases e : n / 256 = 0 <;> by_cases e' : n = 0 <;> simp [e, e']
  · by_cases e : n / 256 = 0 <;> simp [e]
  · simp

theorem and_255 {n : Int} (h0 : 0 ≤ n) (h1 : n < 65536) : Go.bits .and .u16 n 255 = n % 256 :=
  bits_mask .u16 16 (by decide) (fun m h h' => by simp [IntKind.wrap, IntKind.bits, IntKind.signed]; omega) 8 (by decide) n h0 h1

theorem refBytes_spec {a n : Int} (h0 : 0 ≤ a) (h1 : a < 256) (g0 : 0 ≤ n) (g1 : n < 65536) : pidginref06_Bytes.f 500 a n = some (specBytes a n) := by
  obtain ⟨_, hs, hc⟩ := sz_tells h0 h1
  unfold pidginref06_Bytes.f specBytes
  simp only [Option.bind_some, hs, and_255 g0 g1]
  generalize sz a = s at *
  rcases hc with rfl | rfl | rfl | rfl
  · simp
  · by_cases e' : n = 0
    · simp [e']
    · by_cases e : n / 256 = 0 <;> simp [e, e']
  · by_cases e : n / 256 = 0
    · rw [if_neg (by omega), if_neg (by omega), if_pos rfl, if_neg (by omega)]; simp [e]
    · rw [if_neg (by omega), if_neg (by omega), if_pos rfl, if_pos (by omega)]; simp [e]
  · simp

/-- What is read. -/
def specRead (l : List Int) : Int × Int × Int × Int :=
  if (l.length : Int) = 0 then (0, 0, 0, 2) else if sz (rd l 0) = 0 then (0, 0, 0, 8) else if (l.length : Int) < sz (rd l 0) then (0, 0, 0, 2)
  else (rd l 0, if sz (rd l 0) = 1 then 0 else if sz (rd l 0) = 2 then rd l 1 else rd l 1 + rd l 2 * 256, sz (rd l 0), 0)

theorem rd_bd {l : List Int} (hl : ∀ x ∈ l, (Lit.int .u8 x).wf = true) (i : Int) : 0 ≤ rd l i ∧ rd l i < 256 := by
  unfold rd
  rw [List.getD_eq_getElem?_getD]
  by_cases h : i.toNat < l.length
  · rw [List.getElem?_eq_getElem h]; exact u8_bd (hl _ (List.getElem_mem h))
  · rw [List.getElem?_eq_none (by omega)]; decide
theorem w16 {x : Int} (h0 : 0 ≤ x) (h1 : x < 65536) : IntKind.u16.wrap x = x := by simp [IntKind.wrap, IntKind.bits, IntKind.signed]; omega
theorem or_join {x y : Int} (hx : 0 ≤ x) (hx' : x < 256) (hy : 0 ≤ y) (hy' : y < 256) : Go.bits .or .u16 (x * 256) y = x * 256 + y :=
  bits_join .u16 16 (by decide) (fun m h h' => by simp [IntKind.wrap, IntKind.bits, IntKind.signed]; omega) 8 (x * 256) y (by omega) (by omega) (by omega) hy (by omega) (by omega)

set_option maxRecDepth 100000 in
theorem isaRead_spec {l : List Int} (hl : ∀ x ∈ l, (Lit.int .u8 x).wf = true) : isa80_Read.f 500 l = some (specRead l) := by
  have b0 := rd_bd hl 0
  have b1 := rd_bd hl 1
  have b2 := rd_bd hl 2
  obtain ⟨hs, _, hc⟩ := sz_tells b0.1 b0.2
  unfold isa80_Read.f specRead
  by_cases e : (l.length : Int) = 0
  · rw [if_pos e, if_pos e]
  rw [if_neg e, if_neg e, if_pos (by omega)]
  simp only [Option.bind_some, hs]
  generalize sz (rd l 0) = s at *
  by_cases e1 : s = 0
  · rw [if_pos e1, if_pos e1]
  rw [if_neg e1, if_neg e1]
  by_cases e2 : (l.length : Int) < s
  · rw [if_pos e2, if_pos e2]
  rw [if_neg e2, if_neg e2]
  have hz : IntKind.u16.wrap (0 * 256) = 0 := by decide
  have z1 : Go.bits .or .u16 0 (rd l 1) = rd l 1 := by simpa using or_join (x := 0) (by omega) (by omega) b1.1 b1.2
  have z2 : Go.bits .or .u16 0 (rd l 2) = rd l 2 := by simpa using or_join (x := 0) (by omega) (by omega) b2.1 b2.2
  rcases hc with rfl | rfl | rfl | rfl
  · omega
  · rw [isa80_Read.l0, show wrap64 (1 - 1) = 0 by decide +kernel, if_neg (by omega), if_pos (by omega)]; rfl
  · rw [isa80_Read.l0, show wrap64 (2 - 1) = 1 by decide +kernel, if_pos (by omega), if_pos (by omega), if_pos (by omega), show wrap64 (1 - 1) = 0 by decide +kernel, isa80_Read.l0, if_neg (by omega), if_pos (by omega), hz, w16 b1.1 (by omega), z1]; rfl
  · rw [isa80_Read.l0, show wrap64 (3 - 1) = 2 by decide +kernel, if_pos (by omega), if_pos (by omega), if_pos (by omega), show wrap64 (2 - 1) = 1 by decide +kernel, isa80_Read.l0, if_pos (by omega), if_pos (by omega), if_pos (by omega), show wrap64 (1 - 1) = 0 by decide +kernel, isa80_Read.l0, if_neg (by omega), if_pos (by omega), hz, w16 b1.1 (by omega), w16 b2.1 (by omega), z2, w16 (by omega : 0 ≤ rd l 2 * 256) (by omega), or_join b2.1 b2.2 b1.1 b1.2, Int.add_comm (rd l 2 * 256)]; rfl

theorem refRead_spec {l : List Int} (hl : ∀ x ∈ l, (Lit.int .u8 x).wf = true) : pidginref06_Read.f 500 l = some (specRead l) := by
  have b0 := rd_bd hl 0
  have b1 := rd_bd hl 1
  have b2 := rd_bd hl 2
  obtain ⟨_, hs, hc⟩ := sz_tells b0.1 b0.2
  unfold pidginref06_Read.f specRead
  by_cases e : (l.length : Int) = 0
  · rw [if_pos e, if_pos e]
  rw [if_neg e, if_neg e, if_pos (by omega)]
  simp only [Option.bind_some, hs]
  generalize sz (rd l 0) = s at *
  by_cases e1 : s = 0
  · rw [if_pos e1, if_pos e1]
  rw [if_neg e1, if_neg e1]
  by_cases e2 : (l.length : Int) < s
  · rw [if_pos e2, if_pos e2]
  rw [if_neg e2, if_neg e2]
  rcases hc with rfl | rfl | rfl | rfl
  · omega
  · rw [if_neg (by omega), if_neg (by omega)]; simp
  · rw [if_pos (by omega), if_pos (by omega), if_neg (by omega), w16 b1.1 (by omega)]; simp
  · rw [if_pos (by omega), if_pos (by omega), if_pos (by omega), if_pos (by omega), w16 b1.1 (by omega), w16 b2.1 (by omega), w16 (by omega : 0 ≤ rd l 2 * 256) (by omega), w16 (by omega) (by omega)]; simp

end Go.Proofs.Ytmecindhgjdbgaa.Pure
