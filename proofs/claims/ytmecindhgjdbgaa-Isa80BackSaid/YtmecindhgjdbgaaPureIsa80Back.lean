/- Isa80Back: what was put is read as it was, whatever is behind it, and what is read is put as it was; pure part. No condition. -/
import Derived.Test.YtmecindhgjdbgaaIsaAid
import Derived.Test.YtmecindhgjdbgaaPIsax7
namespace Go.Proofs.Ytmecindhgjdbgaa.Pure
open Go Go.RowKit Go.Proofs.Ytmecindhgjdbgaa.PIsa Go.Proofs.YtmecindhgjdbgaaW.PrintWords Go.Proofs.YtmecindhgjdbgaaW.PrintLast

theorem u8_mk {a : Int} (h0 : 0 ≤ a) (h1 : a < 256) : (Lit.int .u8 a).wf = true := by
  simp [Lit.wf]
  exact ⟨h0, Int.le_of_lt_add_one h1⟩

theorem spec1 (x : Int) (t : List Int) (h : sz x = 1) : specRead (x :: t) = (x, 0, 1, 0) ∧ specBytes x 0 = ([x], 0) := by
  have e0 : rd (x :: t) 0 = x := rfl
  unfold specRead specBytes
  rw [e0, h]
  refine ⟨?_, ?_⟩
  · rw [if_neg (by simp; omega), if_neg (by omega), if_neg (by simp; omega)]; simp
  · simp
theorem spec2 (x y : Int) (t : List Int) (h : sz x = 2) (h0 : 0 ≤ y) (h1 : y < 256) : specRead (x :: y :: t) = (x, y, 2, 0) ∧ specBytes x y = ([x, y], 0) := by
  have e0 : rd (x :: y :: t) 0 = x := rfl
  have e1 : rd (x :: y :: t) 1 = y := rfl
  unfold specRead specBytes
  rw [e0, e1, h]
  refine ⟨?_, ?_⟩
  · rw [if_neg (by simp; omega), if_neg (by omega), if_neg (by simp; omega)]; simp
  · rw [if_neg (by omega), if_neg (by omega), if_neg (by omega), show y % 256 = y by omega]; simp
theorem spec3 (x y z : Int) (t : List Int) (h : sz x = 3) (h0 : 0 ≤ y) (h1 : y < 256) (g0 : 0 ≤ z) (g1 : z < 256) : specRead (x :: y :: z :: t) = (x, y + z * 256, 3, 0) ∧ specBytes x (y + z * 256) = ([x, y, z], 0) := by
  have e0 : rd (x :: y :: z :: t) 0 = x := rfl
  have e1 : rd (x :: y :: z :: t) 1 = y := rfl
  have e2 : rd (x :: y :: z :: t) 2 = z := rfl
  unfold specRead specBytes
  rw [e0, e1, e2, h]
  refine ⟨?_, ?_⟩
  · rw [if_neg (by simp; omega), if_neg (by omega), if_neg (by simp; omega)]; simp
  · rw [if_neg (by omega), if_neg (by omega), if_neg (by omega), show (y + z * 256) % 256 = y by omega, show (y + z * 256) / 256 % 256 = z by omega]; simp

theorem read_back {l m : List Int} {o v n : Int} (hl : ∀ x ∈ l, (Lit.int .u8 x).wf = true) (hr : specRead l = (o, v, n, 0)) (hb : specBytes o v = (m, 0)) (ho : 0 ≤ o) (ho' : o < 256) (hn : n = m.length) (hm : l.take m.length = m) (hm3 : m.length ≤ 3) (hml : m.length ≤ l.length) :
    pidginlaw06_Isa80Back.j0 501 l = some true := by
  rw [pidginlaw06_Isa80Back.j0, isaRead_spec hl, hr]
  simp only [Option.bind_some, if_true]
  rw [isaBytes_spec ho ho', hb]
  simp only [Option.bind_some, if_true]
  rw [if_pos hn, hn, if_pos (by omega), if_pos (by omega), Int.toNat_natCast, hm, same_bytes _ (by omega) _ (by omega), alive_ok]
  rfl

/-- What is read is put as it was. -/
theorem back_again {l : List Int} (hl : ∀ x ∈ l, (Lit.int .u8 x).wf = true) : pidginlaw06_Isa80Back.j0 501 l = some true := by
  have bd : ∀ x ∈ l, 0 ≤ x ∧ x < 256 := fun x hx => u8_bd (hl x hx)
  have hc := (sz_tells (rd_bd hl 0).1 (rd_bd hl 0).2).2.2
  by_cases e : (l.length : Int) = 0
  · rw [pidginlaw06_Isa80Back.j0, isaRead_spec hl, show specRead l = (0, 0, 0, 2) from by unfold specRead; rw [if_pos e], alive_ok]; rfl
  by_cases e1 : sz (rd l 0) = 0
  · rw [pidginlaw06_Isa80Back.j0, isaRead_spec hl, show specRead l = (0, 0, 0, 8) from by unfold specRead; rw [if_neg e, if_pos e1], alive_ok]; rfl
  by_cases e2 : (l.length : Int) < sz (rd l 0)
  · rw [pidginlaw06_Isa80Back.j0, isaRead_spec hl, show specRead l = (0, 0, 0, 2) from by unfold specRead; rw [if_neg e, if_neg e1, if_pos e2], alive_ok]; rfl
  cases l with
  | nil => simp at e
  | cons x t =>
    have hx : rd (x :: t) 0 = x := rfl
    rw [hx] at e1 e2 hc
    have bx := bd x (by simp)
    rcases hc with h | h | h | h
    · omega
    · exact read_back hl (spec1 x t h).1 (spec1 x t h).2 bx.1 bx.2 rfl rfl (by simp) (by simp)
    · cases t with
      | nil => simp at e2; omega
      | cons y u =>
        have b1 := bd y (by simp)
        exact read_back hl (spec2 x y u h b1.1 b1.2).1 (spec2 x y u h b1.1 b1.2).2 bx.1 bx.2 rfl rfl (by simp) (by simp)
    · cases t with
      | nil => simp at e2; omega
      | cons y u =>
        cases u with
        | nil => simp at e2; omega
        | cons z u =>
          have b1 := bd y (by simp)
          have b2 := bd z (by simp)
          exact read_back hl (spec3 x y z u h b1.1 b1.2 b2.1 b2.2).1 (spec3 x y z u h b1.1 b1.2 b2.1 b2.2).2 bx.1 bx.2 rfl rfl (by simp) (by simp)

/-- What was put is read as it was, whatever is behind it. -/
theorem put_read {a n : Int} {l : List Int} (a0 : 0 ≤ a) (a1 : a < 256) (n0 : 0 ≤ n) (n1 : n < 65536) (he : (specBytes a n).2 = 0) :
    specRead ((specBytes a n).1 ++ l) = (a, n, ((specBytes a n).1.length : Int), 0) := by
  obtain ⟨_, _, hc⟩ := sz_tells a0 a1
  rcases hc with h | h | h | h
  · have hs : specBytes a n = ([], 8) := by unfold specBytes; rw [if_pos h]
    rw [hs] at he; simp at he
  · by_cases g : n = 0
    · subst g
      rw [(spec1 a l h).2]
      exact (spec1 a l h).1
    · have hs : specBytes a n = ([], 5) := by
        unfold specBytes
        rw [if_neg (by omega)]
        by_cases g' : n / 256 = 0
        · rw [if_neg (by omega), if_pos (by omega)]
        · rw [if_pos (by omega)]
      rw [hs] at he; simp at he
  · by_cases g : n / 256 = 0
    · rw [(spec2 a n l h n0 (by omega)).2]
      exact (spec2 a n l h n0 (by omega)).1
    · have hs : specBytes a n = ([], 5) := by
        unfold specBytes
        rw [if_neg (by omega), if_pos (by omega)]
      rw [hs] at he; simp at he
  · have e : n = n % 256 + n / 256 * 256 := by omega
    have hs := spec3 a (n % 256) (n / 256) l h (by omega) (by omega) (by omega) (by omega)
    rw [← e] at hs
    rw [hs.2]
    exact hs.1

theorem Isa80Back : pidginlaw06_Isa80Back.Pure := by
  intro a n l ha hn _ _ hl
  refine ⟨501, ?_⟩
  obtain ⟨a0, a1⟩ := u8_bd ha
  obtain ⟨n0, n1⟩ := u16_bd hn
  unfold pidginlaw06_Isa80Back.f
  have hal : pidginlaw06_alive.f 501 = some true := at_rounds pidginlaw06_alive.mono (by decide : 500 ≤ 501) alive_ok
  by_cases h : (l.length : Int) > 1000
  · rw [if_pos h, hal]; rfl
  rw [if_neg h]
  have hb : isa80_Bytes.f 501 a n = some (specBytes a n) := at_rounds (isa80_Bytes.mono a n) (by decide : 500 ≤ 501) (isaBytes_spec a0 a1)
  rw [hb]
  simp only [Option.bind_some]
  by_cases he : (specBytes a n).2 = 0
  · have hlen : (specBytes a n).1.length ≤ 3 := by
      unfold specBytes
      (repeat' split) <;> simp
      omega
    have hw : ∀ x ∈ (specBytes a n).1 ++ l, (Lit.int .u8 x).wf = true := by
      intro x hx
      rcases List.mem_append.mp hx with hx | hx
      · unfold specBytes at hx
        (repeat' split at hx) <;> simp at hx
        have := List.mem_of_mem_take hx
        simp at this
        rcases this with rfl | rfl | rfl
        · exact ha
        · exact u8_mk (by omega) (by omega)
        · exact u8_mk (by omega) (by omega)
      · exact hl x hx
    have hr : isa80_Read.f 501 ((specBytes a n).1 ++ l) = some (specRead ((specBytes a n).1 ++ l)) := at_rounds (isa80_Read.mono _) (by decide : 500 ≤ 501) (isaRead_spec hw)
    rw [if_pos he, if_pos (by simp; omega), List.nil_append, if_pos (by omega), hr, put_read a0 a1 n0 n1 he]
    simp only [Option.bind_some, if_true]
    exact back_again hl
  · rw [if_neg he]
    exact back_again hl

end Go.Proofs.Ytmecindhgjdbgaa.Pure
