/- The whole square root by way of a float: for a number below 2^40 some number from 0 to below 2^22. Plain lemmas, of no program. -/
import Ieee.Arith
namespace Go.Proofs.YtihmjhchiomgbaaDoor.Root
open Ieee

theorem cut_le (way : Toward) (neg : Bool) (n drop : Nat) : way.cut neg n drop ≤ n / (1 <<< min drop (n.log2 + 2)) + 1 := by
  unfold Toward.cut
  exact Nat.add_le_add_left (Bool.toNat_le _) _

theorem cut_none (way : Toward) (n : Nat) : way.cut false n 0 = n := by
  unfold Toward.cut
  simp only [Nat.zero_min, Nat.shiftLeft_zero, Nat.div_one, Nat.mod_one]
  cases way <;> simp

theorem rootFrom_lt (n : Nat) : ∀ (todo root : Nat) (b : Nat), root + 2 ^ todo ≤ b → Datum.rootFrom n todo root < b
  | 0, root, b, h => by simp at h; simp [Datum.rootFrom]; omega
  | todo + 1, root, b, h => by
    unfold Datum.rootFrom
    have e : root + 1 <<< todo = root + 2 ^ todo := by rw [Nat.shiftLeft_eq, Nat.one_mul]
    rw [Nat.pow_succ] at h
    dsimp only
    rw [e]
    split
    · exact rootFrom_lt n todo _ b (by omega)
    · exact rootFrom_lt n todo _ b (by have := Nat.two_pow_pos todo; omega)

theorem lp : double.leastPlace = -1074 := by decide
theorem bn : double.binade = 2 ^ 52 := by decide
theorem ir : double.infRung = 2047 * 2 ^ 52 := by decide
theorem sw : double.signWeight = 2 ^ 63 := by decide
theorem fb : double.fractionBits = 52 := rfl

/-- What is written of a small number lies on a low rung. -/
theorem nearest_small (mag : Nat) (place : Int) (h1 : mag < 2 ^ 56) (h2 : -1000 ≤ place) (h3 : place ≤ -36) : double.nearest false mag place < 1044 * 2 ^ 52 := by
  unfold Format.nearest
  split
  · simp [Format.word]
  rename_i h0
  dsimp only
  rw [lp, bn, ir, fb]
  unfold Format.word
  simp only [Bool.false_eq_true, if_false]
  have hl : mag.log2 < 56 := (Nat.log2_lt h0).2 h1
  have hle : 2 ^ mag.log2 ≤ mag := Nat.log2_self_le h0
  have hlt : mag < 2 ^ (mag.log2 + 1) := Nat.lt_log2_self
  generalize mag.log2 = l at hl hle hlt
  have e1 : max (place + (l : Int) - (52 : Nat)) (-1074) = place + l - 52 := by omega
  rw [e1]
  have hk : Toward.even.cut false (mag <<< (place - (place + (l : Int) - 52)).toNat) (place + (l : Int) - 52 - place).toNat ≤ 2 ^ 53 := by
    by_cases c : l ≤ 52
    · have a1 : (place - (place + (l : Int) - 52)).toNat = 52 - l := by omega
      have a2 : (place + (l : Int) - 52 - place).toNat = 0 := by omega
      rw [a1, a2, cut_none, Nat.shiftLeft_eq]
      have := Nat.mul_le_mul_right (2 ^ (52 - l)) (Nat.le_of_lt hlt)
      rw [← Nat.pow_add, show l + 1 + (52 - l) = 53 by omega] at this
      exact this
    · have a1 : (place - (place + (l : Int) - 52)).toNat = 0 := by omega
      obtain ⟨d, hd⟩ : ∃ d, l = 52 + d := ⟨l - 52, by omega⟩
      have a2 : (place + (l : Int) - 52 - place).toNat = d := by omega
      rw [a1, a2, Nat.shiftLeft_zero]
      refine Nat.le_trans (cut_le _ _ _ _) ?_
      have hlm : d ≤ mag.log2 + 2 := by
        have := (Nat.le_log2 h0).2 hle
        omega
      rw [Nat.min_eq_left hlm, Nat.shiftLeft_eq, Nat.one_mul]
      have : mag / 2 ^ d < 2 ^ 53 := by
        rw [Nat.div_lt_iff_lt_mul (Nat.two_pow_pos _), ← Nat.pow_add]
        rw [hd] at hlt
        rw [show 53 + d = 52 + d + 1 by omega]
        exact hlt
      omega
  have hp : (place + (l : Int) - 52 - -1074).toNat ≤ 1041 := by omega
  generalize Toward.even.cut false _ _ = K at hk
  generalize (place + (l : Int) - 52 - -1074).toNat = R at hp
  have : R * 2 ^ 52 ≤ 1041 * 2 ^ 52 := Nat.mul_le_mul_right _ hp
  rw [Nat.min_def]
  split <;> omega

/-- A number on a low rung is small when made whole. -/
theorem toInt_small (rung : Nat) (h : rung < 1044 * 2 ^ 52) : ∃ v : Int, (double.read rung).toInt .zero = some v ∧ 0 ≤ v ∧ v < 4194304 := by
  have key : ∀ (mag : Nat) (place : Int), mag < 2 ^ 53 → place ≤ -32 → ∃ v : Int, (Datum.number false mag place).toInt .zero = some v ∧ 0 ≤ v ∧ v < 4194304 := by
    intro mag place h1 h2
    refine ⟨_, rfl, ?_⟩
    unfold signed
    simp only [Bool.false_eq_true, if_false, Nat.shiftLeft_zero]
    have hp : place.toNat = 0 := by omega
    rw [hp, Nat.shiftLeft_zero]
    have hc := cut_le .zero false mag (-place).toNat
    have hd : 32 ≤ (-place).toNat := by omega
    generalize (-place).toNat = d at hc hd
    have hq : mag / (1 <<< min d (mag.log2 + 2)) ≤ 2 ^ 21 := by
      rw [Nat.shiftLeft_eq, Nat.one_mul]
      by_cases c : d ≤ mag.log2 + 2
      · rw [Nat.min_eq_left c]
        have : mag / 2 ^ d ≤ mag / 2 ^ 32 := Nat.div_le_div_left (Nat.pow_le_pow_right (by decide) hd) (Nat.two_pow_pos _)
        omega
      · rw [Nat.min_eq_right (by omega)]
        have : mag < 2 ^ (mag.log2 + 2) := Nat.lt_of_lt_of_le Nat.lt_log2_self (Nat.pow_le_pow_right (by decide) (by omega))
        rw [Nat.div_eq_of_lt this]
        exact Nat.zero_le _
    constructor
    · exact Int.natCast_nonneg _
    · omega
  have hn : ∀ (x : Nat), x < 2 ^ 63 → (x / 2 ^ 63 % 2 == 1) = false := by
    intro x hx
    rw [Nat.div_eq_of_lt hx]
    rfl
  unfold Format.read
  dsimp only
  rw [sw, bn, ir, lp, hn rung (by omega), Nat.mod_eq_of_lt (by omega : rung < 2 ^ 63)]
  split
  · exact key rung _ (by omega) (by decide)
  · rw [if_pos (by omega)]
    refine key _ _ (by omega) ?_
    have : rung / 2 ^ 52 ≤ 1043 := by omega
    omega

/-- The square root of a whole number below 2^40, made whole, is below 2^22. -/
theorem sqrt_small (n : Nat) (h0 : 0 < n) (h1 : n < 2 ^ 40) : ∃ r, double.sqrt (double.nearest false n 0) = some r ∧ r < 1044 * 2 ^ 52 := by
  have hn0 : n ≠ 0 := by omega
  have hl : n.log2 < 40 := (Nat.log2_lt hn0).2 h1
  have hle : 2 ^ n.log2 ≤ n := Nat.log2_self_le hn0
  have hlt : n < 2 ^ (n.log2 + 1) := Nat.lt_log2_self
  have hx : ∃ (rung : Nat), double.nearest false n 0 = rung ∧ double.read rung = .number false (n * 2 ^ (52 - n.log2)) ((n.log2 : Int) - 52) := by
    refine ⟨_, rfl, ?_⟩
    have hnear : double.nearest false n 0 = (n.log2 + 1022) * 2 ^ 52 + n * 2 ^ (52 - n.log2) := by
      unfold Format.nearest
      rw [if_neg hn0]
      dsimp only
      rw [lp, bn, ir, fb]
      generalize n.log2 = l at hl hle hlt
      have e1 : max ((0 : Int) + (l : Int) - (52 : Nat)) (-1074) = (l : Int) - 52 := by omega
      rw [e1, show (0 - ((l : Int) - 52)).toNat = 52 - l by omega, show ((l : Int) - 52 - 0).toNat = 0 by omega, cut_none, Nat.shiftLeft_eq, show ((l : Int) - 52 - -1074).toNat = l + 1022 by omega]
      unfold Format.word
      simp only [Bool.false_eq_true, if_false]
      have := Nat.mul_le_mul_right (2 ^ (52 - l)) (Nat.le_of_lt hlt)
      rw [← Nat.pow_add, show l + 1 + (52 - l) = 53 by omega] at this
      refine Nat.min_eq_left ?_
      generalize n * 2 ^ (52 - l) = K at this
      omega
    rw [hnear]
    generalize n.log2 = l at hl hle hlt
    have k1 := Nat.mul_le_mul_right (2 ^ (52 - l)) hlt
    rw [← Nat.pow_add, show l + 1 + (52 - l) = 53 by omega, Nat.succ_mul] at k1
    have k2 := Nat.mul_le_mul_right (2 ^ (52 - l)) hle
    rw [← Nat.pow_add, show l + (52 - l) = 52 by omega] at k2
    have k3 := Nat.two_pow_pos (52 - l)
    generalize n * 2 ^ (52 - l) = K at k1 k2
    unfold Format.read
    dsimp only
    have hlt63 : (l + 1022) * 2 ^ 52 + K < 2 ^ 63 := by omega
    rw [sw, bn, ir, lp, Nat.mod_eq_of_lt hlt63, Nat.div_eq_of_lt hlt63]
    rw [if_neg (by omega), if_pos (by omega)]
    have d1 : ((l + 1022) * 2 ^ 52 + K) / 2 ^ 52 = l + 1023 := by omega
    have d2 : ((l + 1022) * 2 ^ 52 + K) % 2 ^ 52 = K - 2 ^ 52 := by omega
    rw [d1, d2]
    rw [show 2 ^ 52 + (K - 2 ^ 52) = K by omega, show (-1074 : Int) + ((l + 1023 - 1 : Nat) : Int) = (l : Int) - 52 by omega]
    rfl
  obtain ⟨rung, hr1, hr2⟩ := hx
  rw [hr1]
  unfold Format.sqrt
  rw [hr2]
  generalize hm : n * 2 ^ (52 - n.log2) = m
  have m1 : m < 2 ^ 53 := by
    have := Nat.mul_lt_mul_of_lt_of_le hlt (Nat.le_refl (2 ^ (52 - n.log2))) (Nat.two_pow_pos _)
    rw [← Nat.pow_add, show n.log2 + 1 + (52 - n.log2) = 53 by omega, hm] at this
    exact this
  have m2 : 2 ^ 52 ≤ m := by
    have := Nat.mul_le_mul_right (2 ^ (52 - n.log2)) hle
    rw [← Nat.pow_add, show n.log2 + (52 - n.log2) = 52 by omega, hm] at this
    exact this
  have hm0 : m ≠ 0 := by omega
  have ml : m.log2 = 52 := by
    have a1 := (Nat.log2_lt hm0).2 m1
    have a2 := (Nat.le_log2 hm0).2 m2
    omega
  generalize n.log2 = l at hl
  unfold Datum.root
  dsimp only
  rw [if_neg hm0, ml, fb]
  simp only [Bool.false_eq_true, if_false]
  have hq : (((l : Int) - 52 - ((2 * (52 + 2) - 52 : Nat) : Int)) % 2).toNat ≤ 1 := by omega
  generalize (((l : Int) - 52 - ((2 * (52 + 2) - 52 : Nat) : Int)) % 2).toNat = q at hq
  refine ⟨_, rfl, ?_⟩
  have hN : m <<< (2 * (52 + 2) - 52 + q) < 2 ^ 110 := by
    rw [Nat.shiftLeft_eq]
    have := Nat.mul_lt_mul_of_lt_of_le m1 (Nat.pow_le_pow_right (by decide : 0 < 2) (show 2 * (52 + 2) - 52 + q ≤ 57 by omega)) (Nat.two_pow_pos _)
    rw [← Nat.pow_add] at this
    exact this
  generalize m <<< (2 * (52 + 2) - 52 + q) = N at hN
  have hN2 : N.log2 / 2 + 1 ≤ 55 := by
    by_cases c : N = 0
    · subst c; decide
    · have := (Nat.log2_lt c).2 hN
      omega
  have hw : Datum.rootFrom N (N.log2 / 2 + 1) 0 < 2 ^ 55 := rootFrom_lt _ _ _ _ (by rw [Nat.zero_add]; exact Nat.pow_le_pow_right (by decide) hN2)
  generalize Datum.rootFrom N (N.log2 / 2 + 1) 0 = whole at hw
  have hb := Bool.toNat_le (whole * whole != N)
  generalize (whole * whole != N).toNat = bb at hb
  exact nearest_small _ _ (by omega) (by omega) (by omega)
end Go.Proofs.YtihmjhchiomgbaaDoor.Root
