/- Functions that the law FnExactBalancedHouse reaches, each as a Lean function, and that the Go code comes to just these answers (written by programs). -/
import Derived.Test.YtgjgbdpfjohaaaaRoot
import Derived.Laws.Cover2
import Derived.Laws.FloatArith
import Derived.Laws.Externs
import Derived.Test.YtgjgbdpfjohaaaaPFnExactBalancedHousex0
namespace Go.Proofs.Ytgjgbdpfjohaaaa.PFnExactBalancedHouse
open Go.RowKit Go.Proofs.YtgjgbdpfjohaaaaW.PrintWords Go.Proofs.YtgjgbdpfjohaaaaW.PrintLast Go.Proofs.YtgjgbdpfjohaaaaW.PrintMore
attribute [local go_sem] max2_int min2_int max_two min_two max_three min_three max_four min_four   -- for this text's walks alone
set_option linter.unusedVariables false
set_option linter.unusedSimpArgs false

/-! ### spec_l1In: function 50 -/
def spec_l1In.f (a0 : Int) (a1 : Int) (a2 : Int) : Option (Bool) := if a0 ≥ a1 then (some (decide (a0 ≤ a2))) else (some false)
set_option maxHeartbeats 8000000 in
set_option maxRecDepth 100000 in
theorem spec_l1In.calls (a0 : Int) (a1 : Int) (a2 : Int) (r : Bool) (w : World) (h : spec_l1In.f a0 a1 a2 = some r) :
    Calls Try.prog 50 #[.int .i64 a0, .int .i64 a1, .int .i64 a2] w fun e w' => e = .returned (.bool r) ∧ Drawn0 w w' := by
  have H : (if a0 ≥ a1 then (some (decide (a0 ≤ a2))) else (some false)) = some r := h
  clear h
  by_cases c4 : a0 ≥ a1
  · rw [if_pos c4] at H
    have c4b0 : decide (a1 ≤ a0) = true := decide_eq_true c4
    clear c4
    obtain rfl := Option.some.inj H
    go_enter Try.func50, Try.ntmps50
    go_wp2
    go_ret
    exact ⟨by first | rfl | (simp; done) | (simp [*]; done), by repeat (first | exact Drawn0.refl _ | apply Drawn0.step)⟩
  · rw [if_neg c4] at H
    have c4b0 : decide (a1 ≤ a0) = false := decide_eq_false c4
    clear c4
    obtain rfl := Option.some.inj H
    go_enter Try.func50, Try.ntmps50
    go_wp2
    go_ret
    exact ⟨by first | rfl | (simp; done) | (simp [*]; done), by repeat (first | exact Drawn0.refl _ | apply Drawn0.step)⟩

/-! ### spec_nuMost: function 64 -/
def spec_nuMost.f (a0 : Int) : Option (Bool) := (spec_l1In.f a0 1 1000000).bind fun t101 => (some t101)
set_option maxHeartbeats 8000000 in
set_option maxRecDepth 100000 in
theorem spec_nuMost.calls (a0 : Int) (r : Bool) (w : World) (h : spec_nuMost.f a0 = some r) :
    Calls Try.prog 64 #[.int .i64 a0] w fun e w' => e = .returned (.bool r) ∧ Drawn0 w w' := by
  have H : ((spec_l1In.f a0 1 1000000).bind fun t101 => (some t101)) = some r := h
  clear h
  replace H := Option.bind_eq_some_iff.mp H
  obtain ⟨t101, A20, H⟩ := H
  replace H : (some t101) = some r := H
  have A2 := Aside0.mk A20
  clear A20
  obtain rfl := Option.some.inj H
  go_enter Try.func64, Try.ntmps64
  go_wp2_with (first | ((with_reducible refine gate_callee (f := 50) rfl ?_); refine goesL_ (some 4) rfl rfl Try.func50 (by kernel_rfl) rfl #[.int .i64 a0, .int .i64 1, .int .i64 1000000] rfl (by (try simp only [List.map_toArray, List.map_cons, List.map_nil]); first | done | rfl | (simp only [List.length_drop, List.length_take]; rfl)) ?_; (with_reducible refine (spec_l1In.calls a0 1 1000000 t101 _ A2.out).mono ?_); rintro e w' ⟨rfl, ⟨nd, rfl⟩⟩; refine ⟨_, rfl, ?_⟩))
  go_ret
  exact ⟨by first | rfl | (simp; done) | (simp [*]; done), by repeat (first | exact Drawn0.refl _ | apply Drawn0.step)⟩

/-! ### spec_nuBalanced: function 65 -/
def spec_nuBalanced.l0 : Nat → Int → Int → Int → Option (Int × Bool)
  | 0, _, _, _ => none
  | k + 1, x4, x5, x6 => if x5 < x6 then (if (wrap64 ((wrap64 (Int.tdiv (wrap64 (x5 + x6)) 2)) * (wrap64 (Int.tdiv (wrap64 (x5 + x6)) 2)))) < x4 then (spec_nuBalanced.l0 k x4 (wrap64 ((wrap64 (Int.tdiv (wrap64 (x5 + x6)) 2)) + 1)) x6) else (spec_nuBalanced.l0 k x4 x5 (wrap64 (Int.tdiv (wrap64 (x5 + x6)) 2)))) else (some (x5, ((wrap64 (x5 * x5)) == x4)))
def spec_nuBalanced.f (k : Nat) (a0 : Int) : Option (Int × Bool) := spec_nuBalanced.l0 k (wrap64 (Int.tdiv (wrap64 (a0 * (wrap64 (a0 + 1)))) 2)) 1 a0
theorem spec_nuBalanced.mono_l : ∀ k, (∀ y0 y1 y2, LeO (spec_nuBalanced.l0 k y0 y1 y2) (spec_nuBalanced.l0 (k + 1) y0 y1 y2))
  | 0 => fun _ _ _ r h => by simp [spec_nuBalanced.l0] at h
  | k + 1 => by
    have ih0 := spec_nuBalanced.mono_l k
    · intro y0 y1 y2
      unfold spec_nuBalanced.l0
      repeat' first
      | (with_reducible exact ih0 _ _ _)
      | (with_reducible exact LeO.refl _)
      | (with_reducible exact LeO.none _)
      | (with_reducible refine LeO.ite ?_ ?_)
      | (with_reducible refine LeO.bind ?_ (fun _ => ?_))
      | exact ih0 _ _ _
      | exact LeO.none _
      | refine LeO.ite ?_ ?_
      | refine LeO.bind ?_ (fun _ => ?_)
theorem spec_nuBalanced.mono : ∀ a0 k, LeO (spec_nuBalanced.f k a0) (spec_nuBalanced.f (k + 1) a0) := by
  intro a0 k
  have ih0 := spec_nuBalanced.mono_l k
  unfold spec_nuBalanced.f
  repeat' first
      | (with_reducible exact ih0 _ _ _)
      | (with_reducible exact LeO.refl _)
      | (with_reducible exact LeO.none _)
      | (with_reducible refine LeO.ite ?_ ?_)
      | (with_reducible refine LeO.bind ?_ (fun _ => ?_))
      | exact ih0 _ _ _
      | exact LeO.none _
      | refine LeO.ite ?_ ?_
      | refine LeO.bind ?_ (fun _ => ?_)
set_option maxHeartbeats 8000000 in
set_option maxRecDepth 100000 in
theorem spec_nuBalanced.calls (k : Nat) (a0 : Int) (r1 : Int) (r2 : Bool) (w : World) (h : spec_nuBalanced.f k a0 = some (r1, r2)) :
    Calls Try.prog 65 #[.int .i64 a0] w fun e w' => e = .returned (.tuple #[.int .i64 r1, .bool r2]) ∧ Drawn0 w w' := by
  have H : (spec_nuBalanced.l0 k (wrap64 (Int.tdiv (wrap64 (a0 * (wrap64 (a0 + 1)))) 2)) 1 a0) = some (r1, r2) := h
  clear h
  have H' := Aside0.mk H
  clear H
  go_enter Try.func65, Try.ntmps65
  go_wp2
  go_loopg [5, 6] k (fun kq v5 v6 w' => ∃ (x5_1 : Int) (x6_1 : Int), v5 = .int .i64 x5_1 ∧ v6 = .int .i64 x6_1 ∧ Aside0 (spec_nuBalanced.l0 kq (wrap64 (Int.tdiv (wrap64 (a0 * (wrap64 (a0 + 1)))) 2)) x5_1 x6_1 = some (r1, r2)) ∧ Aside0 (kq ≤ k) ∧ Drawn0 w w')
  case atStart => exact ⟨(1), (a0), (by first | rfl | (simp; done) | (simp [*]; done)), (by first | rfl | (simp; done) | (simp [*]; done)), H', ⟨Nat.le_refl _⟩, by repeat (first | exact Drawn0.refl _ | apply Drawn0.step)⟩
  case round =>
    clear H'
    obtain ⟨x5_1, x6_1, rfl, rfl, HA, HK1, ⟨m1, rfl⟩⟩ := hrel
    cases gk with
    | zero => exact absurd HA.out (by simp [spec_nuBalanced.l0])
    | succ k1 =>
      have H := HA.out
      clear HA
      simp only [spec_nuBalanced.l0] at H
      by_cases c2 : x5_1 < x6_1
      · rw [if_pos c2] at H
        have c2b0 : decide (x5_1 < x6_1) = true := decide_eq_true c2
        clear c2
        by_cases c3 : (wrap64 ((wrap64 (Int.tdiv (wrap64 (x5_1 + x6_1)) 2)) * (wrap64 (Int.tdiv (wrap64 (x5_1 + x6_1)) 2)))) < (wrap64 (Int.tdiv (wrap64 (a0 * (wrap64 (a0 + 1)))) 2))
        · rw [if_pos c3] at H
          have c3b0 : decide ((wrap64 ((wrap64 (Int.tdiv (wrap64 (x5_1 + x6_1)) 2)) * (wrap64 (Int.tdiv (wrap64 (x5_1 + x6_1)) 2)))) < (wrap64 (Int.tdiv (wrap64 (a0 * (wrap64 (a0 + 1)))) 2))) = true := decide_eq_true c3
          clear c3
          have H' := Aside0.mk H
          clear H
          go_wp2
          go_roundg k1
          case measure => have := HK1.out; omega
          case rel => exact ⟨(wrap64 ((wrap64 (Int.tdiv (wrap64 (x5_1 + x6_1)) 2)) + 1)), (x6_1), (by first | rfl | (simp; done) | (simp [*]; done)), (by first | rfl | (simp; done) | (simp [*]; done)), H', ⟨by have := HK1.out; omega⟩, by repeat (first | exact Drawn0.refl _ | apply Drawn0.step)⟩
        · rw [if_neg c3] at H
          have c3b0 : decide ((wrap64 ((wrap64 (Int.tdiv (wrap64 (x5_1 + x6_1)) 2)) * (wrap64 (Int.tdiv (wrap64 (x5_1 + x6_1)) 2)))) < (wrap64 (Int.tdiv (wrap64 (a0 * (wrap64 (a0 + 1)))) 2))) = false := decide_eq_false c3
          clear c3
          have H' := Aside0.mk H
          clear H
          go_wp2
          go_roundg k1
          case measure => have := HK1.out; omega
          case rel => exact ⟨(x5_1), (wrap64 (Int.tdiv (wrap64 (x5_1 + x6_1)) 2)), (by first | rfl | (simp; done) | (simp [*]; done)), (by first | rfl | (simp; done) | (simp [*]; done)), H', ⟨by have := HK1.out; omega⟩, by repeat (first | exact Drawn0.refl _ | apply Drawn0.step)⟩
      · rw [if_neg c2] at H
        have c2b0 : decide (x5_1 < x6_1) = false := decide_eq_false c2
        clear c2
        simp only [Option.some.injEq, Prod.mk.injEq] at H
        obtain ⟨rfl, rfl⟩ := H
        go_wp2
        go_ret2
        exact ⟨by first | rfl | (simp; done) | (simp [*]; done), by repeat (first | exact Drawn0.refl _ | apply Drawn0.step)⟩

/-! ### spec_BalancedHouse: function 34 -/
def spec_BalancedHouse.f (k : Nat) (a0 : Int) : Option (Int × Bool) := (spec_nuMost.f a0).bind fun t102 => (if t102 = true then ((spec_nuBalanced.f k a0).bind fun bt103 => (if bt103.2 = true then (some (bt103.1, true)) else (some (0, false)))) else (some (0, false)))
theorem spec_BalancedHouse.mono : ∀ a0 k, LeO (spec_BalancedHouse.f k a0) (spec_BalancedHouse.f (k + 1) a0) := by
  intro a0 k
  unfold spec_BalancedHouse.f
  repeat' first
      | (with_reducible exact spec_nuBalanced.mono _ _)
      | (with_reducible exact LeO.refl _)
      | (with_reducible exact LeO.none _)
      | (with_reducible refine LeO.ite ?_ ?_)
      | (with_reducible refine LeO.bind ?_ (fun _ => ?_))
      | exact spec_nuBalanced.mono _ _
      | exact LeO.none _
      | refine LeO.ite ?_ ?_
      | refine LeO.bind ?_ (fun _ => ?_)
set_option maxHeartbeats 8000000 in
set_option maxRecDepth 100000 in
theorem spec_BalancedHouse.calls (k : Nat) (a0 : Int) (r1 : Int) (r2 : Bool) (w : World) (h : spec_BalancedHouse.f k a0 = some (r1, r2)) :
    Calls Try.prog 34 #[.int .i64 a0] w fun e w' => e = .returned (.tuple #[.int .i64 r1, .bool r2]) ∧ Drawn0 w w' := by
  have H : ((spec_nuMost.f a0).bind fun t102 => (if t102 = true then ((spec_nuBalanced.f k a0).bind fun bt103 => (if bt103.2 = true then (some (bt103.1, true)) else (some (0, false)))) else (some (0, false)))) = some (r1, r2) := h
  clear h
  replace H := Option.bind_eq_some_iff.mp H
  obtain ⟨t102, A20, H⟩ := H
  replace H : (if t102 = true then ((spec_nuBalanced.f k a0).bind fun bt103 => (if bt103.2 = true then (some (bt103.1, true)) else (some (0, false)))) else (some (0, false))) = some (r1, r2) := H
  have A2 := Aside0.mk A20
  clear A20
  by_cases c3 : t102 = true
  · subst c3
    have H1 : ((spec_nuBalanced.f k a0).bind fun bt103 => (if bt103.2 = true then (some (bt103.1, true)) else (some (0, false)))) = some (r1, r2) := by rw [if_pos rfl] at H; exact H
    clear H
    have H := H1
    clear H1
    replace H := Option.bind_eq_some_iff.mp H
    obtain ⟨⟨t103, t104⟩, A40, H⟩ := H
    replace H : (if t104 = true then (some (t103, true)) else (some (0, false))) = some (r1, r2) := H
    have A4 := Aside0.mk A40
    clear A40
    by_cases c5 : t104 = true
    · subst c5
      have H1 : (some (t103, true)) = some (r1, r2) := by rw [if_pos rfl] at H; exact H
      clear H
      have H := H1
      clear H1
      simp only [Option.some.injEq, Prod.mk.injEq] at H
      obtain ⟨rfl, rfl⟩ := H
      go_enter Try.func34, Try.ntmps34
      go_wp2_with (first | ((with_reducible refine gate_callee (f := 64) rfl ?_); refine goesL_ (some 7) rfl rfl Try.func64 (by kernel_rfl) rfl #[.int .i64 a0] rfl (by (try simp only [List.map_toArray, List.map_cons, List.map_nil]); first | done | rfl | (simp only [List.length_drop, List.length_take]; rfl)) ?_; (with_reducible refine (spec_nuMost.calls a0 true _ A2.out).mono ?_); rintro e w' ⟨rfl, ⟨nd, rfl⟩⟩; refine ⟨_, rfl, ?_⟩) | ((with_reducible refine gate_callee (f := 65) rfl ?_); refine goesL_ (some 11) rfl rfl Try.func65 (by kernel_rfl) rfl #[.int .i64 a0] rfl (by (try simp only [List.map_toArray, List.map_cons, List.map_nil]); first | done | rfl | (simp only [List.length_drop, List.length_take]; rfl)) ?_; (with_reducible refine (spec_nuBalanced.calls k a0 t103 true _ A4.out).mono ?_); rintro e w' ⟨rfl, ⟨nd, rfl⟩⟩; refine ⟨_, rfl, ?_⟩))
      go_ret2
      exact ⟨by first | rfl | (simp; done) | (simp [*]; done), by repeat (first | exact Drawn0.refl _ | apply Drawn0.step)⟩
    · replace c5 := Bool.eq_false_iff.mpr c5
      subst c5
      have H1 : (some (0, false)) = some (r1, r2) := by rw [if_neg (show ¬ (false = true) by decide)] at H; exact H
      clear H
      have H := H1
      clear H1
      simp only [Option.some.injEq, Prod.mk.injEq] at H
      obtain ⟨rfl, rfl⟩ := H
      go_enter Try.func34, Try.ntmps34
      go_wp2_with (first | ((with_reducible refine gate_callee (f := 64) rfl ?_); refine goesL_ (some 7) rfl rfl Try.func64 (by kernel_rfl) rfl #[.int .i64 a0] rfl (by (try simp only [List.map_toArray, List.map_cons, List.map_nil]); first | done | rfl | (simp only [List.length_drop, List.length_take]; rfl)) ?_; (with_reducible refine (spec_nuMost.calls a0 true _ A2.out).mono ?_); rintro e w' ⟨rfl, ⟨nd, rfl⟩⟩; refine ⟨_, rfl, ?_⟩) | ((with_reducible refine gate_callee (f := 65) rfl ?_); refine goesL_ (some 11) rfl rfl Try.func65 (by kernel_rfl) rfl #[.int .i64 a0] rfl (by (try simp only [List.map_toArray, List.map_cons, List.map_nil]); first | done | rfl | (simp only [List.length_drop, List.length_take]; rfl)) ?_; (with_reducible refine (spec_nuBalanced.calls k a0 t103 false _ A4.out).mono ?_); rintro e w' ⟨rfl, ⟨nd, rfl⟩⟩; refine ⟨_, rfl, ?_⟩))
      go_ret2
      exact ⟨by first | rfl | (simp; done) | (simp [*]; done), by repeat (first | exact Drawn0.refl _ | apply Drawn0.step)⟩
  · replace c3 := Bool.eq_false_iff.mpr c3
    subst c3
    have H1 : (some (0, false)) = some (r1, r2) := by rw [if_neg (show ¬ (false = true) by decide)] at H; exact H
    clear H
    have H := H1
    clear H1
    simp only [Option.some.injEq, Prod.mk.injEq] at H
    obtain ⟨rfl, rfl⟩ := H
    go_enter Try.func34, Try.ntmps34
    go_wp2_with (first | ((with_reducible refine gate_callee (f := 64) rfl ?_); refine goesL_ (some 7) rfl rfl Try.func64 (by kernel_rfl) rfl #[.int .i64 a0] rfl (by (try simp only [List.map_toArray, List.map_cons, List.map_nil]); first | done | rfl | (simp only [List.length_drop, List.length_take]; rfl)) ?_; (with_reducible refine (spec_nuMost.calls a0 false _ A2.out).mono ?_); rintro e w' ⟨rfl, ⟨nd, rfl⟩⟩; refine ⟨_, rfl, ?_⟩))
    go_ret2
    exact ⟨by first | rfl | (simp; done) | (simp [*]; done), by repeat (first | exact Drawn0.refl _ | apply Drawn0.step)⟩

/-! ### impl_within: function 53 -/
def impl_within.f (a0 : Int) (a1 : Int) (a2 : Int) : Option (Bool) := if a0 ≥ a1 then (some (decide (a0 ≤ a2))) else (some false)
set_option maxHeartbeats 8000000 in
set_option maxRecDepth 100000 in
theorem impl_within.calls (a0 : Int) (a1 : Int) (a2 : Int) (r : Bool) (w : World) (h : impl_within.f a0 a1 a2 = some r) :
    Calls Try.prog 53 #[.int .i64 a0, .int .i64 a1, .int .i64 a2] w fun e w' => e = .returned (.bool r) ∧ Drawn0 w w' := by
  have H : (if a0 ≥ a1 then (some (decide (a0 ≤ a2))) else (some false)) = some r := h
  clear h
  by_cases c4 : a0 ≥ a1
  · rw [if_pos c4] at H
    have c4b0 : decide (a1 ≤ a0) = true := decide_eq_true c4
    clear c4
    obtain rfl := Option.some.inj H
    go_enter Try.func53, Try.ntmps53
    go_wp2
    go_ret
    exact ⟨by first | rfl | (simp; done) | (simp [*]; done), by repeat (first | exact Drawn0.refl _ | apply Drawn0.step)⟩
  · rw [if_neg c4] at H
    have c4b0 : decide (a1 ≤ a0) = false := decide_eq_false c4
    clear c4
    obtain rfl := Option.some.inj H
    go_enter Try.func53, Try.ntmps53
    go_wp2
    go_ret
    exact ⟨by first | rfl | (simp; done) | (simp [*]; done), by repeat (first | exact Drawn0.refl _ | apply Drawn0.step)⟩

/-! ### impl_isMost: function 66 -/
def impl_isMost.f (a0 : Int) : Option (Bool) := (impl_within.f a0 1 1000000).bind fun t105 => (some t105)
set_option maxHeartbeats 8000000 in
set_option maxRecDepth 100000 in
theorem impl_isMost.calls (a0 : Int) (r : Bool) (w : World) (h : impl_isMost.f a0 = some r) :
    Calls Try.prog 66 #[.int .i64 a0] w fun e w' => e = .returned (.bool r) ∧ Drawn0 w w' := by
  have H : ((impl_within.f a0 1 1000000).bind fun t105 => (some t105)) = some r := h
  clear h
  replace H := Option.bind_eq_some_iff.mp H
  obtain ⟨t105, A20, H⟩ := H
  replace H : (some t105) = some r := H
  have A2 := Aside0.mk A20
  clear A20
  obtain rfl := Option.some.inj H
  go_enter Try.func66, Try.ntmps66
  go_wp2_with (first | ((with_reducible refine gate_callee (f := 53) rfl ?_); refine goesL_ (some 4) rfl rfl Try.func53 (by kernel_rfl) rfl #[.int .i64 a0, .int .i64 1, .int .i64 1000000] rfl (by (try simp only [List.map_toArray, List.map_cons, List.map_nil]); first | done | rfl | (simp only [List.length_drop, List.length_take]; rfl)) ?_; (with_reducible refine (impl_within.calls a0 1 1000000 t105 _ A2.out).mono ?_); rintro e w' ⟨rfl, ⟨nd, rfl⟩⟩; refine ⟨_, rfl, ?_⟩))
  go_ret
  exact ⟨by first | rfl | (simp; done) | (simp [*]; done), by repeat (first | exact Drawn0.refl _ | apply Drawn0.step)⟩

-- NOT PRINTED: function 90 (math_sqrt)

-- NOT PRINTED: function 84 (math_Sqrt)

/-! ### impl_balancedHouse: function 67 (given by hand) -/
/-- The whole square root. -/
def impl_balancedHouse.root : Nat → Nat
  | 0 => 0
  | n + 1 => (fun r => if (r + 1) * (r + 1) ≤ n + 1 then r + 1 else r) (impl_balancedHouse.root n)
theorem impl_balancedHouse.root_is : ∀ n : Nat, impl_balancedHouse.root n * impl_balancedHouse.root n ≤ n ∧ n < (impl_balancedHouse.root n + 1) * (impl_balancedHouse.root n + 1)
  | 0 => by simp [impl_balancedHouse.root]
  | n + 1 => by
    obtain ⟨h1, h2⟩ := impl_balancedHouse.root_is n
    unfold impl_balancedHouse.root
    generalize impl_balancedHouse.root n = r at h1 h2
    dsimp only
    split
    · refine ⟨by assumption, ?_⟩
      have e : (r + 1 + 1) * (r + 1 + 1) = (r + 1) * (r + 1) + 2 * r + 3 := by rw [Nat.add_mul, Nat.mul_add]; omega
      omega
    · exact ⟨by omega, by omega⟩
theorem impl_balancedHouse.root_eq {n h : Nat} (h1 : h * h ≤ n) (h2 : n < (h + 1) * (h + 1)) : impl_balancedHouse.root n = h := by
  obtain ⟨g1, g2⟩ := impl_balancedHouse.root_is n
  generalize impl_balancedHouse.root n = r at g1 g2
  rcases Nat.lt_trichotomy r h with c | c | c
  · have := Nat.mul_le_mul (show r + 1 ≤ h from c) (show r + 1 ≤ h from c)
    omega
  · exact c
  · have := Nat.mul_le_mul (show h + 1 ≤ r from c) (show h + 1 ≤ r from c)
    omega
/-- The house with as much on both sides, 0 where there is none. -/
def impl_balancedHouse.bal (m : Nat) : Nat := (fun s => if impl_balancedHouse.root s * impl_balancedHouse.root s = s then impl_balancedHouse.root s else 0) (m * (m + 1) / 2)
def impl_balancedHouse.f (a0 : Int) : Option Int := if 1 ≤ a0 ∧ a0 ≤ 1000000 then some (impl_balancedHouse.bal a0.toNat : Nat) else none
set_option maxHeartbeats 1000000 in
set_option maxRecDepth 100000 in
theorem impl_balancedHouse.sqrt (x r : Nat) (W : World) (h : Ieee.double.sqrt x = some r) : Calls Try.prog 84 #[.float .f64 x] W fun e w' => e = .returned (.float .f64 r) ∧ w' = W := by
  have hx : (Extern.MathSqrt.sqrt #[.float .f64 x]).run Try.prog W = .ok (.float .f64 r) W := by
    have e : Extern.MathSqrt.sqrt #[.float .f64 x] = (match FloatKind.f64.format.sqrt x with
        | some r => pure (.float .f64 r)
        | none => do pure (.float .f64 (← choose (.nanBits .f64 x x)))) := rfl
    rw [e, show FloatKind.f64.format.sqrt x = some r from h]
    rfl
  clear h
  go_enter Try.func84, Try.ntmps84
  go_wp2
  rw [run_callFunc_extern Try.func90 (by kernel_rfl) (by kernel_rfl) (by kernel_rfl) (e := Extern.MathSqrt.sqrt) (by kernel_rfl), hx]
  simp only [Result.andThen]
  rw [Oper.upon_value]
  go_wp2
  go_ret
  exact ⟨rfl, rfl⟩
theorem impl_balancedHouse.ret {a b : Int} (h : a = b) : Ending.returned (.int .i64 a) = .returned (.int .i64 b) := by rw [h]
set_option maxHeartbeats 4000000 in
set_option maxRecDepth 100000 in
theorem impl_balancedHouse.walk (m s : Nat) (res : Int) (w : World) (h1 : 1 ≤ m) (h2 : m ≤ 1000000) (hs : s = m * (m + 1) / 2) (hres : res = ((if impl_balancedHouse.root s * impl_balancedHouse.root s = s then impl_balancedHouse.root s else 0 : Nat) : Int)) :
    Calls Try.prog 67 #[.int .i64 (m : Int)] w fun e w' => e = .returned (.int .i64 res) ∧ Drawn0 w w' := by
  have HRES := Aside0.mk hres
  clear hres
  have hp : m * (m + 1) ≤ 1000000 * 1000001 := Nat.mul_le_mul h2 (by omega)
  have hp2 : 1 * 2 ≤ m * (m + 1) := Nat.mul_le_mul h1 (by omega)
  obtain ⟨p, hpe⟩ : ∃ p : Nat, m * (m + 1) = p := ⟨_, rfl⟩
  have e0 : (m : Int) * ((m : Int) + 1) = (p : Int) := by rw [← hpe]; simp
  rw [hpe] at hp hp2 hs
  clear hpe
  have hs1 : 1 ≤ s := by omega
  have hs2 : s ≤ 500000500000 := by omega
  have e1 : ((p : Int)) / 2 = (s : Int) := by omega
  have e1' : Int.tdiv (p : Int) 2 = (s : Int) := by rw [Int.tdiv_eq_ediv_of_nonneg (by omega)]; exact e1
  obtain ⟨r, hr, hrs⟩ := Root.sqrt_small s (by omega) (by omega)
  obtain ⟨v0, hv, hv0, hv1⟩ := Root.toInt_small r hrs
  obtain ⟨v, rfl⟩ : ∃ v : Nat, v0 = (v : Int) := ⟨v0.toNat, by omega⟩
  have hf : floatOfInt .f64 (s : Int) = Ieee.double.nearest false s 0 := by
    show Ieee.double.write (.number (decide ((s : Int) < 0)) (s : Int).natAbs 0) = _
    rw [show decide ((s : Int) < 0) = false by simp]
    rfl
  have hb : floatToIntVal .f64 r .i64 = some (v : Int) := by
    unfold floatToIntVal
    rw [show (FloatKind.f64.decode r).toInt .zero = some (v : Int) from hv]
    simp only [IntKind.min, IntKind.max, IntKind.signed, IntKind.bits]
    rw [if_pos]
    constructor <;> simp <;> omega
  have hc1 : ∀ W, (convert 3 86 (.int .i64 (s : Int))).run Try.prog W = .ok (.float .f64 (Ieee.double.nearest false s 0)) W := fun W => by
    rw [run_convert_int_float W 3 86 .i64 .f64 (s : Int) (by rw [Try.underlying3]; rfl) Try.underlying86, hf]
  have hc2 : ∀ W, (convert 86 3 (.float .f64 r)).run Try.prog W = .ok (.int .i64 (v : Int)) W := fun W => run_convert_float_int W 86 3 .f64 .i64 r (v : Int) (by rw [Try.underlying86]; rfl) Try.underlying3 hb
  generalize Ieee.double.nearest false s 0 = x at hr hc1
  have HR := Aside0.mk hr
  have HS := Aside0.mk hs
  clear hr hs hf hb hv hrs e1' hv0
  have w1 : IntKind.i64.wrap ((m : Int) * ((m : Int) + 1)) = (p : Int) := by rw [e0, IntKind.wrap_i64]; omega
  have w2 : wrap64 ((m : Int) * ((m : Int) + 1)) = (p : Int) := by rw [e0]; unfold wrap64; omega
  clear e0
  have hv2 : v ≤ 4194304 := by omega
  clear hv1
  go_enter Try.func67, Try.ntmps67
  go_wp2_with (go_at_call 84; refine (impl_balancedHouse.sqrt _ _ _ HR.out).mono ?_; rintro e w' ⟨rfl, rfl⟩)
  go_loop [4] (fun h => ∃ v : Nat, v ≤ 4194304 ∧ h = .int .i64 (v : Int)) (fun h => (intOf h).toNat)
  case atStart => exact ⟨v, hv2, rfl⟩
  case round =>
    clear hv2 hc1 hc2 w1 w2
    obtain ⟨u, hu, rfl⟩ := hrel
    have hq0 : u * u ≤ 4194304 * 4194304 := Nat.mul_le_mul hu hu
    obtain ⟨q, hqe⟩ : ∃ q : Nat, u * u = q := ⟨_, rfl⟩
    have e2 : (u : Int) * (u : Int) = (q : Int) := by rw [← hqe]; simp
    rw [hqe] at hq0
    have HQ := Aside0.mk hqe
    clear hqe
    by_cases c : s < q
    · have hup : 1 ≤ u := by
        rcases Nat.eq_zero_or_pos u with h | h
        · have := HQ.out; rw [h] at this; omega
        · exact h
      have c1 : decide ((s : Int) < (q : Int)) = true := decide_eq_true (by omega)
      have c2 : decide (s < q) = true := decide_eq_true c
      have e3 : wrap64 ((q : Int)) = (q : Int) := by unfold wrap64; omega
      have c0 : (0 : Int) ≤ (u : Int) - 1 := by omega
      go_wp2
      go_round
      case rel => exact ⟨u - 1, by omega, by rw [show ((u - 1 : Nat) : Int) = (u : Int) - 1 by omega]⟩
      case measure => simp [intOf]; omega
    · have c1 : decide ((s : Int) < (q : Int)) = false := decide_eq_false (by omega)
      have c2 : decide (s < q) = false := decide_eq_false c
      have e3 : wrap64 ((q : Int)) = (q : Int) := by unfold wrap64; omega
      go_wp2
      clear c1 c2 e3 e2
      go_loop [4] (fun h => ∃ v : Nat, v ≤ 4194304 ∧ v * v ≤ s ∧ h = .int .i64 (v : Int)) (fun h => 4194305 - (intOf h).toNat)
      case atStart => exact ⟨u, hu, by rw [HQ.out]; omega, rfl⟩
      case round =>
        clear c hq0 HQ hu
        obtain ⟨u, hu, huu, rfl⟩ := hrel
        obtain ⟨q, hqe⟩ : ∃ q : Nat, u * u = q := ⟨_, rfl⟩
        have e2 : (u : Int) * (u : Int) = (q : Int) := by rw [← hqe]; simp
        have hqq : (u + 1) * (u + 1) = q + 2 * u + 1 := by rw [← hqe, Nat.add_mul, Nat.mul_add]; omega
        have e4 : ((u : Int) + 1) * ((u : Int) + 1) = (q : Int) + 2 * (u : Int) + 1 := by
          have : (((u + 1) * (u + 1) : Nat) : Int) = ((q + 2 * u + 1 : Nat) : Int) := by rw [hqq]
          simpa using this
        rw [hqe] at huu
        have HQ := Aside0.mk hqe
        have HQQ := Aside0.mk hqq
        clear hqe hqq
        have e3 : wrap64 ((q : Int)) = (q : Int) := by unfold wrap64; omega
        have e5 : wrap64 ((q : Int) + 2 * (u : Int) + 1) = (q : Int) + 2 * (u : Int) + 1 := by unfold wrap64; omega
        by_cases c : q + 2 * u + 1 ≤ s
        · have hul : u + 1 ≤ 4194304 := by
            rcases Nat.lt_or_ge 4194304 (u + 1) with h | h
            · have := Nat.mul_le_mul (show 4194304 ≤ u + 1 by omega) (show 4194304 ≤ u + 1 by omega)
              have := HQQ.out
              omega
            · exact h
          have c1 : decide ((q : Int) + 2 * (u : Int) + 1 ≤ (s : Int)) = true := decide_eq_true (by omega)
          go_wp2
          go_round
          case rel => exact ⟨u + 1, by omega, by rw [HQQ.out]; omega, by go_num⟩
          case measure => simp [intOf]; omega
        · have c1 : decide ((q : Int) + 2 * (u : Int) + 1 ≤ (s : Int)) = false := decide_eq_false (by omega)
          have hroot : impl_balancedHouse.root s = u := impl_balancedHouse.root_eq (by rw [HQ.out]; omega) (by rw [HQQ.out]; omega)
          have HROOT := Aside0.mk hroot
          clear hroot
          by_cases cq : q = s
          · have k1 : ((q : Int) == (s : Int)) = true := by simp; omega
            have k2 : ((q : Int) != (s : Int)) = false := by simp; omega
            have HCQ := Aside0.mk cq
            clear cq
            go_wp2
            go_ret
            exact ⟨impl_balancedHouse.ret (by rw [HRES.out, HROOT.out, if_pos (by rw [HQ.out]; exact HCQ.out)]), Drawn0.refl _⟩
          · have k1 : ((q : Int) == (s : Int)) = false := by simp; omega
            have k2 : ((q : Int) != (s : Int)) = true := by simp; omega
            have HCQ := Aside0.mk cq
            clear cq
            go_wp2
            go_ret
            exact ⟨impl_balancedHouse.ret (by rw [HRES.out, HROOT.out, if_neg (by rw [HQ.out]; exact HCQ.out)]; rfl), Drawn0.refl _⟩
theorem impl_balancedHouse.calls (a0 : Int) (r : Int) (w : World) (h : impl_balancedHouse.f a0 = some r) :
    Calls Try.prog 67 #[.int .i64 a0] w fun e w' => e = .returned (.int .i64 r) ∧ Drawn0 w w' := by
  unfold impl_balancedHouse.f at h
  by_cases c : 1 ≤ a0 ∧ a0 ≤ 1000000
  · rw [if_pos c] at h
    obtain rfl := Option.some.inj h
    obtain ⟨m, rfl⟩ : ∃ m : Nat, a0 = (m : Int) := ⟨a0.toNat, by omega⟩
    exact impl_balancedHouse.walk m _ _ w (by omega) (by omega) rfl rfl
  · rw [if_neg c] at h
    cases h

/-! ### impl_BalancedHouse: function 35 -/
def impl_BalancedHouse.f (a0 : Int) : Option (Int × Bool) := (impl_isMost.f a0).bind fun t106 => (if t106 = true then ((impl_balancedHouse.f a0).bind fun t107 => (some (t107, decide (t107 > 0)))) else (some (0, false)))
set_option maxHeartbeats 8000000 in
set_option maxRecDepth 100000 in
theorem impl_BalancedHouse.calls (a0 : Int) (r1 : Int) (r2 : Bool) (w : World) (h : impl_BalancedHouse.f a0 = some (r1, r2)) :
    Calls Try.prog 35 #[.int .i64 a0] w fun e w' => e = .returned (.tuple #[.int .i64 r1, .bool r2]) ∧ Drawn0 w w' := by
  have H : ((impl_isMost.f a0).bind fun t106 => (if t106 = true then ((impl_balancedHouse.f a0).bind fun t107 => (some (t107, decide (t107 > 0)))) else (some (0, false)))) = some (r1, r2) := h
  clear h
  replace H := Option.bind_eq_some_iff.mp H
  obtain ⟨t106, A20, H⟩ := H
  replace H : (if t106 = true then ((impl_balancedHouse.f a0).bind fun t107 => (some (t107, decide (t107 > 0)))) else (some (0, false))) = some (r1, r2) := H
  have A2 := Aside0.mk A20
  clear A20
  by_cases c3 : t106 = true
  · subst c3
    have H1 : ((impl_balancedHouse.f a0).bind fun t107 => (some (t107, decide (t107 > 0)))) = some (r1, r2) := by rw [if_pos rfl] at H; exact H
    clear H
    have H := H1
    clear H1
    replace H := Option.bind_eq_some_iff.mp H
    obtain ⟨t107, A40, H⟩ := H
    replace H : (some (t107, decide (t107 > 0))) = some (r1, r2) := H
    have A4 := Aside0.mk A40
    clear A40
    simp only [Option.some.injEq, Prod.mk.injEq] at H
    obtain ⟨rfl, rfl⟩ := H
    go_enter Try.func35, Try.ntmps35
    go_wp2_with (first | ((with_reducible refine gate_callee (f := 66) rfl ?_); refine goesL_ (some 6) rfl rfl Try.func66 (by kernel_rfl) rfl #[.int .i64 a0] rfl (by (try simp only [List.map_toArray, List.map_cons, List.map_nil]); first | done | rfl | (simp only [List.length_drop, List.length_take]; rfl)) ?_; (with_reducible refine (impl_isMost.calls a0 true _ A2.out).mono ?_); rintro e w' ⟨rfl, ⟨nd, rfl⟩⟩; refine ⟨_, rfl, ?_⟩) | ((with_reducible refine gate_callee (f := 67) rfl ?_); refine goesL_ (some 9) rfl rfl Try.func67 (by kernel_rfl) rfl #[.int .i64 a0] rfl (by (try simp only [List.map_toArray, List.map_cons, List.map_nil]); first | done | rfl | (simp only [List.length_drop, List.length_take]; rfl)) ?_; (with_reducible refine (impl_balancedHouse.calls a0 t107 _ A4.out).mono ?_); rintro e w' ⟨rfl, ⟨nd, rfl⟩⟩; refine ⟨_, rfl, ?_⟩))
    go_ret2
    exact ⟨by first | rfl | (simp; done) | (simp [*]; done), by repeat (first | exact Drawn0.refl _ | apply Drawn0.step)⟩
  · replace c3 := Bool.eq_false_iff.mpr c3
    subst c3
    have H1 : (some (0, false)) = some (r1, r2) := by rw [if_neg (show ¬ (false = true) by decide)] at H; exact H
    clear H
    have H := H1
    clear H1
    simp only [Option.some.injEq, Prod.mk.injEq] at H
    obtain ⟨rfl, rfl⟩ := H
    go_enter Try.func35, Try.ntmps35
    go_wp2_with (first | ((with_reducible refine gate_callee (f := 66) rfl ?_); refine goesL_ (some 6) rfl rfl Try.func66 (by kernel_rfl) rfl #[.int .i64 a0] rfl (by (try simp only [List.map_toArray, List.map_cons, List.map_nil]); first | done | rfl | (simp only [List.length_drop, List.length_take]; rfl)) ?_; (with_reducible refine (impl_isMost.calls a0 false _ A2.out).mono ?_); rintro e w' ⟨rfl, ⟨nd, rfl⟩⟩; refine ⟨_, rfl, ?_⟩))
    go_ret2
    exact ⟨by first | rfl | (simp; done) | (simp [*]; done), by repeat (first | exact Drawn0.refl _ | apply Drawn0.step)⟩

/-! ### laws_FnExactBalancedHouse: function 8 -/
def laws_FnExactBalancedHouse.f (k : Nat) (a0 : Int) : Option (Bool) := (spec_BalancedHouse.f k a0).bind fun bt108 => ((impl_BalancedHouse.f a0).bind fun bt110 => (if bt110.1 = bt108.1 then (if (bt110.2 != bt108.2) = true then (some false) else (some true)) else (some false)))
theorem laws_FnExactBalancedHouse.mono : ∀ a0 k, LeO (laws_FnExactBalancedHouse.f k a0) (laws_FnExactBalancedHouse.f (k + 1) a0) := by
  intro a0 k
  unfold laws_FnExactBalancedHouse.f
  repeat' first
      | (with_reducible exact spec_BalancedHouse.mono _ _)
      | (with_reducible exact LeO.refl _)
      | (with_reducible exact LeO.none _)
      | (with_reducible refine LeO.ite ?_ ?_)
      | (with_reducible refine LeO.bind ?_ (fun _ => ?_))
      | exact spec_BalancedHouse.mono _ _
      | exact LeO.none _
      | refine LeO.ite ?_ ?_
      | refine LeO.bind ?_ (fun _ => ?_)
set_option maxHeartbeats 8000000 in
set_option maxRecDepth 100000 in
theorem laws_FnExactBalancedHouse.calls (k : Nat) (a0 : Int) (r : Bool) (w : World) (h : laws_FnExactBalancedHouse.f k a0 = some r) :
    Calls Try.prog 8 #[.int .i64 a0] w fun e w' => e = .returned (.bool r) ∧ Drawn0 w w' := by
  have H : ((spec_BalancedHouse.f k a0).bind fun bt108 => ((impl_BalancedHouse.f a0).bind fun bt110 => (if bt110.1 = bt108.1 then (if (bt110.2 != bt108.2) = true then (some false) else (some true)) else (some false)))) = some r := h
  clear h
  replace H := Option.bind_eq_some_iff.mp H
  obtain ⟨⟨t108, t109⟩, A20, H⟩ := H
  replace H : ((impl_BalancedHouse.f a0).bind fun bt110 => (if bt110.1 = t108 then (if (bt110.2 != t109) = true then (some false) else (some true)) else (some false))) = some r := H
  have A2 := Aside0.mk A20
  clear A20
  replace H := Option.bind_eq_some_iff.mp H
  obtain ⟨⟨t110, t111⟩, A30, H⟩ := H
  replace H : (if t110 = t108 then (if (t111 != t109) = true then (some false) else (some true)) else (some false)) = some r := H
  have A3 := Aside0.mk A30
  clear A30
  by_cases c4 : t110 = t108
  · rw [if_pos c4] at H
    have c4b0 : (t110 == t108) = true := beq_iff_eq.mpr c4
    have c4b1 : (t110 != t108) = false := bne_eq_false_iff_eq.mpr c4
    clear c4
    by_cases c5 : (t111 != t109) = true
    · rw [if_pos c5] at H
      have c5b0 : (t111 != t109) = true := c5
      (try (have c5b1 : decide (t111 = t109) = false := by simpa using c5))
      (try (have c5b2 : (t111 == t109) = false := by simpa using c5))
      (try (have c5b3 : ¬ (t111 = t109) := by simpa using c5))
      clear c5
      obtain rfl := Option.some.inj H
      go_enter Try.func8, Try.ntmps8
      go_wp2_with (first | ((with_reducible refine gate_callee (f := 34) rfl ?_); refine goesL_ (some 9) rfl rfl Try.func34 (by kernel_rfl) rfl #[.int .i64 a0] rfl (by (try simp only [List.map_toArray, List.map_cons, List.map_nil]); first | done | rfl | (simp only [List.length_drop, List.length_take]; rfl)) ?_; (with_reducible refine (spec_BalancedHouse.calls k a0 t108 t109 _ A2.out).mono ?_); rintro e w' ⟨rfl, ⟨nd, rfl⟩⟩; refine ⟨_, rfl, ?_⟩) | ((with_reducible refine gate_callee (f := 35) rfl ?_); refine goesL_ (some 14) rfl rfl Try.func35 (by kernel_rfl) rfl #[.int .i64 a0] rfl (by (try simp only [List.map_toArray, List.map_cons, List.map_nil]); first | done | rfl | (simp only [List.length_drop, List.length_take]; rfl)) ?_; (with_reducible refine (impl_BalancedHouse.calls a0 t110 t111 _ A3.out).mono ?_); rintro e w' ⟨rfl, ⟨nd, rfl⟩⟩; refine ⟨_, rfl, ?_⟩))
      go_ret
      exact ⟨by first | rfl | (simp; done) | (simp [*]; done), by repeat (first | exact Drawn0.refl _ | apply Drawn0.step)⟩
    · rw [if_neg c5] at H
      have c5b0 : (t111 != t109) = false := by simpa using c5
      (try (have c5b1 : decide (t111 = t109) = true := by simpa using c5))
      (try (have c5b2 : (t111 == t109) = true := by simpa using c5))
      clear c5
      obtain rfl := Option.some.inj H
      go_enter Try.func8, Try.ntmps8
      go_wp2_with (first | ((with_reducible refine gate_callee (f := 34) rfl ?_); refine goesL_ (some 9) rfl rfl Try.func34 (by kernel_rfl) rfl #[.int .i64 a0] rfl (by (try simp only [List.map_toArray, List.map_cons, List.map_nil]); first | done | rfl | (simp only [List.length_drop, List.length_take]; rfl)) ?_; (with_reducible refine (spec_BalancedHouse.calls k a0 t108 t109 _ A2.out).mono ?_); rintro e w' ⟨rfl, ⟨nd, rfl⟩⟩; refine ⟨_, rfl, ?_⟩) | ((with_reducible refine gate_callee (f := 35) rfl ?_); refine goesL_ (some 14) rfl rfl Try.func35 (by kernel_rfl) rfl #[.int .i64 a0] rfl (by (try simp only [List.map_toArray, List.map_cons, List.map_nil]); first | done | rfl | (simp only [List.length_drop, List.length_take]; rfl)) ?_; (with_reducible refine (impl_BalancedHouse.calls a0 t110 t111 _ A3.out).mono ?_); rintro e w' ⟨rfl, ⟨nd, rfl⟩⟩; refine ⟨_, rfl, ?_⟩))
      go_ret
      exact ⟨by first | rfl | (simp; done) | (simp [*]; done), by repeat (first | exact Drawn0.refl _ | apply Drawn0.step)⟩
  · rw [if_neg c4] at H
    have c4b0 : (t110 == t108) = false := beq_eq_false_iff_ne.mpr c4
    have c4b1 : (t110 != t108) = true := bne_iff_ne.mpr c4
    obtain rfl := Option.some.inj H
    go_enter Try.func8, Try.ntmps8
    go_wp2_with (first | ((with_reducible refine gate_callee (f := 34) rfl ?_); refine goesL_ (some 9) rfl rfl Try.func34 (by kernel_rfl) rfl #[.int .i64 a0] rfl (by (try simp only [List.map_toArray, List.map_cons, List.map_nil]); first | done | rfl | (simp only [List.length_drop, List.length_take]; rfl)) ?_; (with_reducible refine (spec_BalancedHouse.calls k a0 t108 t109 _ A2.out).mono ?_); rintro e w' ⟨rfl, ⟨nd, rfl⟩⟩; refine ⟨_, rfl, ?_⟩) | ((with_reducible refine gate_callee (f := 35) rfl ?_); refine goesL_ (some 14) rfl rfl Try.func35 (by kernel_rfl) rfl #[.int .i64 a0] rfl (by (try simp only [List.map_toArray, List.map_cons, List.map_nil]); first | done | rfl | (simp only [List.length_drop, List.length_take]; rfl)) ?_; (with_reducible refine (impl_BalancedHouse.calls a0 t110 t111 _ A3.out).mono ?_); rintro e w' ⟨rfl, ⟨nd, rfl⟩⟩; refine ⟨_, rfl, ?_⟩))
    go_ret
    exact ⟨by first | rfl | (simp; done) | (simp [*]; done), by repeat (first | exact Drawn0.refl _ | apply Drawn0.step)⟩

/-- THE ONE PURE STATEMENT of laws_FnExactBalancedHouse: yours. -/
def laws_FnExactBalancedHouse.Pure : Prop := ∀ (a0 : Int), (Lit.int .i64 a0).wf = true → ∃ k, laws_FnExactBalancedHouse.f k a0 = some true
theorem laws_FnExactBalancedHouse.walk (P : laws_FnExactBalancedHouse.Pure) (a0 : Int) (w : World) (w0 : (Lit.int .i64 a0).wf = true) :
    Calls Try.prog 8 #[.int .i64 a0] w fun e w' => e = .returned (.bool true) ∧ Below w.heap.size w w' := by
  obtain ⟨k, h⟩ := P a0 w0
  refine (laws_FnExactBalancedHouse.calls k a0 true w h).mono ?_
  rintro e w' ⟨rfl, hd⟩
  exact ⟨rfl, hd.below⟩

end Go.Proofs.Ytgjgbdpfjohaaaa.PFnExactBalancedHouse
