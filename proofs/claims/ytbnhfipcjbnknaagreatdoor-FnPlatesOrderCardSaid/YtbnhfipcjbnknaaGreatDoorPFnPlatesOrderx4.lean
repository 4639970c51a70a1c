/- Functions that the law FnPlatesOrder reaches, each as a Lean function, and that the Go code comes to just these answers (written by programs). -/
import Derived.Test.YtbnhfipcjbnknaaGreatDoorPFnPlatesOrderx0
import Derived.Test.YtbnhfipcjbnknaaGreatDoorPFnPlatesOrderx3
namespace Go.Proofs.YtbnhfipcjbnknaaGreatDoor.PFnPlatesOrder
open Go.RowKit Go.Proofs.YtbnhfipcjbnknaaGreatDoorW.PrintWords Go.Proofs.YtbnhfipcjbnknaaGreatDoorW.PrintLast Go.Proofs.YtbnhfipcjbnknaaGreatDoorW.PrintMore
attribute [local go_sem] max2_int min2_int max_two min_two max_three min_three max_four min_four   -- for this text's walks alone
set_option linter.unusedVariables false
set_option linter.unusedSimpArgs false

abbrev M4_0 : Array Bool := #[false, false, false, false, false, false, false, false, false, false, false, false, false, false, false]
abbrev M4_1 : Array Bool := #[true, false, false, false, false, false, false, false, false, false, false, false, false, false, false]
abbrev M4_2 : Array Bool := #[true, true, false, false, false, false, false, false, false, false, false, false, false, false, false]
abbrev M4_3 : Array Bool := #[true, true, true, false, false, false, false, false, false, false, false, false, false, false, false]
abbrev M4_4 : Array Bool := #[true, true, true, true, false, false, false, false, false, false, false, false, false, false, false]
abbrev M4_5 : Array Bool := #[true, true, true, true, true, false, false, false, false, false, false, false, false, false, false]
abbrev M4_6 : Array Bool := #[true, true, true, true, true, true, false, false, false, false, false, false, false, false, false]
abbrev M4_7 : Array Bool := #[true, true, true, true, true, true, true, false, false, false, false, false, false, false, false]
abbrev M4_8 : Array Bool := #[true, true, true, true, true, true, true, true, false, false, false, false, false, false, false]
abbrev M4_9 : Array Bool := #[true, true, true, true, true, true, true, true, true, false, false, false, false, false, false]
abbrev M4_10 : Array Bool := #[true, true, true, true, true, true, true, true, true, true, false, false, false, false, false]
abbrev M4_11 : Array Bool := #[true, true, true, true, true, true, true, true, true, true, false, true, false, false, false]
abbrev M4_12 : Array Bool := #[true, true, true, true, true, true, true, true, true, true, true, true, false, false, false]
abbrev M4_13 : Array Bool := #[true, true, true, true, true, true, true, true, true, true, true, true, true, false, false]
abbrev M4_14 : Array Bool := #[true, true, true, true, true, true, true, true, true, true, true, true, true, true, false]
abbrev M4_15 : Array Bool := #[true, true, true, true, true, true, true, true, true, true, true, true, true, true, true]
abbrev M4_16 : Array Bool := #[true, true, true, true, true, true, true, true, true, true, true, false, false, false, false]
abbrev M4_17 : Array Bool := #[false, false, false, false, false, false, false, false]
abbrev M4_18 : Array Bool := #[true, false, false, false, false, false, false, false]
abbrev M4_19 : Array Bool := #[true, false, true, false, false, false, false, false]
abbrev M4_20 : Array Bool := #[true, true, true, false, false, false, false, false]
abbrev M4_21 : Array Bool := #[true, true, true, true, false, false, false, false]
abbrev M4_22 : Array Bool := #[true, true, true, true, true, false, false, false]
abbrev M4_23 : Array Bool := #[true, true, true, true, true, true, false, false]
abbrev M4_24 : Array Bool := #[true, true, true, true, true, true, true, false]
abbrev M4_25 : Array Bool := #[true, true, true, true, true, true, true, true]
/-! ### spec_CountBetween: function 7 -/
def spec_CountBetween.j0 : Nat → Bool → Int → Int → Int → Int → Option (Int × Bool)
 | 0, _, _, _, _, _ => none
 | k + 1, x20, x198000, x198001, x199000, x199001 => if x20 = true then (some (0, false)) else ((spec_isRank.f x199000 x199001).bind fun t203 => ((spec_isRank.f x198000 x198001).bind fun t204 => (some (wrap64 ((wrap64 (t203 - t204)) - 1), true))))
def spec_CountBetween.f (k : Nat) (a0_0 : Int) (a0_1 : Int) (a1_0 : Int) (a1_1 : Int) : Option (Int × Bool) := (spec_isPlate.f a0_0 a0_1).bind fun t199 => (if t199 = true then ((spec_isPlate.f a1_0 a1_1).bind fun t200 => (if t200 = true then ((spec_isRank.f a0_0 a0_1).bind fun t201 => ((spec_isRank.f a1_0 a1_1).bind fun t202 => (spec_CountBetween.j0 k (decide (t201 ≥ t202)) a0_0 a0_1 a1_0 a1_1))) else (spec_CountBetween.j0 k true a0_0 a0_1 a1_0 a1_1))) else (spec_CountBetween.j0 k true a0_0 a0_1 a1_0 a1_1))
def spec_CountBetween.T1 : Bool × List (List Nat × List Nat) := (true, [([], []), ([0], [0]), ([1], [1]), ([2, 1], [2]), ([3], [3]), ([4, 3, 3], [3, 4]), ([5, 3], [3, 5]), ([3, 6], [3, 6]), ([7, 5], [7]), ([8], [8]), ([9, 8, 8], [8, 9]), ([8], [8]), ([11, 10, 8], [8, 11]), ([10, 12, 8], [8, 10, 12]), ([8, 13], [8, 13])])
def spec_CountBetween.B1 : List Nat := [0, 1, 3, 7, 15, 31, 63, 127, 255, 511, 1023, 511, 4095, 8191, 16383]
theorem spec_CountBetween.tab1 : rtab .any (opsOf Tryz.f7 1) = spec_CountBetween.T1 := by kernel_rfl
theorem spec_CountBetween.bits1 : waitsOk spec_CountBetween.T1.2 spec_CountBetween.B1 = true := by kernel_rfl
def spec_CountBetween.T3 : Bool × List (List Nat × List Nat) := (true, [([], []), ([0], [0]), ([], []), ([2, 1], [2]), ([1, 3], [1, 3]), ([4], [4]), ([5, 3, 0, 1, 2, 3, 4, 5], [5]), ([6, 0, 1, 2, 3, 4, 5, 6], [])])
def spec_CountBetween.B3 : List Nat := [0, 1, 0, 7, 15, 31, 63, 127]
theorem spec_CountBetween.tab3 : rtab .any (opsOf Tryz.f7 3) = spec_CountBetween.T3 := by kernel_rfl
theorem spec_CountBetween.bits3 : waitsOk spec_CountBetween.T3.2 spec_CountBetween.B3 = true := by kernel_rfl
set_option maxHeartbeats 8000000 in
set_option maxRecDepth 100000 in
theorem spec_CountBetween.calls (k : Nat) (a0_0 : Int) (a0_1 : Int) (a1_0 : Int) (a1_1 : Int) (r1 : Int) (r2 : Bool) (w : World) (h : spec_CountBetween.f k a0_0 a0_1 a1_0 a1_1 = some (r1, r2)) :
  Calls Tryz.prog 7 #[.agg #[.int .i64 a0_0, .int .i64 a0_1], .agg #[.int .i64 a1_0, .int .i64 a1_1]] w fun e w' => e = .returned (.tuple #[.int .i64 r1, .bool r2]) ∧ Below w.heap.size w w' := by
 have hu25 := Tryz.underlying25
 have HB := Aside0.mk (Below.refl w.heap.size w)
 have H : ((spec_isPlate.f a0_0 a0_1).bind fun t199 => (if t199 = true then ((spec_isPlate.f a1_0 a1_1).bind fun t200 => (if t200 = true then ((spec_isRank.f a0_0 a0_1).bind fun t201 => ((spec_isRank.f a1_0 a1_1).bind fun t202 => (spec_CountBetween.j0 k (decide (t201 ≥ t202)) a0_0 a0_1 a1_0 a1_1))) else (spec_CountBetween.j0 k true a0_0 a0_1 a1_0 a1_1))) else (spec_CountBetween.j0 k true a0_0 a0_1 a1_0 a1_1))) = some (r1, r2) := h
 clear h
 have HC3 := Aside0.mk H
 clear H
 go_enter Tryz.func7, Tryz.ntmps7
 go_upto_region 1 with (first | (refine bx_ 2 #[.int .i64 a0_0, .int .i64 a0_1] 25 ?_; intro gb197 hg w4 BK197 hb; have GW197 := gW_ (w := w) hg; replace HB := bT_ hb; clear hb hg) | (refine bx_ 3 #[.int .i64 a1_0, .int .i64 a1_1] 25 ?_; intro gb198 hg w5 BK198 hb; have GW198 := gW_ (w := w) hg; replace HB := bT_ hb; have NB197_198 := Aside0.mk ((by rw [hg]; exact Nat.ne_of_lt (blk_lt (g := gb197) aO_) : gb197 ≠ gb198)); have NB198_197 := Aside0.mk ((by rw [hg]; exact Nat.ne_of_gt (blk_lt (g := gb197) aO_) : gb198 ≠ gb197)); replace BK197 := bB_ (g := gb197) hb; clear hb hg))
 (try simp only [sp_])
 go_cut [20] (fun v20 wc => ∃ (kq : Nat) (x20_2 : Bool), v20 = .bool x20_2 ∧ Aside0 (spec_CountBetween.j0 kq x20_2 a0_0 a0_1 a1_0 a1_1 = some (r1, r2)) ∧ Aside0 (kq ≤ k) ∧ Aside0 (wc.heap[gb197]? = some (.cells #[.int .i64 a0_0, .int .i64 a0_1] 25 (0, 0))) ∧ Aside0 (wc.heap[gb198]? = some (.cells #[.int .i64 a1_0, .int .i64 a1_1] 25 (0, 0))) ∧ Aside0 (Below w.heap.size w wc))
 case first =>
  have H := HC3.out
  clear HC3
  obtain ⟨t199, A6, H⟩ := obA H
  by_cases c7 : t199 = true
  ·subst c7
   rw [if_pos rfl] at H
   obtain ⟨t200, A8, H⟩ := obA H
   by_cases c9 : t200 = true
   ·subst c9
    rw [if_pos rfl] at H
    obtain ⟨t201, A10, H⟩ := obA H
    obtain ⟨t202, A11, H⟩ := obA H
    have H' := Aside0.mk H
    clear H
    try go_wp2
    replace BK197 := Aside0.mk (blk_drew BK197.out)
    replace BK198 := Aside0.mk (blk_drew BK198.out)
    replace HB := Aside0.mk (below_drew1 HB.out)
    refine start_ (n := 15) (S := fun w' => w'.cell? ⟨gb197, 0, none⟩ = some (.int .i64 a0_0) ∧ w'.cell? ⟨gb197, 1, none⟩ = some (.int .i64 a0_1) ∧ w'.cell? ⟨gb198, 0, none⟩ = some (.int .i64 a1_0) ∧ w'.cell? ⟨gb198, 1, none⟩ = some (.int .i64 a1_1)) (ds := []) M4_0 (by kernel_rfl) rfl rfl ⟨(blk_cell BK197.out 0).trans rfl, (blk_cell BK197.out 1).trans rfl, (blk_cell BK198.out 0).trans rfl, (blk_cell BK198.out 1).trans rfl⟩ (fun hHeld => ?_); refine with_tabW spec_CountBetween.tab1 spec_CountBetween.bits1 (fun HT_ HW_ => ?_)
    generalize w5.drew = w12 at BK197 BK198 HB hHeld ⊢
    refine ta_ 0 6 M4_1 ?_
    refine on_ 1 (some 7) M4_2 fun K hK => ?_
    refine gS_ Tryz.func39 #[.agg #[.int .i64 a0_0, .int .i64 a0_1]] ?_
    with_reducible refine (spec_isPlate.calls a0_0 a0_1 true _ A6.out).mono ?_
    rintro e w13 ⟨rfl, hb⟩
    refine ⟨_, rfl, ?_⟩
    replace BK197 := bB_ (g := gb197) hb
    replace BK198 := bB_ (g := gb198) hb
    replace HB := bT_ hb
    refine hS_ hK fun hHeld => ?_
    clear hK K
    refine nm_ ?_
    refine pu_ 2 8 M4_3 ?_
    refine pu_ 3 9 M4_4 ?_
    refine ta_ 4 10 M4_5 ?_
    refine on_ 5 (some 11) M4_6 fun K hK => ?_
    refine gS_ Tryz.func39 #[.agg #[.int .i64 a1_0, .int .i64 a1_1]] ?_
    with_reducible refine (spec_isPlate.calls a1_0 a1_1 true _ A8.out).mono ?_
    rintro e w14 ⟨rfl, hb⟩
    refine ⟨_, rfl, ?_⟩
    replace BK197 := bB_ (g := gb197) hb
    replace BK198 := bB_ (g := gb198) hb
    replace HB := bT_ hb
    refine hS_ hK fun hHeld => ?_
    clear hK K
    refine nm_ ?_
    refine pu_ 6 12 M4_7 ?_
    refine pu_ 7 13 M4_8 ?_
    refine pu_ 8 14 M4_9 ?_
    refine ta_ 9 15 M4_10 ?_
    refine ta_ 11 17 M4_11 ?_
    refine on_ 10 (some 16) M4_12 fun K hK => ?_
    refine gS_ Tryz.func40 #[.agg #[.int .i64 a0_0, .int .i64 a0_1]] ?_
    with_reducible refine (spec_isRank.calls a0_0 a0_1 t201 _ A10.out).mono ?_
    rintro e w15 ⟨rfl, hb⟩
    refine ⟨_, rfl, ?_⟩
    replace BK197 := bB_ (g := gb197) hb
    replace BK198 := bB_ (g := gb198) hb
    replace HB := bT_ hb
    refine hS_ hK fun hHeld => ?_
    clear hK K
    refine nm_ ?_
    refine on_ 12 (some 18) M4_13 fun K hK => ?_
    refine gS_ Tryz.func40 #[.agg #[.int .i64 a1_0, .int .i64 a1_1]] ?_
    with_reducible refine (spec_isRank.calls a1_0 a1_1 t202 _ A11.out).mono ?_
    rintro e w16 ⟨rfl, hb⟩
    refine ⟨_, rfl, ?_⟩
    replace BK197 := bB_ (g := gb197) hb
    replace BK198 := bB_ (g := gb198) hb
    replace HB := bT_ hb
    refine hS_ hK fun hHeld => ?_
    clear hK K
    refine nm_ ?_
    refine pu_ 13 19 M4_14 ?_
    refine pu_ 14 20 M4_15 ?_
    refine done_ (done_of HT_.out (by kernel_rfl)) ?_
    try go_wp2
    go_meet
    case rel => exact ⟨_, (decide (t201 ≥ t202)), rfl, H', ⟨by first | omega | exact Nat.le_refl _⟩, ⟨by exact BK197.out⟩, ⟨by exact BK198.out⟩, ⟨bO_⟩⟩
   ·replace c9 := Bool.eq_false_iff.mpr c9
    subst c9
    rw [if_neg (show ¬ (false = true) by decide)] at H
    have H' := Aside0.mk H
    clear H
    try go_wp2
    replace BK197 := Aside0.mk (blk_drew BK197.out)
    replace BK198 := Aside0.mk (blk_drew BK198.out)
    replace HB := Aside0.mk (below_drew1 HB.out)
    refine start_ (n := 15) (S := fun w' => w'.cell? ⟨gb197, 0, none⟩ = some (.int .i64 a0_0) ∧ w'.cell? ⟨gb197, 1, none⟩ = some (.int .i64 a0_1) ∧ w'.cell? ⟨gb198, 0, none⟩ = some (.int .i64 a1_0) ∧ w'.cell? ⟨gb198, 1, none⟩ = some (.int .i64 a1_1)) (ds := []) M4_0 (by kernel_rfl) rfl rfl ⟨(blk_cell BK197.out 0).trans rfl, (blk_cell BK197.out 1).trans rfl, (blk_cell BK198.out 0).trans rfl, (blk_cell BK198.out 1).trans rfl⟩ (fun hHeld => ?_); refine with_tabW spec_CountBetween.tab1 spec_CountBetween.bits1 (fun HT_ HW_ => ?_)
    generalize w5.drew = w17 at BK197 BK198 HB hHeld ⊢
    refine ta_ 0 6 M4_1 ?_
    refine on_ 1 (some 7) M4_2 fun K hK => ?_
    refine gS_ Tryz.func39 #[.agg #[.int .i64 a0_0, .int .i64 a0_1]] ?_
    with_reducible refine (spec_isPlate.calls a0_0 a0_1 true _ A6.out).mono ?_
    rintro e w18 ⟨rfl, hb⟩
    refine ⟨_, rfl, ?_⟩
    replace BK197 := bB_ (g := gb197) hb
    replace BK198 := bB_ (g := gb198) hb
    replace HB := bT_ hb
    refine hS_ hK fun hHeld => ?_
    clear hK K
    refine nm_ ?_
    refine pu_ 2 8 M4_3 ?_
    refine pu_ 3 9 M4_4 ?_
    refine ta_ 4 10 M4_5 ?_
    refine on_ 5 (some 11) M4_6 fun K hK => ?_
    refine gS_ Tryz.func39 #[.agg #[.int .i64 a1_0, .int .i64 a1_1]] ?_
    with_reducible refine (spec_isPlate.calls a1_0 a1_1 false _ A8.out).mono ?_
    rintro e w19 ⟨rfl, hb⟩
    refine ⟨_, rfl, ?_⟩
    replace BK197 := bB_ (g := gb197) hb
    replace BK198 := bB_ (g := gb198) hb
    replace HB := bT_ hb
    refine hS_ hK fun hHeld => ?_
    clear hK K
    refine nm_ ?_
    refine pu_ 6 12 M4_7 ?_
    refine pu_ 7 13 M4_8 ?_
    refine pu_ 8 14 M4_9 ?_
    refine pure_ (i := 9) (N := some 15) (v := undef) (a' := ?_) M4_10 rfl rfl (any_of HT_.out (by kernel_rfl)) (fun _ _ _ h => h) (Or.inr ⟨by rfl, rfl⟩) ?_ ?_
    rotate_left
    ·simp only [sp_]
     rfl
    refine pure_ (i := 10) (N := some 16) (v := undef) (a' := ?_) M4_16 rfl rfl (any_of HT_.out (by kernel_rfl)) (fun _ _ _ h => h) (Or.inr ⟨by rfl, rfl⟩) ?_ ?_
    rotate_left
    ·simp only [sp_]
     rfl
    refine pure_ (i := 11) (N := some 17) (v := undef) (a' := ?_) M4_12 rfl rfl (any_of HT_.out (by kernel_rfl)) (fun _ _ _ h => h) (Or.inr ⟨by rfl, rfl⟩) ?_ ?_
    rotate_left
    ·simp only [sp_]
     rfl
    refine pure_ (i := 12) (N := some 18) (v := undef) (a' := ?_) M4_13 rfl rfl (any_of HT_.out (by kernel_rfl)) (fun _ _ _ h => h) (Or.inr ⟨by rfl, rfl⟩) ?_ ?_
    rotate_left
    ·simp only [sp_]
     rfl
    refine pure_ (i := 13) (N := some 19) (v := undef) (a' := ?_) M4_14 rfl rfl (any_of HT_.out (by kernel_rfl)) (fun _ _ _ h => h) (Or.inr ⟨by rfl, rfl⟩) ?_ ?_
    rotate_left
    ·simp only [sp_]
     rfl
    refine pu_ 14 20 M4_15 ?_
    refine done_ (done_of HT_.out (by kernel_rfl)) ?_
    try go_wp2
    go_meet
    case rel => exact ⟨_, (true), rfl, H', ⟨by first | omega | exact Nat.le_refl _⟩, ⟨by exact BK197.out⟩, ⟨by exact BK198.out⟩, ⟨bO_⟩⟩
  ·replace c7 := Bool.eq_false_iff.mpr c7
   subst c7
   rw [if_neg (show ¬ (false = true) by decide)] at H
   have H' := Aside0.mk H
   clear H
   try go_wp2
   replace BK197 := Aside0.mk (blk_drew BK197.out)
   replace BK198 := Aside0.mk (blk_drew BK198.out)
   replace HB := Aside0.mk (below_drew1 HB.out)
   refine start_ (n := 15) (S := fun w' => w'.cell? ⟨gb197, 0, none⟩ = some (.int .i64 a0_0) ∧ w'.cell? ⟨gb197, 1, none⟩ = some (.int .i64 a0_1)) (ds := []) M4_0 (by kernel_rfl) rfl rfl ⟨(blk_cell BK197.out 0).trans rfl, (blk_cell BK197.out 1).trans rfl⟩ (fun hHeld => ?_); refine with_tabW spec_CountBetween.tab1 spec_CountBetween.bits1 (fun HT_ HW_ => ?_)
   generalize w5.drew = w20 at BK197 BK198 HB hHeld ⊢
   refine ta_ 0 6 M4_1 ?_
   refine on_ 1 (some 7) M4_2 fun K hK => ?_
   refine gS_ Tryz.func39 #[.agg #[.int .i64 a0_0, .int .i64 a0_1]] ?_
   with_reducible refine (spec_isPlate.calls a0_0 a0_1 false _ A6.out).mono ?_
   rintro e w21 ⟨rfl, hb⟩
   refine ⟨_, rfl, ?_⟩
   replace BK197 := bB_ (g := gb197) hb
   replace BK198 := bB_ (g := gb198) hb
   replace HB := bT_ hb
   refine hS_ hK fun hHeld => ?_
   clear hK K
   refine nm_ ?_
   refine pu_ 2 8 M4_3 ?_
   refine pu_ 3 9 M4_4 ?_
   refine pure_ (i := 4) (N := some 10) (v := undef) (a' := ?_) M4_5 rfl rfl (any_of HT_.out (by kernel_rfl)) (fun _ _ _ h => h) (Or.inr ⟨by rfl, rfl⟩) ?_ ?_
   rotate_left
   ·simp only [sp_]
    rfl
   refine pure_ (i := 5) (N := some 11) (v := undef) (a' := ?_) M4_6 rfl rfl (any_of HT_.out (by kernel_rfl)) (fun _ _ _ h => h) (Or.inr ⟨by rfl, rfl⟩) ?_ ?_
   rotate_left
   ·simp only [sp_]
    rfl
   refine pure_ (i := 6) (N := some 12) (v := undef) (a' := ?_) M4_7 rfl rfl (any_of HT_.out (by kernel_rfl)) (fun _ _ _ h => h) (Or.inr ⟨by rfl, rfl⟩) ?_ ?_
   rotate_left
   ·simp only [sp_]
    rfl
   refine pu_ 7 13 M4_8 ?_
   refine pu_ 8 14 M4_9 ?_
   refine pure_ (i := 9) (N := some 15) (v := undef) (a' := ?_) M4_10 rfl rfl (any_of HT_.out (by kernel_rfl)) (fun _ _ _ h => h) (Or.inr ⟨by rfl, rfl⟩) ?_ ?_
   rotate_left
   ·simp only [sp_]
    rfl
   refine pure_ (i := 10) (N := some 16) (v := undef) (a' := ?_) M4_16 rfl rfl (any_of HT_.out (by kernel_rfl)) (fun _ _ _ h => h) (Or.inr ⟨by rfl, rfl⟩) ?_ ?_
   rotate_left
   ·simp only [sp_]
    rfl
   refine pure_ (i := 11) (N := some 17) (v := undef) (a' := ?_) M4_12 rfl rfl (any_of HT_.out (by kernel_rfl)) (fun _ _ _ h => h) (Or.inr ⟨by rfl, rfl⟩) ?_ ?_
   rotate_left
   ·simp only [sp_]
    rfl
   refine pure_ (i := 12) (N := some 18) (v := undef) (a' := ?_) M4_13 rfl rfl (any_of HT_.out (by kernel_rfl)) (fun _ _ _ h => h) (Or.inr ⟨by rfl, rfl⟩) ?_ ?_
   rotate_left
   ·simp only [sp_]
    rfl
   refine pure_ (i := 13) (N := some 19) (v := undef) (a' := ?_) M4_14 rfl rfl (any_of HT_.out (by kernel_rfl)) (fun _ _ _ h => h) (Or.inr ⟨by rfl, rfl⟩) ?_ ?_
   rotate_left
   ·simp only [sp_]
    rfl
   refine pu_ 14 20 M4_15 ?_
   refine done_ (done_of HT_.out (by kernel_rfl)) ?_
   try go_wp2
   go_meet
   case rel => exact ⟨_, (true), rfl, H', ⟨by first | omega | exact Nat.le_refl _⟩, ⟨by exact BK197.out⟩, ⟨by exact BK198.out⟩, ⟨bO_⟩⟩
 case rest =>
  clear HC3
  try clear p2
  try clear c3
  try clear c4
  try clear c7
  try clear c9
  obtain ⟨kq, x20_2, rfl, HA, HJ2, BK197, BK198, HB⟩ := hcut
  cases kq with
  | zero => exact absurd HA.out (by simp [spec_CountBetween.j0])
  | succ kj2 =>
   have H := HA.out
   clear HA
   simp only [spec_CountBetween.j0] at H
   by_cases c22 : x20_2 = true
   ·subst c22
    rw [if_pos rfl] at H
    simp only [Option.some.injEq, Prod.mk.injEq] at H
    obtain ⟨rfl, rfl⟩ := H
    go_wp2
    go_ret2
    exact ⟨rfl, bO_⟩
   ·replace c22 := Bool.eq_false_iff.mpr c22
    subst c22
    rw [if_neg (show ¬ (false = true) by decide)] at H
    obtain ⟨t203, A23, H⟩ := obA H
    obtain ⟨t204, A24, H⟩ := obA H
    simp only [Option.some.injEq, Prod.mk.injEq] at H
    obtain ⟨rfl, rfl⟩ := H
    try go_wp2
    replace BK197 := Aside0.mk (blk_drew BK197.out)
    replace BK198 := Aside0.mk (blk_drew BK198.out)
    replace HB := Aside0.mk (below_drew1 HB.out)
    refine start_ (n := 8) (S := fun w' => w'.cell? ⟨gb198, 0, none⟩ = some (.int .i64 a1_0) ∧ w'.cell? ⟨gb198, 1, none⟩ = some (.int .i64 a1_1) ∧ w'.cell? ⟨gb197, 0, none⟩ = some (.int .i64 a0_0) ∧ w'.cell? ⟨gb197, 1, none⟩ = some (.int .i64 a0_1)) (ds := []) M4_17 (by kernel_rfl) rfl rfl ⟨(blk_cell BK198.out 0).trans rfl, (blk_cell BK198.out 1).trans rfl, (blk_cell BK197.out 0).trans rfl, (blk_cell BK197.out 1).trans rfl⟩ (fun hHeld => ?_); refine with_tabW spec_CountBetween.tab3 spec_CountBetween.bits3 (fun HT_ HW_ => ?_)
    generalize wc.drew = w25 at BK197 BK198 HB hHeld ⊢
    refine ta_ 0 21 M4_18 ?_
    refine ta_ 2 23 M4_19 ?_
    refine on_ 1 (some 22) M4_20 fun K hK => ?_
    refine gS_ Tryz.func40 #[.agg #[.int .i64 a1_0, .int .i64 a1_1]] ?_
    with_reducible refine (spec_isRank.calls a1_0 a1_1 t203 _ A23.out).mono ?_
    rintro e w26 ⟨rfl, hb⟩
    refine ⟨_, rfl, ?_⟩
    replace BK197 := bB_ (g := gb197) hb
    replace BK198 := bB_ (g := gb198) hb
    replace HB := bT_ hb
    refine hS_ hK fun hHeld => ?_
    clear hK K
    refine nm_ ?_
    refine on_ 3 (some 24) M4_21 fun K hK => ?_
    refine gS_ Tryz.func40 #[.agg #[.int .i64 a0_0, .int .i64 a0_1]] ?_
    with_reducible refine (spec_isRank.calls a0_0 a0_1 t204 _ A24.out).mono ?_
    rintro e w27 ⟨rfl, hb⟩
    refine ⟨_, rfl, ?_⟩
    replace BK197 := bB_ (g := gb197) hb
    replace BK198 := bB_ (g := gb198) hb
    replace HB := bT_ hb
    refine hS_ hK fun hHeld => ?_
    clear hK K
    refine nm_ ?_
    refine pu_ 4 25 M4_22 ?_
    refine pu_ 5 26 M4_23 ?_
    refine pu_ 6 4 M4_24 ?_
    refine pu_ 7 5 M4_25 ?_
    refine done_ (done_of HT_.out (by kernel_rfl)) ?_
    try go_wp2
    go_ret2
    exact ⟨rfl, bO_⟩

/-! ### cmp_isNaN_int: function 62 -/
def cmp_isNaN_int.f (a0 : Int) : Option (Bool) := some (a0 != a0)
set_option maxHeartbeats 8000000 in
set_option maxRecDepth 100000 in
theorem cmp_isNaN_int.calls (a0 : Int) (r : Bool) (w : World) (h : cmp_isNaN_int.f a0 = some r) :
  Calls Tryz.prog 62 #[.int .i64 a0] w fun e w' => e = .returned (.bool r) ∧ Drawn0 w w' := by
 have H : (some (a0 != a0)) = some r := h
 clear h
 obtain rfl := Option.some.inj H
 go_enter Tryz.func62, Tryz.ntmps62
 go_wp2
 go_ret
 exact ⟨by first | rfl | (simp; done) | (simp [*]; done), by repeat (first | exact Drawn0.refl _ | apply Drawn0.step)⟩

/-! ### cmp_Compare_int: function 41 -/
def cmp_Compare_int.f (a0 : Int) (a1 : Int) : Option (Int) := (cmp_isNaN_int.f a0).bind fun t205 => ((cmp_isNaN_int.f a1).bind fun t206 => (if t205 = true then (if t206 = true then (some 0) else (some (-1))) else (if t206 = true then (some 1) else (if a0 < a1 then (some (-1)) else (if a0 > a1 then (some 1) else (some 0))))))
set_option maxHeartbeats 8000000 in
set_option maxRecDepth 100000 in
theorem cmp_Compare_int.calls (a0 : Int) (a1 : Int) (r : Int) (w : World) (h : cmp_Compare_int.f a0 a1 = some r) :
  Calls Tryz.prog 41 #[.int .i64 a0, .int .i64 a1] w fun e w' => e = .returned (.int .i64 r) ∧ Drawn0 w w' := by
 have H : ((cmp_isNaN_int.f a0).bind fun t205 => ((cmp_isNaN_int.f a1).bind fun t206 => (if t205 = true then (if t206 = true then (some 0) else (some (-1))) else (if t206 = true then (some 1) else (if a0 < a1 then (some (-1)) else (if a0 > a1 then (some 1) else (some 0))))))) = some r := h
 clear h
 obtain ⟨t205, A3, H⟩ := obA H
 obtain ⟨t206, A4, H⟩ := obA H
 by_cases c5 : t205 = true
 ·subst c5
  rw [if_pos rfl] at H
  by_cases c6 : t206 = true
  ·subst c6
   rw [if_pos rfl] at H
   obtain rfl := Option.some.inj H
   go_enter Tryz.func41, Tryz.ntmps41
   go_wp2_with (first | (refine gL_ Tryz.func62 (some 8) #[.int .i64 a0] ?_; (with_reducible refine (cmp_isNaN_int.calls a0 true _ A3.out).mono ?_); rintro e w' ⟨rfl, ⟨nd, rfl⟩⟩; refine ⟨_, rfl, ?_⟩) | (refine gL_ Tryz.func62 (some 10) #[.int .i64 a1] ?_; (with_reducible refine (cmp_isNaN_int.calls a1 true _ A4.out).mono ?_); rintro e w' ⟨rfl, ⟨nd, rfl⟩⟩; refine ⟨_, rfl, ?_⟩))
   go_ret
   exact ⟨by first | rfl | (simp; done) | (simp [*]; done), by repeat (first | exact Drawn0.refl _ | apply Drawn0.step)⟩
  ·replace c6 := Bool.eq_false_iff.mpr c6
   subst c6
   rw [if_neg (show ¬ (false = true) by decide)] at H
   obtain rfl := Option.some.inj H
   go_enter Tryz.func41, Tryz.ntmps41
   go_wp2_with (first | (refine gL_ Tryz.func62 (some 8) #[.int .i64 a0] ?_; (with_reducible refine (cmp_isNaN_int.calls a0 true _ A3.out).mono ?_); rintro e w' ⟨rfl, ⟨nd, rfl⟩⟩; refine ⟨_, rfl, ?_⟩) | (refine gL_ Tryz.func62 (some 10) #[.int .i64 a1] ?_; (with_reducible refine (cmp_isNaN_int.calls a1 false _ A4.out).mono ?_); rintro e w' ⟨rfl, ⟨nd, rfl⟩⟩; refine ⟨_, rfl, ?_⟩))
   go_ret
   exact ⟨by first | rfl | (simp; done) | (simp [*]; done), by repeat (first | exact Drawn0.refl _ | apply Drawn0.step)⟩
 ·replace c5 := Bool.eq_false_iff.mpr c5
  subst c5
  rw [if_neg (show ¬ (false = true) by decide)] at H
  by_cases c7 : t206 = true
  ·subst c7
   rw [if_pos rfl] at H
   obtain rfl := Option.some.inj H
   go_enter Tryz.func41, Tryz.ntmps41
   go_wp2_with (first | (refine gL_ Tryz.func62 (some 8) #[.int .i64 a0] ?_; (with_reducible refine (cmp_isNaN_int.calls a0 false _ A3.out).mono ?_); rintro e w' ⟨rfl, ⟨nd, rfl⟩⟩; refine ⟨_, rfl, ?_⟩) | (refine gL_ Tryz.func62 (some 10) #[.int .i64 a1] ?_; (with_reducible refine (cmp_isNaN_int.calls a1 true _ A4.out).mono ?_); rintro e w' ⟨rfl, ⟨nd, rfl⟩⟩; refine ⟨_, rfl, ?_⟩))
   go_ret
   exact ⟨by first | rfl | (simp; done) | (simp [*]; done), by repeat (first | exact Drawn0.refl _ | apply Drawn0.step)⟩
  ·replace c7 := Bool.eq_false_iff.mpr c7
   subst c7
   rw [if_neg (show ¬ (false = true) by decide)] at H
   by_cases c8 : a0 < a1
   ·rw [if_pos c8] at H
    replace c8 := decide_eq_true c8
    obtain rfl := Option.some.inj H
    go_enter Tryz.func41, Tryz.ntmps41
    go_wp2_with (first | (refine gL_ Tryz.func62 (some 8) #[.int .i64 a0] ?_; (with_reducible refine (cmp_isNaN_int.calls a0 false _ A3.out).mono ?_); rintro e w' ⟨rfl, ⟨nd, rfl⟩⟩; refine ⟨_, rfl, ?_⟩) | (refine gL_ Tryz.func62 (some 10) #[.int .i64 a1] ?_; (with_reducible refine (cmp_isNaN_int.calls a1 false _ A4.out).mono ?_); rintro e w' ⟨rfl, ⟨nd, rfl⟩⟩; refine ⟨_, rfl, ?_⟩))
    go_ret
    exact ⟨by first | rfl | (simp; done) | (simp [*]; done), by repeat (first | exact Drawn0.refl _ | apply Drawn0.step)⟩
   ·rw [if_neg c8] at H
    replace c8 := decide_eq_false c8
    by_cases c9 : a0 > a1
    ·rw [if_pos c9] at H
     replace c9 := decide_eq_true c9
     obtain rfl := Option.some.inj H
     go_enter Tryz.func41, Tryz.ntmps41
     go_wp2_with (first | (refine gL_ Tryz.func62 (some 8) #[.int .i64 a0] ?_; (with_reducible refine (cmp_isNaN_int.calls a0 false _ A3.out).mono ?_); rintro e w' ⟨rfl, ⟨nd, rfl⟩⟩; refine ⟨_, rfl, ?_⟩) | (refine gL_ Tryz.func62 (some 10) #[.int .i64 a1] ?_; (with_reducible refine (cmp_isNaN_int.calls a1 false _ A4.out).mono ?_); rintro e w' ⟨rfl, ⟨nd, rfl⟩⟩; refine ⟨_, rfl, ?_⟩))
     go_ret
     exact ⟨by first | rfl | (simp; done) | (simp [*]; done), by repeat (first | exact Drawn0.refl _ | apply Drawn0.step)⟩
    ·rw [if_neg c9] at H
     replace c9 := decide_eq_false c9
     obtain rfl := Option.some.inj H
     go_enter Tryz.func41, Tryz.ntmps41
     go_wp2_with (first | (refine gL_ Tryz.func62 (some 8) #[.int .i64 a0] ?_; (with_reducible refine (cmp_isNaN_int.calls a0 false _ A3.out).mono ?_); rintro e w' ⟨rfl, ⟨nd, rfl⟩⟩; refine ⟨_, rfl, ?_⟩) | (refine gL_ Tryz.func62 (some 10) #[.int .i64 a1] ?_; (with_reducible refine (cmp_isNaN_int.calls a1 false _ A4.out).mono ?_); rintro e w' ⟨rfl, ⟨nd, rfl⟩⟩; refine ⟨_, rfl, ?_⟩))
     go_ret
     exact ⟨by first | rfl | (simp; done) | (simp [*]; done), by repeat (first | exact Drawn0.refl _ | apply Drawn0.step)⟩

end Go.Proofs.YtbnhfipcjbnknaaGreatDoor.PFnPlatesOrder
