/- Functions that the law FnPlatesOrder reaches, each as a Lean function, and that the Go code comes to just these answers (written by programs). -/
import Derived.Test.YtbnhfipcjbnknaaGreatDoorPFnPlatesOrderx0
import Derived.Test.YtbnhfipcjbnknaaGreatDoorPFnPlatesOrderx3
import Derived.Test.YtbnhfipcjbnknaaGreatDoorPFnPlatesOrderx5
namespace Go.Proofs.YtbnhfipcjbnknaaGreatDoor.PFnPlatesOrder
open Go.RowKit Go.Proofs.YtbnhfipcjbnknaaGreatDoorW.PrintWords Go.Proofs.YtbnhfipcjbnknaaGreatDoorW.PrintLast Go.Proofs.YtbnhfipcjbnknaaGreatDoorW.PrintMore
attribute [local go_sem] max2_int min2_int max_two min_two max_three min_three max_four min_four   -- for this text's walks alone
set_option linter.unusedVariables false
set_option linter.unusedSimpArgs false

abbrev M6_0 : Array Bool := #[false, false, false, false, false, false, false, false, false, false, false, false, false, false, false, false]
abbrev M6_1 : Array Bool := #[true, false, false, false, false, false, false, false, false, false, false, false, false, false, false, false]
abbrev M6_2 : Array Bool := #[true, true, false, false, false, false, false, false, false, false, false, false, false, false, false, false]
abbrev M6_3 : Array Bool := #[true, true, true, false, false, false, false, false, false, false, false, false, false, false, false, false]
abbrev M6_4 : Array Bool := #[true, true, true, true, false, false, false, false, false, false, false, false, false, false, false, false]
abbrev M6_5 : Array Bool := #[true, true, true, true, true, false, false, false, false, false, false, false, false, false, false, false]
abbrev M6_6 : Array Bool := #[true, true, true, true, true, true, false, false, false, false, false, false, false, false, false, false]
abbrev M6_7 : Array Bool := #[true, true, true, true, true, true, true, false, false, false, false, false, false, false, false, false]
abbrev M6_8 : Array Bool := #[true, true, true, true, true, true, true, true, false, false, false, false, false, false, false, false]
abbrev M6_9 : Array Bool := #[true, true, true, true, true, true, true, true, true, false, false, false, false, false, false, false]
abbrev M6_10 : Array Bool := #[true, true, true, true, true, true, true, true, true, true, false, false, false, false, false, false]
abbrev M6_11 : Array Bool := #[true, true, true, true, true, true, true, true, true, true, false, true, false, false, false, false]
abbrev M6_12 : Array Bool := #[true, true, true, true, true, true, true, true, true, true, true, true, false, false, false, false]
abbrev M6_13 : Array Bool := #[true, true, true, true, true, true, true, true, true, true, true, true, true, false, false, false]
abbrev M6_14 : Array Bool := #[true, true, true, true, true, true, true, true, true, true, true, true, true, true, false, false]
abbrev M6_15 : Array Bool := #[true, true, true, true, true, true, true, true, true, true, true, true, true, true, true, false]
abbrev M6_16 : Array Bool := #[true, true, true, true, true, true, true, true, true, true, true, true, true, true, true, true]
abbrev M6_17 : Array Bool := #[true, true, true, true, true, true, true, true, true, true, true, false, false, false, false, false]
abbrev M6_18 : Array Bool := #[false, false, false, false, false, false, false, false, false]
abbrev M6_19 : Array Bool := #[true, false, false, false, false, false, false, false, false]
abbrev M6_20 : Array Bool := #[true, false, true, false, false, false, false, false, false]
abbrev M6_21 : Array Bool := #[true, true, true, false, false, false, false, false, false]
abbrev M6_22 : Array Bool := #[true, true, true, true, false, false, false, false, false]
abbrev M6_23 : Array Bool := #[true, true, true, true, true, false, false, false, false]
abbrev M6_24 : Array Bool := #[true, true, true, true, true, true, false, false, false]
abbrev M6_25 : Array Bool := #[true, true, true, true, true, true, true, false, false]
abbrev M6_26 : Array Bool := #[true, true, true, true, true, true, true, true, false]
abbrev M6_27 : Array Bool := #[true, true, true, true, true, true, true, true, true]
/-! ### spec_MiddlePlate: function 11 -/
def spec_MiddlePlate.j0 : Nat → Bool → Int → Int → Int → Int → Option (Int × Int × Bool)
 | 0, _, _, _, _, _ => none
 | k + 1, x21, x232000, x232001, x233000, x233001 => if x21 = true then (some (0, 0, false)) else ((spec_isRank.f x232000 x232001).bind fun t238 => ((spec_isRank.f x233000 x233001).bind fun t239 => ((spec_isOf.f (wrap64 (Int.tdiv (wrap64 (t238 + t239)) 2))).bind fun bt240 => (some (bt240.1, bt240.2, true)))))
def spec_MiddlePlate.f (k : Nat) (a0_0 : Int) (a0_1 : Int) (a1_0 : Int) (a1_1 : Int) : Option (Int × Int × Bool) := (spec_isPlate.f a0_0 a0_1).bind fun t234 => (if t234 = true then ((spec_isPlate.f a1_0 a1_1).bind fun t235 => (if t235 = true then ((spec_isRank.f a1_0 a1_1).bind fun t236 => ((spec_isRank.f a0_0 a0_1).bind fun t237 => (spec_MiddlePlate.j0 k (decide ((wrap64 (t236 - t237)) < 2)) a0_0 a0_1 a1_0 a1_1))) else (spec_MiddlePlate.j0 k true a0_0 a0_1 a1_0 a1_1))) else (spec_MiddlePlate.j0 k true a0_0 a0_1 a1_0 a1_1))
def spec_MiddlePlate.T1 : Bool × List (List Nat × List Nat) := (true, [([], []), ([0], [0]), ([1], [1]), ([2, 1], [2]), ([3], [3]), ([4, 3, 3], [3, 4]), ([5, 3], [3, 5]), ([3, 6], [3, 6]), ([7, 5], [7]), ([8], [8]), ([9, 8, 8], [8, 9]), ([8], [8]), ([11, 10, 8], [8, 11]), ([10, 12, 8], [8, 10, 12]), ([13, 8], [8, 13]), ([8, 14], [8, 14])])
def spec_MiddlePlate.B1 : List Nat := [0, 1, 3, 7, 15, 31, 63, 127, 255, 511, 1023, 511, 4095, 8191, 16383, 32767]
theorem spec_MiddlePlate.tab1 : rtab .any (opsOf Tryz.f11 1) = spec_MiddlePlate.T1 := by kernel_rfl
theorem spec_MiddlePlate.bits1 : waitsOk spec_MiddlePlate.T1.2 spec_MiddlePlate.B1 = true := by kernel_rfl
def spec_MiddlePlate.T3 : Bool × List (List Nat × List Nat) := (true, [([], []), ([0], [0]), ([], []), ([2, 1], [2]), ([1, 3], [1, 3]), ([4], [4]), ([5, 3], [5]), ([6, 6, 0, 1, 2, 3, 4, 5, 6], [6]), ([7, 0, 1, 2, 3, 4, 5, 6, 7], [])])
def spec_MiddlePlate.B3 : List Nat := [0, 1, 0, 7, 15, 31, 63, 127, 255]
theorem spec_MiddlePlate.tab3 : rtab .any (opsOf Tryz.f11 3) = spec_MiddlePlate.T3 := by kernel_rfl
theorem spec_MiddlePlate.bits3 : waitsOk spec_MiddlePlate.T3.2 spec_MiddlePlate.B3 = true := by kernel_rfl
set_option maxHeartbeats 8000000 in
set_option maxRecDepth 100000 in
theorem spec_MiddlePlate.calls (k : Nat) (a0_0 : Int) (a0_1 : Int) (a1_0 : Int) (a1_1 : Int) (r1 : Int) (r2 : Int) (r3 : Bool) (w : World) (h : spec_MiddlePlate.f k a0_0 a0_1 a1_0 a1_1 = some (r1, r2, r3)) :
  Calls Tryz.prog 11 #[.agg #[.int .i64 a0_0, .int .i64 a0_1], .agg #[.int .i64 a1_0, .int .i64 a1_1]] w fun e w' => e = .returned (.tuple #[.agg #[.int .i64 r1, .int .i64 r2], .bool r3]) ∧ Below w.heap.size w w' := by
 have hu25 := Tryz.underlying25
 have HB := Aside0.mk (Below.refl w.heap.size w)
 have H : ((spec_isPlate.f a0_0 a0_1).bind fun t234 => (if t234 = true then ((spec_isPlate.f a1_0 a1_1).bind fun t235 => (if t235 = true then ((spec_isRank.f a1_0 a1_1).bind fun t236 => ((spec_isRank.f a0_0 a0_1).bind fun t237 => (spec_MiddlePlate.j0 k (decide ((wrap64 (t236 - t237)) < 2)) a0_0 a0_1 a1_0 a1_1))) else (spec_MiddlePlate.j0 k true a0_0 a0_1 a1_0 a1_1))) else (spec_MiddlePlate.j0 k true a0_0 a0_1 a1_0 a1_1))) = some (r1, r2, r3) := h
 clear h
 have HC3 := Aside0.mk H
 clear H
 go_enter Tryz.func11, Tryz.ntmps11
 go_upto_region 1 with (first | (refine bx_ 2 #[.int .i64 a0_0, .int .i64 a0_1] 25 ?_; intro gb231 hg w4 BK231 hb; have GW231 := gW_ (w := w) hg; replace HB := bT_ hb; clear hb hg) | (refine bx_ 3 #[.int .i64 a1_0, .int .i64 a1_1] 25 ?_; intro gb232 hg w5 BK232 hb; have GW232 := gW_ (w := w) hg; replace HB := bT_ hb; have NB231_232 := Aside0.mk ((by rw [hg]; exact Nat.ne_of_lt (blk_lt (g := gb231) aO_) : gb231 ≠ gb232)); have NB232_231 := Aside0.mk ((by rw [hg]; exact Nat.ne_of_gt (blk_lt (g := gb231) aO_) : gb232 ≠ gb231)); replace BK231 := bB_ (g := gb231) hb; clear hb hg) | (refine bx_ 4 #[.int .i64 0, .int .i64 0] 25 ?_; intro gb233 hg w6 BK233 hb; have GW233 := gW_ (w := w) hg; replace HB := bT_ hb; have NB231_233 := Aside0.mk ((by rw [hg]; exact Nat.ne_of_lt (blk_lt (g := gb231) aO_) : gb231 ≠ gb233)); have NB233_231 := Aside0.mk ((by rw [hg]; exact Nat.ne_of_gt (blk_lt (g := gb231) aO_) : gb233 ≠ gb231)); replace BK231 := bB_ (g := gb231) hb; have NB232_233 := Aside0.mk ((by rw [hg]; exact Nat.ne_of_lt (blk_lt (g := gb232) aO_) : gb232 ≠ gb233)); have NB233_232 := Aside0.mk ((by rw [hg]; exact Nat.ne_of_gt (blk_lt (g := gb232) aO_) : gb233 ≠ gb232)); replace BK232 := bB_ (g := gb232) hb; clear hb hg))
 (try simp only [sp_])
 go_cut [21] (fun v21 wc => ∃ (kq : Nat) (x21_2 : Bool), v21 = .bool x21_2 ∧ Aside0 (spec_MiddlePlate.j0 kq x21_2 a0_0 a0_1 a1_0 a1_1 = some (r1, r2, r3)) ∧ Aside0 (kq ≤ k) ∧ Aside0 (wc.heap[gb231]? = some (.cells #[.int .i64 a0_0, .int .i64 a0_1] 25 (0, 0))) ∧ Aside0 (wc.heap[gb232]? = some (.cells #[.int .i64 a1_0, .int .i64 a1_1] 25 (0, 0))) ∧ Aside0 (wc.heap[gb233]? = some (.cells #[.int .i64 0, .int .i64 0] 25 (0, 0))) ∧ Aside0 (Below w.heap.size w wc))
 case first =>
  have H := HC3.out
  clear HC3
  obtain ⟨t234, A7, H⟩ := obA H
  by_cases c8 : t234 = true
  ·subst c8
   rw [if_pos rfl] at H
   obtain ⟨t235, A9, H⟩ := obA H
   by_cases c10 : t235 = true
   ·subst c10
    rw [if_pos rfl] at H
    obtain ⟨t236, A11, H⟩ := obA H
    obtain ⟨t237, A12, H⟩ := obA H
    have H' := Aside0.mk H
    clear H
    try go_wp2
    replace BK231 := Aside0.mk (blk_drew BK231.out)
    replace BK232 := Aside0.mk (blk_drew BK232.out)
    replace BK233 := Aside0.mk (blk_drew BK233.out)
    replace HB := Aside0.mk (below_drew1 HB.out)
    refine start_ (n := 16) (S := fun w' => w'.cell? ⟨gb231, 0, none⟩ = some (.int .i64 a0_0) ∧ w'.cell? ⟨gb231, 1, none⟩ = some (.int .i64 a0_1) ∧ w'.cell? ⟨gb232, 0, none⟩ = some (.int .i64 a1_0) ∧ w'.cell? ⟨gb232, 1, none⟩ = some (.int .i64 a1_1)) (ds := []) M6_0 (by kernel_rfl) rfl rfl ⟨(blk_cell BK231.out 0).trans rfl, (blk_cell BK231.out 1).trans rfl, (blk_cell BK232.out 0).trans rfl, (blk_cell BK232.out 1).trans rfl⟩ (fun hHeld => ?_); refine with_tabW spec_MiddlePlate.tab1 spec_MiddlePlate.bits1 (fun HT_ HW_ => ?_)
    generalize w6.drew = w13 at BK231 BK232 BK233 HB hHeld ⊢
    refine ta_ 0 6 M6_1 ?_
    refine on_ 1 (some 7) M6_2 fun K hK => ?_
    refine gS_ Tryz.func39 #[.agg #[.int .i64 a0_0, .int .i64 a0_1]] ?_
    with_reducible refine (spec_isPlate.calls a0_0 a0_1 true _ A7.out).mono ?_
    rintro e w14 ⟨rfl, hb⟩
    refine ⟨_, rfl, ?_⟩
    replace BK231 := bB_ (g := gb231) hb
    replace BK232 := bB_ (g := gb232) hb
    replace BK233 := bB_ (g := gb233) hb
    replace HB := bT_ hb
    refine hS_ hK fun hHeld => ?_
    clear hK K
    refine nm_ ?_
    refine pu_ 2 8 M6_3 ?_
    refine pu_ 3 9 M6_4 ?_
    refine ta_ 4 10 M6_5 ?_
    refine on_ 5 (some 11) M6_6 fun K hK => ?_
    refine gS_ Tryz.func39 #[.agg #[.int .i64 a1_0, .int .i64 a1_1]] ?_
    with_reducible refine (spec_isPlate.calls a1_0 a1_1 true _ A9.out).mono ?_
    rintro e w15 ⟨rfl, hb⟩
    refine ⟨_, rfl, ?_⟩
    replace BK231 := bB_ (g := gb231) hb
    replace BK232 := bB_ (g := gb232) hb
    replace BK233 := bB_ (g := gb233) hb
    replace HB := bT_ hb
    refine hS_ hK fun hHeld => ?_
    clear hK K
    refine nm_ ?_
    refine pu_ 6 12 M6_7 ?_
    refine pu_ 7 13 M6_8 ?_
    refine pu_ 8 14 M6_9 ?_
    refine ta_ 9 15 M6_10 ?_
    refine ta_ 11 17 M6_11 ?_
    refine on_ 10 (some 16) M6_12 fun K hK => ?_
    refine gS_ Tryz.func40 #[.agg #[.int .i64 a1_0, .int .i64 a1_1]] ?_
    with_reducible refine (spec_isRank.calls a1_0 a1_1 t236 _ A11.out).mono ?_
    rintro e w16 ⟨rfl, hb⟩
    refine ⟨_, rfl, ?_⟩
    replace BK231 := bB_ (g := gb231) hb
    replace BK232 := bB_ (g := gb232) hb
    replace BK233 := bB_ (g := gb233) hb
    replace HB := bT_ hb
    refine hS_ hK fun hHeld => ?_
    clear hK K
    refine nm_ ?_
    refine on_ 12 (some 18) M6_13 fun K hK => ?_
    refine gS_ Tryz.func40 #[.agg #[.int .i64 a0_0, .int .i64 a0_1]] ?_
    with_reducible refine (spec_isRank.calls a0_0 a0_1 t237 _ A12.out).mono ?_
    rintro e w17 ⟨rfl, hb⟩
    refine ⟨_, rfl, ?_⟩
    replace BK231 := bB_ (g := gb231) hb
    replace BK232 := bB_ (g := gb232) hb
    replace BK233 := bB_ (g := gb233) hb
    replace HB := bT_ hb
    refine hS_ hK fun hHeld => ?_
    clear hK K
    refine nm_ ?_
    refine pu_ 13 19 M6_14 ?_
    refine pu_ 14 20 M6_15 ?_
    refine pu_ 15 21 M6_16 ?_
    refine done_ (done_of HT_.out (by kernel_rfl)) ?_
    try go_wp2
    go_meet
    case rel => exact ⟨_, (decide ((wrap64 (t236 - t237)) < 2)), rfl, H', ⟨by first | omega | exact Nat.le_refl _⟩, ⟨by exact BK231.out⟩, ⟨by exact BK232.out⟩, ⟨by exact BK233.out⟩, ⟨bO_⟩⟩
   ·replace c10 := Bool.eq_false_iff.mpr c10
    subst c10
    rw [if_neg (show ¬ (false = true) by decide)] at H
    have H' := Aside0.mk H
    clear H
    try go_wp2
    replace BK231 := Aside0.mk (blk_drew BK231.out)
    replace BK232 := Aside0.mk (blk_drew BK232.out)
    replace BK233 := Aside0.mk (blk_drew BK233.out)
    replace HB := Aside0.mk (below_drew1 HB.out)
    refine start_ (n := 16) (S := fun w' => w'.cell? ⟨gb231, 0, none⟩ = some (.int .i64 a0_0) ∧ w'.cell? ⟨gb231, 1, none⟩ = some (.int .i64 a0_1) ∧ w'.cell? ⟨gb232, 0, none⟩ = some (.int .i64 a1_0) ∧ w'.cell? ⟨gb232, 1, none⟩ = some (.int .i64 a1_1)) (ds := []) M6_0 (by kernel_rfl) rfl rfl ⟨(blk_cell BK231.out 0).trans rfl, (blk_cell BK231.out 1).trans rfl, (blk_cell BK232.out 0).trans rfl, (blk_cell BK232.out 1).trans rfl⟩ (fun hHeld => ?_); refine with_tabW spec_MiddlePlate.tab1 spec_MiddlePlate.bits1 (fun HT_ HW_ => ?_)
    generalize w6.drew = w18 at BK231 BK232 BK233 HB hHeld ⊢
    refine ta_ 0 6 M6_1 ?_
    refine on_ 1 (some 7) M6_2 fun K hK => ?_
    refine gS_ Tryz.func39 #[.agg #[.int .i64 a0_0, .int .i64 a0_1]] ?_
    with_reducible refine (spec_isPlate.calls a0_0 a0_1 true _ A7.out).mono ?_
    rintro e w19 ⟨rfl, hb⟩
    refine ⟨_, rfl, ?_⟩
    replace BK231 := bB_ (g := gb231) hb
    replace BK232 := bB_ (g := gb232) hb
    replace BK233 := bB_ (g := gb233) hb
    replace HB := bT_ hb
    refine hS_ hK fun hHeld => ?_
    clear hK K
    refine nm_ ?_
    refine pu_ 2 8 M6_3 ?_
    refine pu_ 3 9 M6_4 ?_
    refine ta_ 4 10 M6_5 ?_
    refine on_ 5 (some 11) M6_6 fun K hK => ?_
    refine gS_ Tryz.func39 #[.agg #[.int .i64 a1_0, .int .i64 a1_1]] ?_
    with_reducible refine (spec_isPlate.calls a1_0 a1_1 false _ A9.out).mono ?_
    rintro e w20 ⟨rfl, hb⟩
    refine ⟨_, rfl, ?_⟩
    replace BK231 := bB_ (g := gb231) hb
    replace BK232 := bB_ (g := gb232) hb
    replace BK233 := bB_ (g := gb233) hb
    replace HB := bT_ hb
    refine hS_ hK fun hHeld => ?_
    clear hK K
    refine nm_ ?_
    refine pu_ 6 12 M6_7 ?_
    refine pu_ 7 13 M6_8 ?_
    refine pu_ 8 14 M6_9 ?_
    refine pure_ (i := 9) (N := some 15) (v := undef) (a' := ?_) M6_10 rfl rfl (any_of HT_.out (by kernel_rfl)) (fun _ _ _ h => h) (Or.inr ⟨by rfl, rfl⟩) ?_ ?_
    rotate_left
    ·simp only [sp_]
     rfl
    refine pure_ (i := 10) (N := some 16) (v := undef) (a' := ?_) M6_17 rfl rfl (any_of HT_.out (by kernel_rfl)) (fun _ _ _ h => h) (Or.inr ⟨by rfl, rfl⟩) ?_ ?_
    rotate_left
    ·simp only [sp_]
     rfl
    refine pure_ (i := 11) (N := some 17) (v := undef) (a' := ?_) M6_12 rfl rfl (any_of HT_.out (by kernel_rfl)) (fun _ _ _ h => h) (Or.inr ⟨by rfl, rfl⟩) ?_ ?_
    rotate_left
    ·simp only [sp_]
     rfl
    refine pure_ (i := 12) (N := some 18) (v := undef) (a' := ?_) M6_13 rfl rfl (any_of HT_.out (by kernel_rfl)) (fun _ _ _ h => h) (Or.inr ⟨by rfl, rfl⟩) ?_ ?_
    rotate_left
    ·simp only [sp_]
     rfl
    refine pure_ (i := 13) (N := some 19) (v := undef) (a' := ?_) M6_14 rfl rfl (any_of HT_.out (by kernel_rfl)) (fun _ _ _ h => h) (Or.inr ⟨by rfl, rfl⟩) ?_ ?_
    rotate_left
    ·simp only [sp_]
     rfl
    refine pure_ (i := 14) (N := some 20) (v := undef) (a' := ?_) M6_15 rfl rfl (any_of HT_.out (by kernel_rfl)) (fun _ _ _ h => h) (Or.inr ⟨by rfl, rfl⟩) ?_ ?_
    rotate_left
    ·simp only [sp_]
     rfl
    refine pu_ 15 21 M6_16 ?_
    refine done_ (done_of HT_.out (by kernel_rfl)) ?_
    try go_wp2
    go_meet
    case rel => exact ⟨_, (true), rfl, H', ⟨by first | omega | exact Nat.le_refl _⟩, ⟨by exact BK231.out⟩, ⟨by exact BK232.out⟩, ⟨by exact BK233.out⟩, ⟨bO_⟩⟩
  ·replace c8 := Bool.eq_false_iff.mpr c8
   subst c8
   rw [if_neg (show ¬ (false = true) by decide)] at H
   have H' := Aside0.mk H
   clear H
   try go_wp2
   replace BK231 := Aside0.mk (blk_drew BK231.out)
   replace BK232 := Aside0.mk (blk_drew BK232.out)
   replace BK233 := Aside0.mk (blk_drew BK233.out)
   replace HB := Aside0.mk (below_drew1 HB.out)
   refine start_ (n := 16) (S := fun w' => w'.cell? ⟨gb231, 0, none⟩ = some (.int .i64 a0_0) ∧ w'.cell? ⟨gb231, 1, none⟩ = some (.int .i64 a0_1)) (ds := []) M6_0 (by kernel_rfl) rfl rfl ⟨(blk_cell BK231.out 0).trans rfl, (blk_cell BK231.out 1).trans rfl⟩ (fun hHeld => ?_); refine with_tabW spec_MiddlePlate.tab1 spec_MiddlePlate.bits1 (fun HT_ HW_ => ?_)
   generalize w6.drew = w21 at BK231 BK232 BK233 HB hHeld ⊢
   refine ta_ 0 6 M6_1 ?_
   refine on_ 1 (some 7) M6_2 fun K hK => ?_
   refine gS_ Tryz.func39 #[.agg #[.int .i64 a0_0, .int .i64 a0_1]] ?_
   with_reducible refine (spec_isPlate.calls a0_0 a0_1 false _ A7.out).mono ?_
   rintro e w22 ⟨rfl, hb⟩
   refine ⟨_, rfl, ?_⟩
   replace BK231 := bB_ (g := gb231) hb
   replace BK232 := bB_ (g := gb232) hb
   replace BK233 := bB_ (g := gb233) hb
   replace HB := bT_ hb
   refine hS_ hK fun hHeld => ?_
   clear hK K
   refine nm_ ?_
   refine pu_ 2 8 M6_3 ?_
   refine pu_ 3 9 M6_4 ?_
   refine pure_ (i := 4) (N := some 10) (v := undef) (a' := ?_) M6_5 rfl rfl (any_of HT_.out (by kernel_rfl)) (fun _ _ _ h => h) (Or.inr ⟨by rfl, rfl⟩) ?_ ?_
   rotate_left
   ·simp only [sp_]
    rfl
   refine pure_ (i := 5) (N := some 11) (v := undef) (a' := ?_) M6_6 rfl rfl (any_of HT_.out (by kernel_rfl)) (fun _ _ _ h => h) (Or.inr ⟨by rfl, rfl⟩) ?_ ?_
   rotate_left
   ·simp only [sp_]
    rfl
   refine pure_ (i := 6) (N := some 12) (v := undef) (a' := ?_) M6_7 rfl rfl (any_of HT_.out (by kernel_rfl)) (fun _ _ _ h => h) (Or.inr ⟨by rfl, rfl⟩) ?_ ?_
   rotate_left
   ·simp only [sp_]
    rfl
   refine pu_ 7 13 M6_8 ?_
   refine pu_ 8 14 M6_9 ?_
   refine pure_ (i := 9) (N := some 15) (v := undef) (a' := ?_) M6_10 rfl rfl (any_of HT_.out (by kernel_rfl)) (fun _ _ _ h => h) (Or.inr ⟨by rfl, rfl⟩) ?_ ?_
   rotate_left
   ·simp only [sp_]
    rfl
   refine pure_ (i := 10) (N := some 16) (v := undef) (a' := ?_) M6_17 rfl rfl (any_of HT_.out (by kernel_rfl)) (fun _ _ _ h => h) (Or.inr ⟨by rfl, rfl⟩) ?_ ?_
   rotate_left
   ·simp only [sp_]
    rfl
   refine pure_ (i := 11) (N := some 17) (v := undef) (a' := ?_) M6_12 rfl rfl (any_of HT_.out (by kernel_rfl)) (fun _ _ _ h => h) (Or.inr ⟨by rfl, rfl⟩) ?_ ?_
   rotate_left
   ·simp only [sp_]
    rfl
   refine pure_ (i := 12) (N := some 18) (v := undef) (a' := ?_) M6_13 rfl rfl (any_of HT_.out (by kernel_rfl)) (fun _ _ _ h => h) (Or.inr ⟨by rfl, rfl⟩) ?_ ?_
   rotate_left
   ·simp only [sp_]
    rfl
   refine pure_ (i := 13) (N := some 19) (v := undef) (a' := ?_) M6_14 rfl rfl (any_of HT_.out (by kernel_rfl)) (fun _ _ _ h => h) (Or.inr ⟨by rfl, rfl⟩) ?_ ?_
   rotate_left
   ·simp only [sp_]
    rfl
   refine pure_ (i := 14) (N := some 20) (v := undef) (a' := ?_) M6_15 rfl rfl (any_of HT_.out (by kernel_rfl)) (fun _ _ _ h => h) (Or.inr ⟨by rfl, rfl⟩) ?_ ?_
   rotate_left
   ·simp only [sp_]
    rfl
   refine pu_ 15 21 M6_16 ?_
   refine done_ (done_of HT_.out (by kernel_rfl)) ?_
   try go_wp2
   go_meet
   case rel => exact ⟨_, (true), rfl, H', ⟨by first | omega | exact Nat.le_refl _⟩, ⟨by exact BK231.out⟩, ⟨by exact BK232.out⟩, ⟨by exact BK233.out⟩, ⟨bO_⟩⟩
 case rest =>
  clear HC3
  try clear c1
  try clear p2
  try clear c3
  try clear c4
  try clear p6
  try clear c8
  try clear c10
  try clear c11
  obtain ⟨kq, x21_2, rfl, HA, HJ2, BK231, BK232, BK233, HB⟩ := hcut
  cases kq with
  | zero => exact absurd HA.out (by simp [spec_MiddlePlate.j0])
  | succ kj2 =>
   have H := HA.out
   clear HA
   simp only [spec_MiddlePlate.j0] at H
   by_cases c23 : x21_2 = true
   ·subst c23
    rw [if_pos rfl] at H
    simp only [Option.some.injEq, Prod.mk.injEq] at H
    obtain ⟨rfl, rfl, rfl⟩ := H
    have hnb24 := NB233_231.out
    have hnc24 := NB231_233.out
    have hnb25 := NB233_232.out
    have hnc25 := NB232_233.out
    have hcz26_0 : wc.cell? ⟨gb233, 0, none⟩ = some (.int .i64 0) := (blk_cell BK233.out 0).trans rfl
    have hcz26_1 : wc.cell? ⟨gb233, 1, none⟩ = some (.int .i64 0) := (blk_cell BK233.out 1).trans rfl
    have hfz26_0 := blk_frozen BK233.out 0
    have hfz26_1 := blk_frozen BK233.out 1
    go_wp2
    refine bodyPost_ret (results_ct rfl _ _ gb233 25 #[.int .i64 0, .int .i64 0] (0, 0) _ rfl (by refine blk_put (cs := #[.int .i64 0, .int .i64 0]) ?_ 1 _ rfl; refine blk_put (cs := #[.int .i64 0, .int .i64 0]) ?_ 0 _ rfl; exact BK233.out) Tryz.underlying25 rfl (by kernel_rfl)) rfl ?_
    exact ⟨rfl, bO_⟩
   ·replace c23 := Bool.eq_false_iff.mpr c23
    subst c23
    rw [if_neg (show ¬ (false = true) by decide)] at H
    obtain ⟨t238, A27, H⟩ := obA H
    obtain ⟨t239, A28, H⟩ := obA H
    obtain ⟨⟨t240, t241⟩, A29, H⟩ := obA H
    dsimp only at H
    simp only [Option.some.injEq, Prod.mk.injEq] at H
    obtain ⟨rfl, rfl, rfl⟩ := H
    try go_wp2
    replace BK231 := Aside0.mk (blk_drew BK231.out)
    replace BK232 := Aside0.mk (blk_drew BK232.out)
    replace BK233 := Aside0.mk (blk_drew BK233.out)
    replace HB := Aside0.mk (below_drew1 HB.out)
    refine start_ (n := 9) (S := fun w' => w'.cell? ⟨gb231, 0, none⟩ = some (.int .i64 a0_0) ∧ w'.cell? ⟨gb231, 1, none⟩ = some (.int .i64 a0_1) ∧ w'.cell? ⟨gb232, 0, none⟩ = some (.int .i64 a1_0) ∧ w'.cell? ⟨gb232, 1, none⟩ = some (.int .i64 a1_1)) (ds := []) M6_18 (by kernel_rfl) rfl rfl ⟨(blk_cell BK231.out 0).trans rfl, (blk_cell BK231.out 1).trans rfl, (blk_cell BK232.out 0).trans rfl, (blk_cell BK232.out 1).trans rfl⟩ (fun hHeld => ?_); refine with_tabW spec_MiddlePlate.tab3 spec_MiddlePlate.bits3 (fun HT_ HW_ => ?_)
    generalize wc.drew = w30 at BK231 BK232 BK233 HB hHeld ⊢
    refine ta_ 0 23 M6_19 ?_
    refine ta_ 2 25 M6_20 ?_
    refine on_ 1 (some 24) M6_21 fun K hK => ?_
    refine gS_ Tryz.func40 #[.agg #[.int .i64 a0_0, .int .i64 a0_1]] ?_
    with_reducible refine (spec_isRank.calls a0_0 a0_1 t238 _ A27.out).mono ?_
    rintro e w31 ⟨rfl, hb⟩
    refine ⟨_, rfl, ?_⟩
    replace BK231 := bB_ (g := gb231) hb
    replace BK232 := bB_ (g := gb232) hb
    replace BK233 := bB_ (g := gb233) hb
    replace HB := bT_ hb
    refine hS_ hK fun hHeld => ?_
    clear hK K
    refine nm_ ?_
    refine on_ 3 (some 26) M6_22 fun K hK => ?_
    refine gS_ Tryz.func40 #[.agg #[.int .i64 a1_0, .int .i64 a1_1]] ?_
    with_reducible refine (spec_isRank.calls a1_0 a1_1 t239 _ A28.out).mono ?_
    rintro e w32 ⟨rfl, hb⟩
    refine ⟨_, rfl, ?_⟩
    replace BK231 := bB_ (g := gb231) hb
    replace BK232 := bB_ (g := gb232) hb
    replace BK233 := bB_ (g := gb233) hb
    replace HB := bT_ hb
    refine hS_ hK fun hHeld => ?_
    clear hK K
    refine nm_ ?_
    refine pu_ 4 27 M6_23 ?_
    refine pu_ 5 28 M6_24 ?_
    refine on_ 6 (some 29) M6_25 fun K hK => ?_
    refine gS_ Tryz.func44 #[.int .i64 (wrap64 (Int.tdiv (wrap64 (t238 + t239)) 2))] ?_
    with_reducible refine (spec_isOf.calls (wrap64 (Int.tdiv (wrap64 (t238 + t239)) 2)) t240 t241 _ A29.out).mono ?_
    rintro e w33 ⟨rfl, hb⟩
    refine ⟨_, rfl, ?_⟩
    replace BK231 := bB_ (g := gb231) hb
    replace BK232 := bB_ (g := gb232) hb
    replace BK233 := bB_ (g := gb233) hb
    replace HB := bT_ hb
    refine hS_ hK fun hHeld => ?_
    clear hK K
    refine nm_ ?_
    refine on_ 7 none M6_26 fun K hK => ?_
    have hs34 : w33.cell? ⟨gb233, 0, none⟩ = some (.int .i64 0) := (blk_cell BK233.out 0).trans rfl
    have hfs34 := blk_frozen BK233.out 0
    have hns34_0 := NB231_233.out
    have hns34_1 := NB232_233.out
    have hms34_0 := NB233_231.out
    have hms34_1 := NB233_232.out
    have hs35 : w33.cell? ⟨gb233, 1, none⟩ = some (.int .i64 0) := (blk_cell BK233.out 1).trans rfl
    have hfs35 := blk_frozen BK233.out 1
    have hns35_0 := NB231_233.out
    have hns35_1 := NB232_233.out
    have hms35_0 := NB233_231.out
    have hms35_1 := NB233_232.out
    refine skip_ (w1 := ?_) (by rfl) rfl ?_ ?_
    rotate_left
    ·go_simp
     rfl
    refine hK.out _ _ ⟨((cell_far (p := ⟨gb233, _, none⟩) NB231_233.out _).trans (((cell_far (p := ⟨gb233, _, none⟩) NB231_233.out _).trans (hHeld.1)))), ((cell_far (p := ⟨gb233, _, none⟩) NB231_233.out _).trans (((cell_far (p := ⟨gb233, _, none⟩) NB231_233.out _).trans (hHeld.2.1)))), ((cell_far (p := ⟨gb233, _, none⟩) NB232_233.out _).trans (((cell_far (p := ⟨gb233, _, none⟩) NB232_233.out _).trans (hHeld.2.2.1)))), ((cell_far (p := ⟨gb233, _, none⟩) NB232_233.out _).trans (((cell_far (p := ⟨gb233, _, none⟩) NB232_233.out _).trans (hHeld.2.2.2))))⟩ (fun hHeld => ?_)
    clear hK K
    refine pu_ 8 5 M6_27 ?_
    refine done_ (done_of HT_.out (by kernel_rfl)) ?_
    try go_wp2
    refine bodyPost_ret (results_ct rfl _ _ gb233 25 #[.int .i64 t240, .int .i64 t241] (0, 0) _ rfl (by refine blk_put (cs := #[.int .i64 t240, .int .i64 0]) ?_ 1 _ rfl; refine blk_put (cs := #[.int .i64 0, .int .i64 0]) ?_ 0 _ rfl; exact BK233.out) Tryz.underlying25 rfl (by kernel_rfl)) rfl ?_
    exact ⟨rfl, bO_⟩

end Go.Proofs.YtbnhfipcjbnknaaGreatDoor.PFnPlatesOrder
