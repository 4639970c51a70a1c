/- Functions that the law FnPlatesOrder reaches, each as a Lean function, and that the Go code comes to just these answers (written by programs). -/
import Derived.Test.YtbnhfipcjbnknaaGreatDoorPFnPlatesOrderx0
import Derived.Test.YtbnhfipcjbnknaaGreatDoorPFnPlatesOrderx2
namespace Go.Proofs.YtbnhfipcjbnknaaGreatDoor.PFnPlatesOrder
open Go.RowKit Go.Proofs.YtbnhfipcjbnknaaGreatDoorW.PrintWords Go.Proofs.YtbnhfipcjbnknaaGreatDoorW.PrintLast Go.Proofs.YtbnhfipcjbnknaaGreatDoorW.PrintMore
attribute [local go_sem] max2_int min2_int max_two min_two max_three min_three max_four min_four   -- for this text's walks alone
set_option linter.unusedVariables false
set_option linter.unusedSimpArgs false

abbrev M3_0 : Array Bool := #[false, false, false, false, false, false, false, false, false, false, false, false, false, false, false]
abbrev M3_1 : Array Bool := #[true, false, false, false, false, false, false, false, false, false, false, false, false, false, false]
abbrev M3_2 : Array Bool := #[true, true, false, false, false, false, false, false, false, false, false, false, false, false, false]
abbrev M3_3 : Array Bool := #[true, true, true, false, false, false, false, false, false, false, false, false, false, false, false]
abbrev M3_4 : Array Bool := #[true, true, true, true, false, false, false, false, false, false, false, false, false, false, false]
abbrev M3_5 : Array Bool := #[true, true, true, true, true, false, false, false, false, false, false, false, false, false, false]
abbrev M3_6 : Array Bool := #[true, true, true, true, true, true, false, false, false, false, false, false, false, false, false]
abbrev M3_7 : Array Bool := #[true, true, true, true, true, true, true, false, false, false, false, false, false, false, false]
abbrev M3_8 : Array Bool := #[true, true, true, true, true, true, true, true, false, false, false, false, false, false, false]
abbrev M3_9 : Array Bool := #[true, true, true, true, true, true, true, true, true, false, false, false, false, false, false]
abbrev M3_10 : Array Bool := #[true, true, true, true, true, true, true, true, true, true, false, false, false, false, false]
abbrev M3_11 : Array Bool := #[true, true, true, true, true, true, true, true, true, true, false, true, false, false, false]
abbrev M3_12 : Array Bool := #[true, true, true, true, true, true, true, true, true, true, true, true, false, false, false]
abbrev M3_13 : Array Bool := #[true, true, true, true, true, true, true, true, true, true, true, true, true, false, false]
abbrev M3_14 : Array Bool := #[true, true, true, true, true, true, true, true, true, true, true, true, true, true, false]
abbrev M3_15 : Array Bool := #[true, true, true, true, true, true, true, true, true, true, true, true, true, true, true]
abbrev M3_16 : Array Bool := #[true, true, true, true, true, true, true, true, true, true, true, false, false, false, false]
abbrev M3_17 : Array Bool := #[false, false, false, false, false, false, false, false]
abbrev M3_18 : Array Bool := #[true, false, false, false, false, false, false, false]
abbrev M3_19 : Array Bool := #[true, false, true, false, false, false, false, false]
abbrev M3_20 : Array Bool := #[true, true, true, false, false, false, false, false]
abbrev M3_21 : Array Bool := #[true, true, true, true, false, false, false, false]
abbrev M3_22 : Array Bool := #[true, true, true, true, true, false, false, false]
abbrev M3_23 : Array Bool := #[true, true, true, true, true, true, false, false]
abbrev M3_24 : Array Bool := #[true, true, true, true, true, true, true, false]
abbrev M3_25 : Array Bool := #[true, true, true, true, true, true, true, true]
/-! ### impl_CountBetween: function 6 -/
def impl_CountBetween.j0 : Nat → Bool → Int → Int → Int → Int → Option (Int × Bool)
 | 0, _, _, _, _, _ => none
 | k + 1, x20, x186000, x186001, x187000, x187001 => if x20 = true then (some (0, false)) else ((impl_rankOf.f x187000 x187001).bind fun t191 => ((impl_rankOf.f x186000 x186001).bind fun t192 => (some (wrap64 ((wrap64 (t191 - t192)) - 1), true))))
def impl_CountBetween.f (k : Nat) (a0_0 : Int) (a0_1 : Int) (a1_0 : Int) (a1_1 : Int) : Option (Int × Bool) := (impl_IsPlate.f a0_0 a0_1).bind fun t187 => (if t187 = true then ((impl_IsPlate.f a1_0 a1_1).bind fun t188 => (if t188 = true then ((impl_rankOf.f a0_0 a0_1).bind fun t189 => ((impl_rankOf.f a1_0 a1_1).bind fun t190 => (impl_CountBetween.j0 k (decide (t189 ≥ t190)) a0_0 a0_1 a1_0 a1_1))) else (impl_CountBetween.j0 k true a0_0 a0_1 a1_0 a1_1))) else (impl_CountBetween.j0 k true a0_0 a0_1 a1_0 a1_1))
def impl_CountBetween.T1 : Bool × List (List Nat × List Nat) := (true, [([], []), ([0], [0]), ([1], [1]), ([2, 1], [2]), ([3], [3]), ([4, 3, 3], [3, 4]), ([5, 3], [3, 5]), ([3, 6], [3, 6]), ([7, 5], [7]), ([8], [8]), ([9, 8, 8], [8, 9]), ([8], [8]), ([11, 10, 8], [8, 11]), ([10, 12, 8], [8, 10, 12]), ([8, 13], [8, 13])])
def impl_CountBetween.B1 : List Nat := [0, 1, 3, 7, 15, 31, 63, 127, 255, 511, 1023, 511, 4095, 8191, 16383]
theorem impl_CountBetween.tab1 : rtab .any (opsOf Tryz.f6 1) = impl_CountBetween.T1 := by kernel_rfl
theorem impl_CountBetween.bits1 : waitsOk impl_CountBetween.T1.2 impl_CountBetween.B1 = true := by kernel_rfl
def impl_CountBetween.T3 : Bool × List (List Nat × List Nat) := (true, [([], []), ([0], [0]), ([], []), ([2, 1], [2]), ([1, 3], [1, 3]), ([4], [4]), ([5, 3, 0, 1, 2, 3, 4, 5], [5]), ([6, 0, 1, 2, 3, 4, 5, 6], [])])
def impl_CountBetween.B3 : List Nat := [0, 1, 0, 7, 15, 31, 63, 127]
theorem impl_CountBetween.tab3 : rtab .any (opsOf Tryz.f6 3) = impl_CountBetween.T3 := by kernel_rfl
theorem impl_CountBetween.bits3 : waitsOk impl_CountBetween.T3.2 impl_CountBetween.B3 = true := by kernel_rfl
set_option maxHeartbeats 8000000 in
set_option maxRecDepth 100000 in
theorem impl_CountBetween.calls (k : Nat) (a0_0 : Int) (a0_1 : Int) (a1_0 : Int) (a1_1 : Int) (r1 : Int) (r2 : Bool) (w : World) (h : impl_CountBetween.f k a0_0 a0_1 a1_0 a1_1 = some (r1, r2)) :
  Calls Tryz.prog 6 #[.agg #[.int .i64 a0_0, .int .i64 a0_1], .agg #[.int .i64 a1_0, .int .i64 a1_1]] w fun e w' => e = .returned (.tuple #[.int .i64 r1, .bool r2]) ∧ Below w.heap.size w w' := by
 have hu25 := Tryz.underlying25
 have HB := Aside0.mk (Below.refl w.heap.size w)
 have H : ((impl_IsPlate.f a0_0 a0_1).bind fun t187 => (if t187 = true then ((impl_IsPlate.f a1_0 a1_1).bind fun t188 => (if t188 = true then ((impl_rankOf.f a0_0 a0_1).bind fun t189 => ((impl_rankOf.f a1_0 a1_1).bind fun t190 => (impl_CountBetween.j0 k (decide (t189 ≥ t190)) a0_0 a0_1 a1_0 a1_1))) else (impl_CountBetween.j0 k true a0_0 a0_1 a1_0 a1_1))) else (impl_CountBetween.j0 k true a0_0 a0_1 a1_0 a1_1))) = some (r1, r2) := h
 clear h
 have HC3 := Aside0.mk H
 clear H
 go_enter Tryz.func6, Tryz.ntmps6
 go_upto_region 1 with (first | (refine bx_ 2 #[.int .i64 a0_0, .int .i64 a0_1] 25 ?_; intro gb185 hg w4 BK185 hb; have GW185 := gW_ (w := w) hg; replace HB := bT_ hb; clear hb hg) | (refine bx_ 3 #[.int .i64 a1_0, .int .i64 a1_1] 25 ?_; intro gb186 hg w5 BK186 hb; have GW186 := gW_ (w := w) hg; replace HB := bT_ hb; have NB185_186 := Aside0.mk ((by rw [hg]; exact Nat.ne_of_lt (blk_lt (g := gb185) aO_) : gb185 ≠ gb186)); have NB186_185 := Aside0.mk ((by rw [hg]; exact Nat.ne_of_gt (blk_lt (g := gb185) aO_) : gb186 ≠ gb185)); replace BK185 := bB_ (g := gb185) hb; clear hb hg))
 (try simp only [sp_])
 go_cut [20] (fun v20 wc => ∃ (kq : Nat) (x20_2 : Bool), v20 = .bool x20_2 ∧ Aside0 (impl_CountBetween.j0 kq x20_2 a0_0 a0_1 a1_0 a1_1 = some (r1, r2)) ∧ Aside0 (kq ≤ k) ∧ Aside0 (wc.heap[gb185]? = some (.cells #[.int .i64 a0_0, .int .i64 a0_1] 25 (0, 0))) ∧ Aside0 (wc.heap[gb186]? = some (.cells #[.int .i64 a1_0, .int .i64 a1_1] 25 (0, 0))) ∧ Aside0 (Below w.heap.size w wc))
 case first =>
  have H := HC3.out
  clear HC3
  obtain ⟨t187, A6, H⟩ := obA H
  by_cases c7 : t187 = true
  ·subst c7
   rw [if_pos rfl] at H
   obtain ⟨t188, A8, H⟩ := obA H
   by_cases c9 : t188 = true
   ·subst c9
    rw [if_pos rfl] at H
    obtain ⟨t189, A10, H⟩ := obA H
    obtain ⟨t190, A11, H⟩ := obA H
    have H' := Aside0.mk H
    clear H
    try go_wp2
    replace BK185 := Aside0.mk (blk_drew BK185.out)
    replace BK186 := Aside0.mk (blk_drew BK186.out)
    replace HB := Aside0.mk (below_drew1 HB.out)
    refine start_ (n := 15) (S := fun w' => w'.cell? ⟨gb185, 0, none⟩ = some (.int .i64 a0_0) ∧ w'.cell? ⟨gb185, 1, none⟩ = some (.int .i64 a0_1) ∧ w'.cell? ⟨gb186, 0, none⟩ = some (.int .i64 a1_0) ∧ w'.cell? ⟨gb186, 1, none⟩ = some (.int .i64 a1_1)) (ds := []) M3_0 (by kernel_rfl) rfl rfl ⟨(blk_cell BK185.out 0).trans rfl, (blk_cell BK185.out 1).trans rfl, (blk_cell BK186.out 0).trans rfl, (blk_cell BK186.out 1).trans rfl⟩ (fun hHeld => ?_); refine with_tabW impl_CountBetween.tab1 impl_CountBetween.bits1 (fun HT_ HW_ => ?_)
    generalize w5.drew = w12 at BK185 BK186 HB hHeld ⊢
    refine ta_ 0 6 M3_1 ?_
    refine on_ 1 (some 7) M3_2 fun K hK => ?_
    refine gS_ Tryz.func16 #[.agg #[.int .i64 a0_0, .int .i64 a0_1]] ?_
    with_reducible refine (impl_IsPlate.calls a0_0 a0_1 true _ A6.out).mono ?_
    rintro e w13 ⟨rfl, hb⟩
    refine ⟨_, rfl, ?_⟩
    replace BK185 := bB_ (g := gb185) hb
    replace BK186 := bB_ (g := gb186) hb
    replace HB := bT_ hb
    refine hS_ hK fun hHeld => ?_
    clear hK K
    refine nm_ ?_
    refine pu_ 2 8 M3_3 ?_
    refine pu_ 3 9 M3_4 ?_
    refine ta_ 4 10 M3_5 ?_
    refine on_ 5 (some 11) M3_6 fun K hK => ?_
    refine gS_ Tryz.func16 #[.agg #[.int .i64 a1_0, .int .i64 a1_1]] ?_
    with_reducible refine (impl_IsPlate.calls a1_0 a1_1 true _ A8.out).mono ?_
    rintro e w14 ⟨rfl, hb⟩
    refine ⟨_, rfl, ?_⟩
    replace BK185 := bB_ (g := gb185) hb
    replace BK186 := bB_ (g := gb186) hb
    replace HB := bT_ hb
    refine hS_ hK fun hHeld => ?_
    clear hK K
    refine nm_ ?_
    refine pu_ 6 12 M3_7 ?_
    refine pu_ 7 13 M3_8 ?_
    refine pu_ 8 14 M3_9 ?_
    refine ta_ 9 15 M3_10 ?_
    refine ta_ 11 17 M3_11 ?_
    refine on_ 10 (some 16) M3_12 fun K hK => ?_
    refine gS_ Tryz.func38 #[.agg #[.int .i64 a0_0, .int .i64 a0_1]] ?_
    with_reducible refine (impl_rankOf.calls a0_0 a0_1 t189 _ A10.out).mono ?_
    rintro e w15 ⟨rfl, hb⟩
    refine ⟨_, rfl, ?_⟩
    replace BK185 := bB_ (g := gb185) hb
    replace BK186 := bB_ (g := gb186) hb
    replace HB := bT_ hb
    refine hS_ hK fun hHeld => ?_
    clear hK K
    refine nm_ ?_
    refine on_ 12 (some 18) M3_13 fun K hK => ?_
    refine gS_ Tryz.func38 #[.agg #[.int .i64 a1_0, .int .i64 a1_1]] ?_
    with_reducible refine (impl_rankOf.calls a1_0 a1_1 t190 _ A11.out).mono ?_
    rintro e w16 ⟨rfl, hb⟩
    refine ⟨_, rfl, ?_⟩
    replace BK185 := bB_ (g := gb185) hb
    replace BK186 := bB_ (g := gb186) hb
    replace HB := bT_ hb
    refine hS_ hK fun hHeld => ?_
    clear hK K
    refine nm_ ?_
    refine pu_ 13 19 M3_14 ?_
    refine pu_ 14 20 M3_15 ?_
    refine done_ (done_of HT_.out (by kernel_rfl)) ?_
    try go_wp2
    go_meet
    case rel => exact ⟨_, (decide (t189 ≥ t190)), rfl, H', ⟨by first | omega | exact Nat.le_refl _⟩, ⟨by exact BK185.out⟩, ⟨by exact BK186.out⟩, ⟨bO_⟩⟩
   ·replace c9 := Bool.eq_false_iff.mpr c9
    subst c9
    rw [if_neg (show ¬ (false = true) by decide)] at H
    have H' := Aside0.mk H
    clear H
    try go_wp2
    replace BK185 := Aside0.mk (blk_drew BK185.out)
    replace BK186 := Aside0.mk (blk_drew BK186.out)
    replace HB := Aside0.mk (below_drew1 HB.out)
    refine start_ (n := 15) (S := fun w' => w'.cell? ⟨gb185, 0, none⟩ = some (.int .i64 a0_0) ∧ w'.cell? ⟨gb185, 1, none⟩ = some (.int .i64 a0_1) ∧ w'.cell? ⟨gb186, 0, none⟩ = some (.int .i64 a1_0) ∧ w'.cell? ⟨gb186, 1, none⟩ = some (.int .i64 a1_1)) (ds := []) M3_0 (by kernel_rfl) rfl rfl ⟨(blk_cell BK185.out 0).trans rfl, (blk_cell BK185.out 1).trans rfl, (blk_cell BK186.out 0).trans rfl, (blk_cell BK186.out 1).trans rfl⟩ (fun hHeld => ?_); refine with_tabW impl_CountBetween.tab1 impl_CountBetween.bits1 (fun HT_ HW_ => ?_)
    generalize w5.drew = w17 at BK185 BK186 HB hHeld ⊢
    refine ta_ 0 6 M3_1 ?_
    refine on_ 1 (some 7) M3_2 fun K hK => ?_
    refine gS_ Tryz.func16 #[.agg #[.int .i64 a0_0, .int .i64 a0_1]] ?_
    with_reducible refine (impl_IsPlate.calls a0_0 a0_1 true _ A6.out).mono ?_
    rintro e w18 ⟨rfl, hb⟩
    refine ⟨_, rfl, ?_⟩
    replace BK185 := bB_ (g := gb185) hb
    replace BK186 := bB_ (g := gb186) hb
    replace HB := bT_ hb
    refine hS_ hK fun hHeld => ?_
    clear hK K
    refine nm_ ?_
    refine pu_ 2 8 M3_3 ?_
    refine pu_ 3 9 M3_4 ?_
    refine ta_ 4 10 M3_5 ?_
    refine on_ 5 (some 11) M3_6 fun K hK => ?_
    refine gS_ Tryz.func16 #[.agg #[.int .i64 a1_0, .int .i64 a1_1]] ?_
    with_reducible refine (impl_IsPlate.calls a1_0 a1_1 false _ A8.out).mono ?_
    rintro e w19 ⟨rfl, hb⟩
    refine ⟨_, rfl, ?_⟩
    replace BK185 := bB_ (g := gb185) hb
    replace BK186 := bB_ (g := gb186) hb
    replace HB := bT_ hb
    refine hS_ hK fun hHeld => ?_
    clear hK K
    refine nm_ ?_
    refine pu_ 6 12 M3_7 ?_
    refine pu_ 7 13 M3_8 ?_
    refine pu_ 8 14 M3_9 ?_
    refine pure_ (i := 9) (N := some 15) (v := undef) (a' := ?_) M3_10 rfl rfl (any_of HT_.out (by kernel_rfl)) (fun _ _ _ h => h) (Or.inr ⟨by rfl, rfl⟩) ?_ ?_
    rotate_left
    ·simp only [sp_]
     rfl
    refine pure_ (i := 10) (N := some 16) (v := undef) (a' := ?_) M3_16 rfl rfl (any_of HT_.out (by kernel_rfl)) (fun _ _ _ h => h) (Or.inr ⟨by rfl, rfl⟩) ?_ ?_
    rotate_left
    ·simp only [sp_]
     rfl
    refine pure_ (i := 11) (N := some 17) (v := undef) (a' := ?_) M3_12 rfl rfl (any_of HT_.out (by kernel_rfl)) (fun _ _ _ h => h) (Or.inr ⟨by rfl, rfl⟩) ?_ ?_
    rotate_left
    ·simp only [sp_]
     rfl
    refine pure_ (i := 12) (N := some 18) (v := undef) (a' := ?_) M3_13 rfl rfl (any_of HT_.out (by kernel_rfl)) (fun _ _ _ h => h) (Or.inr ⟨by rfl, rfl⟩) ?_ ?_
    rotate_left
    ·simp only [sp_]
     rfl
    refine pure_ (i := 13) (N := some 19) (v := undef) (a' := ?_) M3_14 rfl rfl (any_of HT_.out (by kernel_rfl)) (fun _ _ _ h => h) (Or.inr ⟨by rfl, rfl⟩) ?_ ?_
    rotate_left
    ·simp only [sp_]
     rfl
    refine pu_ 14 20 M3_15 ?_
    refine done_ (done_of HT_.out (by kernel_rfl)) ?_
    try go_wp2
    go_meet
    case rel => exact ⟨_, (true), rfl, H', ⟨by first | omega | exact Nat.le_refl _⟩, ⟨by exact BK185.out⟩, ⟨by exact BK186.out⟩, ⟨bO_⟩⟩
  ·replace c7 := Bool.eq_false_iff.mpr c7
   subst c7
   rw [if_neg (show ¬ (false = true) by decide)] at H
   have H' := Aside0.mk H
   clear H
   try go_wp2
   replace BK185 := Aside0.mk (blk_drew BK185.out)
   replace BK186 := Aside0.mk (blk_drew BK186.out)
   replace HB := Aside0.mk (below_drew1 HB.out)
   refine start_ (n := 15) (S := fun w' => w'.cell? ⟨gb185, 0, none⟩ = some (.int .i64 a0_0) ∧ w'.cell? ⟨gb185, 1, none⟩ = some (.int .i64 a0_1)) (ds := []) M3_0 (by kernel_rfl) rfl rfl ⟨(blk_cell BK185.out 0).trans rfl, (blk_cell BK185.out 1).trans rfl⟩ (fun hHeld => ?_); refine with_tabW impl_CountBetween.tab1 impl_CountBetween.bits1 (fun HT_ HW_ => ?_)
   generalize w5.drew = w20 at BK185 BK186 HB hHeld ⊢
   refine ta_ 0 6 M3_1 ?_
   refine on_ 1 (some 7) M3_2 fun K hK => ?_
   refine gS_ Tryz.func16 #[.agg #[.int .i64 a0_0, .int .i64 a0_1]] ?_
   with_reducible refine (impl_IsPlate.calls a0_0 a0_1 false _ A6.out).mono ?_
   rintro e w21 ⟨rfl, hb⟩
   refine ⟨_, rfl, ?_⟩
   replace BK185 := bB_ (g := gb185) hb
   replace BK186 := bB_ (g := gb186) hb
   replace HB := bT_ hb
   refine hS_ hK fun hHeld => ?_
   clear hK K
   refine nm_ ?_
   refine pu_ 2 8 M3_3 ?_
   refine pu_ 3 9 M3_4 ?_
   refine pure_ (i := 4) (N := some 10) (v := undef) (a' := ?_) M3_5 rfl rfl (any_of HT_.out (by kernel_rfl)) (fun _ _ _ h => h) (Or.inr ⟨by rfl, rfl⟩) ?_ ?_
   rotate_left
   ·simp only [sp_]
    rfl
   refine pure_ (i := 5) (N := some 11) (v := undef) (a' := ?_) M3_6 rfl rfl (any_of HT_.out (by kernel_rfl)) (fun _ _ _ h => h) (Or.inr ⟨by rfl, rfl⟩) ?_ ?_
   rotate_left
   ·simp only [sp_]
    rfl
   refine pure_ (i := 6) (N := some 12) (v := undef) (a' := ?_) M3_7 rfl rfl (any_of HT_.out (by kernel_rfl)) (fun _ _ _ h => h) (Or.inr ⟨by rfl, rfl⟩) ?_ ?_
   rotate_left
   ·simp only [sp_]
    rfl
   refine pu_ 7 13 M3_8 ?_
   refine pu_ 8 14 M3_9 ?_
   refine pure_ (i := 9) (N := some 15) (v := undef) (a' := ?_) M3_10 rfl rfl (any_of HT_.out (by kernel_rfl)) (fun _ _ _ h => h) (Or.inr ⟨by rfl, rfl⟩) ?_ ?_
   rotate_left
   ·simp only [sp_]
    rfl
   refine pure_ (i := 10) (N := some 16) (v := undef) (a' := ?_) M3_16 rfl rfl (any_of HT_.out (by kernel_rfl)) (fun _ _ _ h => h) (Or.inr ⟨by rfl, rfl⟩) ?_ ?_
   rotate_left
   ·simp only [sp_]
    rfl
   refine pure_ (i := 11) (N := some 17) (v := undef) (a' := ?_) M3_12 rfl rfl (any_of HT_.out (by kernel_rfl)) (fun _ _ _ h => h) (Or.inr ⟨by rfl, rfl⟩) ?_ ?_
   rotate_left
   ·simp only [sp_]
    rfl
   refine pure_ (i := 12) (N := some 18) (v := undef) (a' := ?_) M3_13 rfl rfl (any_of HT_.out (by kernel_rfl)) (fun _ _ _ h => h) (Or.inr ⟨by rfl, rfl⟩) ?_ ?_
   rotate_left
   ·simp only [sp_]
    rfl
   refine pure_ (i := 13) (N := some 19) (v := undef) (a' := ?_) M3_14 rfl rfl (any_of HT_.out (by kernel_rfl)) (fun _ _ _ h => h) (Or.inr ⟨by rfl, rfl⟩) ?_ ?_
   rotate_left
   ·simp only [sp_]
    rfl
   refine pu_ 14 20 M3_15 ?_
   refine done_ (done_of HT_.out (by kernel_rfl)) ?_
   try go_wp2
   go_meet
   case rel => exact ⟨_, (true), rfl, H', ⟨by first | omega | exact Nat.le_refl _⟩, ⟨by exact BK185.out⟩, ⟨by exact BK186.out⟩, ⟨bO_⟩⟩
 case rest =>
  clear HC3
  try clear c1
  try clear p2
  try clear c3
  try clear c6
  try clear c7
  try clear c9
  try clear c16
  obtain ⟨kq, x20_2, rfl, HA, HJ2, BK185, BK186, HB⟩ := hcut
  cases kq with
  | zero => exact absurd HA.out (by simp [impl_CountBetween.j0])
  | succ kj2 =>
   have H := HA.out
   clear HA
   simp only [impl_CountBetween.j0] at H
   by_cases c22 : x20_2 = true
   ·subst c22
    rw [if_pos rfl] at H
    simp only [Option.some.injEq, Prod.mk.injEq] at H
    obtain ⟨rfl, rfl⟩ := H
    go_wp2
    go_ret2
    exact ⟨rfl, bO_⟩
   ·replace c22 := Bool.eq_false_iff.mpr c22
    subst c22
    rw [if_neg (show ¬ (false = true) by decide)] at H
    obtain ⟨t191, A23, H⟩ := obA H
    obtain ⟨t192, A24, H⟩ := obA H
    simp only [Option.some.injEq, Prod.mk.injEq] at H
    obtain ⟨rfl, rfl⟩ := H
    try go_wp2
    replace BK185 := Aside0.mk (blk_drew BK185.out)
    replace BK186 := Aside0.mk (blk_drew BK186.out)
    replace HB := Aside0.mk (below_drew1 HB.out)
    refine start_ (n := 8) (S := fun w' => w'.cell? ⟨gb186, 0, none⟩ = some (.int .i64 a1_0) ∧ w'.cell? ⟨gb186, 1, none⟩ = some (.int .i64 a1_1) ∧ w'.cell? ⟨gb185, 0, none⟩ = some (.int .i64 a0_0) ∧ w'.cell? ⟨gb185, 1, none⟩ = some (.int .i64 a0_1)) (ds := []) M3_17 (by kernel_rfl) rfl rfl ⟨(blk_cell BK186.out 0).trans rfl, (blk_cell BK186.out 1).trans rfl, (blk_cell BK185.out 0).trans rfl, (blk_cell BK185.out 1).trans rfl⟩ (fun hHeld => ?_); refine with_tabW impl_CountBetween.tab3 impl_CountBetween.bits3 (fun HT_ HW_ => ?_)
    generalize wc.drew = w25 at BK185 BK186 HB hHeld ⊢
    refine ta_ 0 21 M3_18 ?_
    refine ta_ 2 23 M3_19 ?_
    refine on_ 1 (some 22) M3_20 fun K hK => ?_
    refine gS_ Tryz.func38 #[.agg #[.int .i64 a1_0, .int .i64 a1_1]] ?_
    with_reducible refine (impl_rankOf.calls a1_0 a1_1 t191 _ A23.out).mono ?_
    rintro e w26 ⟨rfl, hb⟩
    refine ⟨_, rfl, ?_⟩
    replace BK185 := bB_ (g := gb185) hb
    replace BK186 := bB_ (g := gb186) hb
    replace HB := bT_ hb
    refine hS_ hK fun hHeld => ?_
    clear hK K
    refine nm_ ?_
    refine on_ 3 (some 24) M3_21 fun K hK => ?_
    refine gS_ Tryz.func38 #[.agg #[.int .i64 a0_0, .int .i64 a0_1]] ?_
    with_reducible refine (impl_rankOf.calls a0_0 a0_1 t192 _ A24.out).mono ?_
    rintro e w27 ⟨rfl, hb⟩
    refine ⟨_, rfl, ?_⟩
    replace BK185 := bB_ (g := gb185) hb
    replace BK186 := bB_ (g := gb186) hb
    replace HB := bT_ hb
    refine hS_ hK fun hHeld => ?_
    clear hK K
    refine nm_ ?_
    refine pu_ 4 25 M3_22 ?_
    refine pu_ 5 26 M3_23 ?_
    refine pu_ 6 4 M3_24 ?_
    refine pu_ 7 5 M3_25 ?_
    refine done_ (done_of HT_.out (by kernel_rfl)) ?_
    try go_wp2
    go_ret2
    exact ⟨rfl, bO_⟩

/-! ### spec_l1In: function 61 -/
def spec_l1In.f (a0 : Int) (a1 : Int) (a2 : Int) : Option (Bool) := if a0 ≥ a1 then (some (decide (a0 ≤ a2))) else (some false)
set_option maxHeartbeats 8000000 in
set_option maxRecDepth 100000 in
theorem spec_l1In.calls (a0 : Int) (a1 : Int) (a2 : Int) (r : Bool) (w : World) (h : spec_l1In.f a0 a1 a2 = some r) :
  Calls Tryz.prog 61 #[.int .i64 a0, .int .i64 a1, .int .i64 a2] w fun e w' => e = .returned (.bool r) ∧ Drawn0 w w' := by
 have H : (if a0 ≥ a1 then (some (decide (a0 ≤ a2))) else (some false)) = some r := h
 clear h
 by_cases c4 : a0 ≥ a1
 ·rw [if_pos c4] at H
  replace c4 := decide_eq_true c4
  obtain rfl := Option.some.inj H
  go_enter Tryz.func61, Tryz.ntmps61
  go_wp2
  go_ret
  exact ⟨by first | rfl | (simp; done) | (simp [*]; done), by repeat (first | exact Drawn0.refl _ | apply Drawn0.step)⟩
 ·rw [if_neg c4] at H
  replace c4 := decide_eq_false c4
  obtain rfl := Option.some.inj H
  go_enter Tryz.func61, Tryz.ntmps61
  go_wp2
  go_ret
  exact ⟨by first | rfl | (simp; done) | (simp [*]; done), by repeat (first | exact Drawn0.refl _ | apply Drawn0.step)⟩

/-! ### spec_isPlate: function 39 -/
def spec_isPlate.f (a0_0 : Int) (a0_1 : Int) : Option (Bool) := (spec_l1In.f a0_0 1 9999).bind fun t194 => (if t194 = true then ((spec_l1In.f a0_1 0 26).bind fun t195 => (some t195)) else (some false))
set_option maxHeartbeats 8000000 in
set_option maxRecDepth 100000 in
theorem spec_isPlate.calls (a0_0 : Int) (a0_1 : Int) (r : Bool) (w : World) (h : spec_isPlate.f a0_0 a0_1 = some r) :
  Calls Tryz.prog 39 #[.agg #[.int .i64 a0_0, .int .i64 a0_1]] w fun e w' => e = .returned (.bool r) ∧ Below w.heap.size w w' := by
 have hu25 := Tryz.underlying25
 have HB := Aside0.mk (Below.refl w.heap.size w)
 have H : ((spec_l1In.f a0_0 1 9999).bind fun t194 => (if t194 = true then ((spec_l1In.f a0_1 0 26).bind fun t195 => (some t195)) else (some false))) = some r := h
 clear h
 obtain ⟨t194, A2, H⟩ := obA H
 by_cases c3 : t194 = true
 ·subst c3
  rw [if_pos rfl] at H
  obtain ⟨t195, A4, H⟩ := obA H
  obtain rfl := Option.some.inj H
  go_enter Tryz.func39, Tryz.ntmps39
  go_wp2_with (first | (refine bx_ 1 #[.int .i64 a0_0, .int .i64 a0_1] 25 ?_; intro gb193 hg w5 BK193 hb; have GW193 := gW_ (w := w) hg; replace HB := bT_ hb; clear hb hg; have hcz6_0 : w5.cell? ⟨gb193, 0, none⟩ = some (.int .i64 a0_0) := (blk_cell BK193.out 0).trans rfl; have hcz6_1 : w5.cell? ⟨gb193, 1, none⟩ = some (.int .i64 a0_1) := (blk_cell BK193.out 1).trans rfl; have hfz6_0 := blk_frozen BK193.out 0; have hfz6_1 := blk_frozen BK193.out 1) | (refine gL_ Tryz.func61 (some 5) #[.int .i64 a0_0, .int .i64 1, .int .i64 9999] ?_; (with_reducible refine (spec_l1In.calls a0_0 1 9999 true _ A2.out).mono ?_); rintro e w' ⟨rfl, ⟨nd, rfl⟩⟩; refine ⟨_, rfl, ?_⟩) | (go_at_call 61; (with_reducible refine (spec_l1In.calls a0_1 0 26 t195 _ A4.out).mono ?_); rintro e w' ⟨rfl, ⟨nd, rfl⟩⟩))
  go_ret
  exact ⟨rfl, bO_⟩
 ·replace c3 := Bool.eq_false_iff.mpr c3
  subst c3
  rw [if_neg (show ¬ (false = true) by decide)] at H
  obtain rfl := Option.some.inj H
  go_enter Tryz.func39, Tryz.ntmps39
  go_wp2_with (first | (refine bx_ 1 #[.int .i64 a0_0, .int .i64 a0_1] 25 ?_; intro gb193 hg w7 BK193 hb; have GW193 := gW_ (w := w) hg; replace HB := bT_ hb; clear hb hg; have hcz8_0 : w7.cell? ⟨gb193, 0, none⟩ = some (.int .i64 a0_0) := (blk_cell BK193.out 0).trans rfl; have hcz8_1 : w7.cell? ⟨gb193, 1, none⟩ = some (.int .i64 a0_1) := (blk_cell BK193.out 1).trans rfl; have hfz8_0 := blk_frozen BK193.out 0; have hfz8_1 := blk_frozen BK193.out 1) | (refine gL_ Tryz.func61 (some 5) #[.int .i64 a0_0, .int .i64 1, .int .i64 9999] ?_; (with_reducible refine (spec_l1In.calls a0_0 1 9999 false _ A2.out).mono ?_); rintro e w' ⟨rfl, ⟨nd, rfl⟩⟩; refine ⟨_, rfl, ?_⟩))
  go_ret
  exact ⟨rfl, bO_⟩

/-! ### spec_isRank: function 40 -/
def spec_isRank.f (a0_0 : Int) (a0_1 : Int) : Option (Int) := some (wrap64 ((wrap64 (27 * a0_0)) + a0_1))
set_option maxHeartbeats 8000000 in
set_option maxRecDepth 100000 in
theorem spec_isRank.calls (a0_0 : Int) (a0_1 : Int) (r : Int) (w : World) (h : spec_isRank.f a0_0 a0_1 = some r) :
  Calls Tryz.prog 40 #[.agg #[.int .i64 a0_0, .int .i64 a0_1]] w fun e w' => e = .returned (.int .i64 r) ∧ Below w.heap.size w w' := by
 have hu25 := Tryz.underlying25
 have HB := Aside0.mk (Below.refl w.heap.size w)
 have H : (some (wrap64 ((wrap64 (27 * a0_0)) + a0_1))) = some r := h
 clear h
 obtain rfl := Option.some.inj H
 go_enter Tryz.func40, Tryz.ntmps40
 go_wp2_with (first | (refine bx_ 1 #[.int .i64 a0_0, .int .i64 a0_1] 25 ?_; intro gb196 hg w2 BK196 hb; have GW196 := gW_ (w := w) hg; replace HB := bT_ hb; clear hb hg; have hcz3_0 : w2.cell? ⟨gb196, 0, none⟩ = some (.int .i64 a0_0) := (blk_cell BK196.out 0).trans rfl; have hcz3_1 : w2.cell? ⟨gb196, 1, none⟩ = some (.int .i64 a0_1) := (blk_cell BK196.out 1).trans rfl; have hfz3_0 := blk_frozen BK196.out 0; have hfz3_1 := blk_frozen BK196.out 1))
 go_ret
 exact ⟨rfl, bO_⟩

end Go.Proofs.YtbnhfipcjbnknaaGreatDoor.PFnPlatesOrder
