/- Functions that the law FnPlatesInserted reaches, each as a Lean function, and that the Go code comes to just these answers (written by programs). -/
import Derived.Test.YtbnhfipcjbnknaaPFnPlatesInsertedx0
import Derived.Test.YtbnhfipcjbnknaaPFnPlatesInsertedx1
import Derived.Test.YtbnhfipcjbnknaaPFnPlatesInsertedx3
import Derived.Test.YtbnhfipcjbnknaaPFnPlatesInsertedx5
import Derived.Test.YtbnhfipcjbnknaaPFnPlatesInsertedx6
import Derived.Test.YtbnhfipcjbnknaaPFnPlatesInsertedx9
import Derived.Test.YtbnhfipcjbnknaaPFnPlatesInsertedx10
namespace Go.Proofs.Ytbnhfipcjbnknaa.PFnPlatesInserted
open Go.RowKit Go.Proofs.YtbnhfipcjbnknaaW.PrintWords Go.Proofs.YtbnhfipcjbnknaaW.PrintLast Go.Proofs.YtbnhfipcjbnknaaW.PrintMore
attribute [local go_sem] max2_int min2_int max_two min_two max_three min_three max_four min_four   -- for this text's walks alone
set_option linter.unusedVariables false
set_option linter.unusedSimpArgs false

attribute [local go_sem high] eqA26
abbrev M14_0 : Array Bool := #[false, false, false, false, false, false, false, false, false, false, false, false, false]
abbrev M14_1 : Array Bool := #[false, true, false, false, false, false, false, false, false, false, false, false, false]
abbrev M14_2 : Array Bool := #[false, true, true, false, false, false, false, false, false, false, false, false, false]
abbrev M14_3 : Array Bool := #[false, true, true, true, false, false, false, false, false, false, false, false, false]
abbrev M14_4 : Array Bool := #[false, true, true, true, false, false, true, false, false, false, false, false, false]
abbrev M14_5 : Array Bool := #[false, true, true, true, false, false, true, true, false, false, false, false, false]
abbrev M14_6 : Array Bool := #[false, true, true, true, false, false, true, true, true, false, false, false, false]
abbrev M14_7 : Array Bool := #[true, true, true, true, true, true, true, true, true, false, false, false, false]
abbrev M14_8 : Array Bool := #[true, true, true, true, false, false, true, true, true, false, false, false, false]
abbrev M14_9 : Array Bool := #[false, true, true, true, false, true, true, true, true, false, false, false, false]
abbrev M14_10 : Array Bool := #[true, true, true, true, true, false, true, true, true, false, false, false, false]
abbrev M14_11 : Array Bool := #[true, true, true, true, false, true, true, true, true, false, false, false, false]
abbrev M14_12 : Array Bool := #[true, true, true, true, true, true, true, true, true, true, false, false, false]
abbrev M14_13 : Array Bool := #[true, true, true, true, true, true, true, true, true, true, true, false, false]
abbrev M14_14 : Array Bool := #[true, true, true, true, true, true, true, true, true, true, true, true, false]
abbrev M14_15 : Array Bool := #[true, true, true, true, true, true, true, true, true, true, true, true, true]
/-! ### spec_PartPlates: function 11 -/
def spec_PartPlates.j0 : Nat → List (S26) → Bool → Int → Int → Option ((List (S26)) × (List (S26)) × Bool)
 | 0, _, _, _, _ => none
 | k + 1, x0, x16, x379000, x379001 => if x16 = true then (some (([] : List (S26)), ([] : List (S26)), false)) else ((spec_isPlace.f k x0 x379000 x379001).bind fun bt381 => (if bt381.1 = 0 then (some (([] : List (S26)), ([] : List (S26)), false)) else (if bt381.1 = (x0.length : Int) then (some (([] : List (S26)), ([] : List (S26)), false)) else ((some (([] : List (S26)) : List (S26))).bind fun y383 => (if 0 ≤ bt381.1 then (if bt381.1 ≤ (x0.length : Int) then ((some (x0.take (bt381.1 : Int).toNat : List (S26))).bind fun y386 => (if y383.length + y386.length < 8796093022208 then ((some (([] : List (S26)) : List (S26))).bind fun y393 => ((some (x0.drop (bt381.1 : Int).toNat : List (S26))).bind fun y396 => (if y393.length + y396.length < 8796093022208 then (some ((y383 ++ y386), (y393 ++ y396), true)) else (none)))) else (none))) else (none)) else (none))))))
def spec_PartPlates.f (k : Nat) (l0 : List (S26)) (a1_0 : Int) (a1_1 : Int) : Option ((List (S26)) × (List (S26)) × Bool) := (spec_isGood.f k l0).bind fun t379 => (if t379 = true then ((spec_isPlate.f a1_0 a1_1).bind fun t380 => (spec_PartPlates.j0 k l0 (!t380) a1_0 a1_1)) else (spec_PartPlates.j0 k l0 true a1_0 a1_1))
def spec_PartPlates.T6 : Bool × List (List Nat × List Nat) := (true, [([], []), ([], []), ([], []), ([1, 2], [1, 2]), ([0, 3], [0, 3]), ([], []), ([], []), ([], []), ([6, 7], [6, 7]), ([5, 8, 4], [5, 8]), ([4, 9, 0, 1, 2, 3, 4], [4]), ([9, 10, 0, 1, 2, 3, 4, 5, 6, 7, 8, 9, 10], [9]), ([11, 0, 1, 2, 3, 4, 5, 6, 7, 8, 9, 10, 11], [])])
def spec_PartPlates.B6 : List Nat := [0, 0, 0, 6, 15, 0, 0, 0, 192, 511, 1023, 2047, 4095]
theorem spec_PartPlates.tab6 : rtab .any (opsOf Try.f11 6) = spec_PartPlates.T6 := by kernel_rfl
theorem spec_PartPlates.bits6 : waitsOk spec_PartPlates.T6.2 spec_PartPlates.B6 = true := by kernel_rfl
set_option maxHeartbeats 8000000 in
set_option maxRecDepth 100000 in
theorem spec_PartPlates.calls (k : Nat) (A0 : Option Addr) (c0 : Nat) (l0 : List (S26)) (a1_0 : Int) (a1_1 : Int) (r1 : List (S26)) (r2 : List (S26)) (r3 : Bool) (w : World) (hr0 : Kd.C k26 w A0 l0.length l0) (hc0 : l0.length ≤ c0) (h : spec_PartPlates.f k l0 a1_0 a1_1 = some (r1, r2, r3)) :
  Calls Try.prog 11 #[.slice A0 l0.length c0, .agg #[.int .i64 a1_0, .int .i64 a1_1]] w fun e w' => ∃ v0_ v1_ : Value, e = .returned (.tuple #[v0_, v1_, .bool r3]) ∧ Kd.R k26 26 w' w.heap.size (fun k_ => some k_ ≠ (v1_ : Value).ownBlock) v0_ r1 ∧ Kd.R k26 26 w' w.heap.size (fun k_ => some k_ ≠ (v0_ : Value).ownBlock) v1_ r2 ∧ Below w.heap.size w w' := by
 have hu26 := Try.underlying26
 have HR0 := Aside0.mk hr0
 have HC0 := Aside0.mk hc0
 clear hr0 hc0
 have HB := Aside0.mk (Below.refl w.heap.size w)
 have H : ((spec_isGood.f k l0).bind fun t379 => (if t379 = true then ((spec_isPlate.f a1_0 a1_1).bind fun t380 => (spec_PartPlates.j0 k l0 (!t380) a1_0 a1_1)) else (spec_PartPlates.j0 k l0 true a1_0 a1_1))) = some (r1, r2, r3) := h
 clear h
 have HC3 := Aside0.mk H
 clear H
 go_enter Try.func11, Try.ntmps11
 go_upto_region 1 with (first | ((with_reducible refine gate_dst (N := 3) rfl ?_); (try (refine gate_guard (by rfl) ?_; dsimp only)); refine box_event ?hg (N := 3) ?hd (cs := #[.int .i64 a1_0, .int .i64 a1_1]) (t := 26) ?hr ?_; (case hd => rfl); (case hg => rfl); (case hr => go_simp <;> rfl); intro gb378 hg w4 hbox hb; have BK378 := Aside0.mk (hbox); have GW378 := Aside0.mk ((by rw [hg]; exact (below_size HB.out) : w.heap.size ≤ gb378)); have GE378 := GW378; replace HB := Aside0.mk (below_step HB.out hb); clear hb hbox hg))
 (try simp only [sp_])
 go_cut [16] (fun v16 wc => ∃ (kq : Nat) (x16_2 : Bool), v16 = .bool x16_2 ∧ Aside0 (spec_PartPlates.j0 kq l0 x16_2 a1_0 a1_1 = some (r1, r2, r3)) ∧ Aside0 (kq ≤ k) ∧ Aside0 (wc.heap[gb378]? = some (.cells #[.int .i64 a1_0, .int .i64 a1_1] 26 (0, 0))) ∧ Aside0 (Below w.heap.size w wc))
 case first =>
  have H := HC3.out
  clear HC3
  replace H := Option.bind_eq_some_iff.mp H
  obtain ⟨t379, A50, H⟩ := H

  have A5 := Aside0.mk A50
  clear A50
  by_cases c6 : t379 = true
  ·subst c6
   rw [if_pos rfl] at H
   replace H := Option.bind_eq_some_iff.mp H
   obtain ⟨t380, A70, H⟩ := H

   have A7 := Aside0.mk A70
   clear A70
   have H' := Aside0.mk H
   clear H
   go_wp2_with (first | ((with_reducible refine gate_callee (f := 34) rfl ?_); refine goesL_ (some 10) rfl rfl Try.func34 (by kernel_rfl) rfl #[.slice A0 l0.length c0] rfl (by (try simp only [List.map_toArray, List.map_cons, List.map_nil]); first | done | rfl | (simp only [List.length_drop, List.length_take]; rfl)) ?_; (with_reducible refine (spec_isGood.calls k _ _ l0 true _ ?side1 ?side2 A5.out).mono ?_); (case side1 => exact (Kd.C_below HR0.out HB.out)); (case side2 => exact HC0.out); rintro e w8 ⟨rfl, hb⟩; refine ⟨_, rfl, ?_⟩; replace BK378 := Aside0.mk (blk_below (g := gb378) (o := .cells #[.int .i64 a1_0, .int .i64 a1_1] 26 (0, 0)) (by (with_reducible repeat (first | refine blk_drewN ?_ _ | refine blk_drew ?_ | refine blk_alloc ?_ _)); exact BK378.out) hb); replace HB := Aside0.mk (below_step (by repeat first | exact HB.out | apply below_alloc | apply pw_below_drewN | apply below_drew1 | refine below_set ?_ GE378.out) hb); have hcz9_0 : w8.cell? ⟨gb378, 0, none⟩ = some (.int .i64 a1_0) := (blk_cell BK378.out 0).trans rfl; have hcz9_1 : w8.cell? ⟨gb378, 1, none⟩ = some (.int .i64 a1_1) := (blk_cell BK378.out 1).trans rfl; have hfz9_0 := blk_frozen BK378.out 0; have hfz9_1 := blk_frozen BK378.out 1) | (go_at_call 35; (with_reducible refine (spec_isPlate.calls a1_0 a1_1 t380 _ A7.out).mono ?_); rintro e w10 ⟨rfl, hb⟩; replace BK378 := Aside0.mk (blk_below (g := gb378) (o := .cells #[.int .i64 a1_0, .int .i64 a1_1] 26 (0, 0)) (by (with_reducible repeat (first | refine blk_drewN ?_ _ | refine blk_drew ?_ | refine blk_alloc ?_ _)); exact BK378.out) hb); replace HB := Aside0.mk (below_step (by repeat first | exact HB.out | apply below_alloc | apply pw_below_drewN | apply below_drew1 | refine below_set ?_ GE378.out) hb)))
   go_meet
   case rel => exact ⟨_, (!t380), rfl, H', ⟨by first | omega | exact Nat.le_refl _⟩, ⟨by exact BK378.out⟩, ⟨HB.out⟩⟩
  ·replace c6 := Bool.eq_false_iff.mpr c6
   subst c6
   rw [if_neg (show ¬ (false = true) by decide)] at H
   have H' := Aside0.mk H
   clear H
   go_wp2_with (first | ((with_reducible refine gate_callee (f := 34) rfl ?_); refine goesL_ (some 10) rfl rfl Try.func34 (by kernel_rfl) rfl #[.slice A0 l0.length c0] rfl (by (try simp only [List.map_toArray, List.map_cons, List.map_nil]); first | done | rfl | (simp only [List.length_drop, List.length_take]; rfl)) ?_; (with_reducible refine (spec_isGood.calls k _ _ l0 false _ ?side1 ?side2 A5.out).mono ?_); (case side1 => exact (Kd.C_below HR0.out HB.out)); (case side2 => exact HC0.out); rintro e w11 ⟨rfl, hb⟩; refine ⟨_, rfl, ?_⟩; replace BK378 := Aside0.mk (blk_below (g := gb378) (o := .cells #[.int .i64 a1_0, .int .i64 a1_1] 26 (0, 0)) (by (with_reducible repeat (first | refine blk_drewN ?_ _ | refine blk_drew ?_ | refine blk_alloc ?_ _)); exact BK378.out) hb); replace HB := Aside0.mk (below_step (by repeat first | exact HB.out | apply below_alloc | apply pw_below_drewN | apply below_drew1 | refine below_set ?_ GE378.out) hb)))
   go_meet
   case rel => exact ⟨_, (true), rfl, H', ⟨by first | omega | exact Nat.le_refl _⟩, ⟨by exact BK378.out⟩, ⟨HB.out⟩⟩
 case rest =>
  clear HC3
  try clear c1
  try clear p2
  try clear c3
  try clear c6
  try clear c11
  try clear hcz9_0
  try clear hcz9_1
  try clear hfz9_0
  try clear hfz9_1
  obtain ⟨kq, x16_2, rfl, HA, HJ2, BK378, HB⟩ := hcut
  cases kq with
  | zero => exact absurd HA.out (by simp [spec_PartPlates.j0])
  | succ kj2 =>
   have H := HA.out
   clear HA
   simp only [spec_PartPlates.j0] at H
   by_cases c12 : x16_2 = true
   ·subst c12
    rw [if_pos rfl] at H
    simp only [Option.some.injEq, Prod.mk.injEq] at H
    obtain ⟨rfl, rfl, rfl⟩ := H
    go_wp2
    go_ret3
    exact ⟨_, _, rfl, Kd.R_nil _ _ _ _ _, Kd.R_nil _ _ _ _ _, HB.out⟩
   ·replace c12 := Bool.eq_false_iff.mpr c12
    subst c12
    rw [if_neg (show ¬ (false = true) by decide)] at H
    replace H := Option.bind_eq_some_iff.mp H
    obtain ⟨⟨t381, t382⟩, A130, H⟩ := H

    have A13 := Aside0.mk A130
    clear A130
    by_cases c14 : t381 = 0
    ·rw [if_pos c14] at H
     have c14b0 : (t381 == 0) = true := beq_iff_eq.mpr c14
     have c14b1 : (t381 != 0) = false := bne_eq_false_iff_eq.mpr c14
     clear c14
     simp only [Option.some.injEq, Prod.mk.injEq] at H
     obtain ⟨rfl, rfl, rfl⟩ := H
     have hcz15_0 : wc.cell? ⟨gb378, 0, none⟩ = some (.int .i64 a1_0) := (blk_cell BK378.out 0).trans rfl
     have hcz15_1 : wc.cell? ⟨gb378, 1, none⟩ = some (.int .i64 a1_1) := (blk_cell BK378.out 1).trans rfl
     have hfz15_0 := blk_frozen BK378.out 0
     have hfz15_1 := blk_frozen BK378.out 1
     go_wp2_with (first | ((with_reducible refine gate_callee (f := 38) rfl ?_); refine goesL_ (some 20) rfl rfl Try.func38 (by kernel_rfl) rfl #[.slice A0 l0.length c0, .agg #[.int .i64 a1_0, .int .i64 a1_1]] rfl (by (try simp only [List.map_toArray, List.map_cons, List.map_nil]); first | done | rfl | (simp only [List.length_drop, List.length_take]; rfl)) ?_; (with_reducible refine (spec_isPlace.calls kj2 _ _ l0 a1_0 a1_1 t381 t382 _ ?side1 ?side2 A13.out).mono ?_); (case side1 => exact (Kd.C_below HR0.out HB.out)); (case side2 => exact HC0.out); rintro e w16 ⟨rfl, hb⟩; refine ⟨_, rfl, ?_⟩; replace BK378 := Aside0.mk (blk_below (g := gb378) (o := .cells #[.int .i64 a1_0, .int .i64 a1_1] 26 (0, 0)) (by (with_reducible repeat (first | refine blk_drewN ?_ _ | refine blk_drew ?_ | refine blk_alloc ?_ _)); exact BK378.out) hb); replace HB := Aside0.mk (below_step (by repeat first | exact HB.out | apply below_alloc | apply pw_below_drewN | apply below_drew1 | refine below_set ?_ GE378.out) hb)))
     go_ret3
     exact ⟨_, _, rfl, Kd.R_nil _ _ _ _ _, Kd.R_nil _ _ _ _ _, HB.out⟩
    ·rw [if_neg c14] at H
     have c14b0 : (t381 == 0) = false := beq_eq_false_iff_ne.mpr c14
     have c14b1 : (t381 != 0) = true := bne_iff_ne.mpr c14
     by_cases c17 : t381 = (l0.length : Int)
     ·rw [if_pos c17] at H
      have c17b0 : (t381 == (l0.length : Int)) = true := beq_iff_eq.mpr c17
      have c17b1 : (t381 != (l0.length : Int)) = false := bne_eq_false_iff_eq.mpr c17
      clear c17
      simp only [Option.some.injEq, Prod.mk.injEq] at H
      obtain ⟨rfl, rfl, rfl⟩ := H
      have hcz18_0 : wc.cell? ⟨gb378, 0, none⟩ = some (.int .i64 a1_0) := (blk_cell BK378.out 0).trans rfl
      have hcz18_1 : wc.cell? ⟨gb378, 1, none⟩ = some (.int .i64 a1_1) := (blk_cell BK378.out 1).trans rfl
      have hfz18_0 := blk_frozen BK378.out 0
      have hfz18_1 := blk_frozen BK378.out 1
      go_wp2_with (first | ((with_reducible refine gate_callee (f := 38) rfl ?_); refine goesL_ (some 20) rfl rfl Try.func38 (by kernel_rfl) rfl #[.slice A0 l0.length c0, .agg #[.int .i64 a1_0, .int .i64 a1_1]] rfl (by (try simp only [List.map_toArray, List.map_cons, List.map_nil]); first | done | rfl | (simp only [List.length_drop, List.length_take]; rfl)) ?_; (with_reducible refine (spec_isPlace.calls kj2 _ _ l0 a1_0 a1_1 t381 t382 _ ?side1 ?side2 A13.out).mono ?_); (case side1 => exact (Kd.C_below HR0.out HB.out)); (case side2 => exact HC0.out); rintro e w19 ⟨rfl, hb⟩; refine ⟨_, rfl, ?_⟩; replace BK378 := Aside0.mk (blk_below (g := gb378) (o := .cells #[.int .i64 a1_0, .int .i64 a1_1] 26 (0, 0)) (by (with_reducible repeat (first | refine blk_drewN ?_ _ | refine blk_drew ?_ | refine blk_alloc ?_ _)); exact BK378.out) hb); replace HB := Aside0.mk (below_step (by repeat first | exact HB.out | apply below_alloc | apply pw_below_drewN | apply below_drew1 | refine below_set ?_ GE378.out) hb)))
      go_ret3
      exact ⟨_, _, rfl, Kd.R_nil _ _ _ _ _, Kd.R_nil _ _ _ _ _, HB.out⟩
     ·rw [if_neg c17] at H
      have c17b0 : (t381 == (l0.length : Int)) = false := beq_eq_false_iff_ne.mpr c17
      have c17b1 : (t381 != (l0.length : Int)) = true := bne_iff_ne.mpr c17
      obtain ⟨y383, hy383⟩ : ∃ y_ : List (S26), y_ = (([] : List (S26))) := ⟨_, rfl⟩
      replace H : (if 0 ≤ t381 then (if t381 ≤ (l0.length : Int) then ((some (l0.take (t381 : Int).toNat : List (S26))).bind fun y386 => (if y383.length + y386.length < 8796093022208 then ((some (([] : List (S26)) : List (S26))).bind fun y393 => ((some (l0.drop (t381 : Int).toNat : List (S26))).bind fun y396 => (if y393.length + y396.length < 8796093022208 then (some ((y383 ++ y386), (y393 ++ y396), true)) else (none)))) else (none))) else (none)) else (none)) = some (r1, r2, r3) := by first | (rw [hy383]; with_reducible exact H) | (have H2_ := (Option.bind_some _ _).symm.trans H; rw [hy383]; with_reducible exact H2_) | (have H2_ := (Option.bind_some _ _).symm.trans H; with_reducible exact H2_) | with_reducible exact H | (rw [hy383]; exact H) | exact H
      have Ny383 := Aside0.mk hy383
      clear hy383
      by_cases c20 : 0 ≤ t381
      ·rw [if_pos c20] at H
       have c20b0 := eq_true c20
       have c20b1 : decide (0 ≤ t381) = true := decide_eq_true c20
       clear c20
       by_cases c21 : t381 ≤ (l0.length : Int)
       ·rw [if_pos c21] at H
        have c21b0 := eq_true c21
        have c21b1 : decide (t381 ≤ (l0.length : Int)) = true := decide_eq_true c21
        clear c21
        obtain ⟨y386, hy386⟩ : ∃ y_ : List (S26), y_ = (l0.take (t381 : Int).toNat) := ⟨_, rfl⟩
        replace H : (if y383.length + y386.length < 8796093022208 then ((some (([] : List (S26)) : List (S26))).bind fun y393 => ((some (l0.drop (t381 : Int).toNat : List (S26))).bind fun y396 => (if y393.length + y396.length < 8796093022208 then (some ((y383 ++ y386), (y393 ++ y396), true)) else (none)))) else (none)) = some (r1, r2, r3) := by first | (rw [hy386]; with_reducible exact H) | (have H2_ := (Option.bind_some _ _).symm.trans H; rw [hy386]; with_reducible exact H2_) | (have H2_ := (Option.bind_some _ _).symm.trans H; with_reducible exact H2_) | with_reducible exact H | (rw [hy386]; exact H) | exact H
        have Ny386 := Aside0.mk hy386
        clear hy386
        by_cases c22 : y383.length + y386.length < 8796093022208
        ·rw [if_pos c22] at H
         have LMc22 := Aside0.mk c22
         clear c22
         obtain ⟨y390, hy390⟩ : ∃ y_ : List (S26), y_ = (y383 ++ y386) := ⟨_, rfl⟩
         rw [← hy390] at H
         have Ny390 := Aside0.mk hy390
         clear hy390
         obtain ⟨y393, hy393⟩ : ∃ y_ : List (S26), y_ = (([] : List (S26))) := ⟨_, rfl⟩
         rw [← hy393] at H
         have Ny393 := Aside0.mk hy393
         clear hy393
         have c23b0 := eq_true (of_decide_eq_true (by first | (with_reducible assumption) | assumption) : 0 ≤ t381)
         have c24b0 := eq_true (of_decide_eq_true (by first | (with_reducible assumption) | assumption) : t381 ≤ (l0.length : Int))
         obtain ⟨y396, hy396⟩ : ∃ y_ : List (S26), y_ = (l0.drop (t381 : Int).toNat) := ⟨_, rfl⟩
         replace H : (if y393.length + y396.length < 8796093022208 then (some (y390, (y393 ++ y396), true)) else (none)) = some (r1, r2, r3) := by first | (rw [hy396]; with_reducible exact H) | (have H2_ := (Option.bind_some _ _).symm.trans H; rw [hy396]; with_reducible exact H2_) | (have H2_ := (Option.bind_some _ _).symm.trans H; with_reducible exact H2_) | with_reducible exact H | (rw [hy396]; exact H) | exact H
         have Ny396 := Aside0.mk hy396
         clear hy396
         by_cases c25 : y393.length + y396.length < 8796093022208
         ·rw [if_pos c25] at H
          have LMc25 := Aside0.mk c25
          clear c25
          obtain ⟨y400, hy400⟩ : ∃ y_ : List (S26), y_ = (y393 ++ y396) := ⟨_, rfl⟩
          rw [← hy400] at H
          have Ny400 := Aside0.mk hy400
          clear hy400
          simp only [Option.some.injEq, Prod.mk.injEq] at H
          obtain ⟨rfl, rfl, rfl⟩ := H
          have hcz26_0 : wc.cell? ⟨gb378, 0, none⟩ = some (.int .i64 a1_0) := (blk_cell BK378.out 0).trans rfl
          have hcz26_1 : wc.cell? ⟨gb378, 1, none⟩ = some (.int .i64 a1_1) := (blk_cell BK378.out 1).trans rfl
          have hfz26_0 := blk_frozen BK378.out 0
          have hfz26_1 := blk_frozen BK378.out 1
          try go_wp2_with (first | ((with_reducible refine gate_callee (f := 38) rfl ?_); refine goesL_ (some 20) rfl rfl Try.func38 (by kernel_rfl) rfl #[.slice A0 l0.length c0, .agg #[.int .i64 a1_0, .int .i64 a1_1]] rfl (by (try simp only [List.map_toArray, List.map_cons, List.map_nil]); first | done | rfl | (simp only [List.length_drop, List.length_take]; rfl)) ?_; (with_reducible refine (spec_isPlace.calls kj2 _ _ l0 a1_0 a1_1 t381 t382 _ ?side1 ?side2 A13.out).mono ?_); (case side1 => exact (Kd.C_below HR0.out HB.out)); (case side2 => exact HC0.out); rintro e w27 ⟨rfl, hb⟩; refine ⟨_, rfl, ?_⟩; replace BK378 := Aside0.mk (blk_below (g := gb378) (o := .cells #[.int .i64 a1_0, .int .i64 a1_1] 26 (0, 0)) (by (with_reducible repeat (first | refine blk_drewN ?_ _ | refine blk_drew ?_ | refine blk_alloc ?_ _)); exact BK378.out) hb); replace HB := Aside0.mk (below_step (by repeat first | exact HB.out | apply below_alloc | apply pw_below_drewN | apply below_drew1 | refine below_set ?_ GE378.out) hb)))
          replace BK378 := Aside0.mk (blk_drew BK378.out)
          replace HB := Aside0.mk (below_drew1 HB.out)
          have q29 : (t381 : Int) ≤ ((l0.length : Int) : Int) := of_decide_eq_true (by assumption)
          obtain ⟨i029, hi029, _, hsz29, _⟩ := info_parts info26
          have hroom29 : l0.length ≤ c0 := HC0.out
          have hC29 : Kd.C k26 _ A0 l0.length l0 := HR0.out
          have hcut29 := cut_to (P := Try.prog) 24 26 .i64 Try.underlying24 hi029 A0 l0.length c0 t381 (of_decide_eq_true (by assumption)) q29 hroom29
          have hr29 := Kd.C_take (m := (t381 : Int).toNat) hC29 (by omega)
          have hy29 : y386.length = (t381 : Int).toNat := (by rw [Ny386.out, List.length_take]; omega)
          rw [← Ny386.out] at hr29
          rw [← hy29] at hcut29
          have HR389 := Aside0.mk hr29
          have HC389 := Aside0.mk (show y386.length ≤ c0 from by omega)
          clear hr29 hC29 hroom29 hi029 hsz29
          have KY29 := Aside0.mk hy29
          clear hy29
          replace q29 := eq_true q29
          have q30 : (t381 : Int) ≤ ((l0.length : Int) : Int) := of_decide_eq_true (by assumption)
          obtain ⟨i030, hi030, _, hsz30, _⟩ := info_parts info26
          have hroom30 : l0.length ≤ c0 := HC0.out
          have hC30 : Kd.C k26 _ A0 l0.length l0 := HR0.out
          have q030 : (0 : Int) ≤ (t381 : Int) := of_decide_eq_true (by assumption)
          have hcut30 := cut_from (P := Try.prog) 24 26 .i64 Try.underlying24 hi030 2 hsz30 A0 l0.length c0 t381 q030 q30
          have hr30 := Kd.C_drop (m := (t381 : Int).toNat) (c := c0) hC30 (by omega) hroom30
          obtain ⟨A30, hA30⟩ : ∃ A1, A1 = (if c0 = (t381 : Int).toNat then A0 else (A0 : Option Addr).map (·.add ((t381 : Int).toNat * 2))) := ⟨_, rfl⟩
          obtain ⟨c30, hc30⟩ : ∃ c1, c1 = c0 - (t381 : Int).toNat := ⟨_, rfl⟩
          have hy30 : y396.length = l0.length - (t381 : Int).toNat := (by rw [Ny396.out, List.length_drop] <;> omega)
          rw [show (l0).drop (t381 : Int).toNat = y396 from Ny396.out.symm] at hr30
          replace hr30 : Kd.C k26 _ A30 y396.length y396 := (by rw [hA30]; exact hr30)
          rw [← hy30, ← hA30, ← hc30] at hcut30
          have HR399 := Aside0.mk hr30
          have HC399 := Aside0.mk (show y396.length ≤ c30 from by rw [hy30, hc30]; exact Nat.sub_le_sub_right hroom30 _)
          clear hr30 hC30 hroom30 hi030 hsz30 hc30
          have KY30 := Aside0.mk hy30
          have KA30 := Aside0.mk hA30
          clear hy30 hA30
          replace q30 := eq_true q30
          refine start_ (n := 13) (S := fun w' => True) (ds := []) M14_0 (by kernel_rfl) rfl rfl trivial (fun hHeld => ?_); refine with_tabW spec_PartPlates.tab6 spec_PartPlates.bits6 (fun HT_ HW_ => ?_)
          generalize w27.drew = w28 at BK378 HB HR389 HR399 hHeld ⊢
          refine pure_ (i := 1) (N := some 32) (v := ?_) (a' := ?_) M14_1 rfl rfl (any_of HT_.out (by kernel_rfl)) (fun _ _ _ h => h) (Or.inl ⟨by rfl, ?_⟩) ?_ ?_
          rotate_left
          ·intro w'
           go_simp
           with_reducible rfl
          rotate_left
          ·simp only [sp_]
           rfl
          refine pure_ (i := 2) (N := some 33) (v := ?_) (a' := ?_) M14_2 rfl rfl (any_of HT_.out (by kernel_rfl)) (fun _ _ _ h => h) (Or.inl ⟨by rfl, ?_⟩) ?_ ?_
          rotate_left
          ·intro w'
           go_simp
           with_reducible rfl
          rotate_left
          ·simp only [sp_]
           rfl
          refine pure_ (i := 3) (N := some 34) (v := ?_) (a' := ?_) M14_3 rfl rfl (any_of HT_.out (by kernel_rfl)) (fun _ _ _ h => h) (Or.inl ⟨by rfl, ?_⟩) ?_ ?_
          rotate_left
          ·intro w'
           go_simp
           with_reducible rfl
          rotate_left
          ·simp only [sp_]
           rfl
          refine pure_ (i := 6) (N := some 37) (v := ?_) (a' := ?_) M14_4 rfl rfl (any_of HT_.out (by kernel_rfl)) (fun _ _ _ h => h) (Or.inl ⟨by rfl, ?_⟩) ?_ ?_
          rotate_left
          ·intro w'
           go_simp
           with_reducible rfl
          rotate_left
          ·simp only [sp_]
           rfl
          refine pure_ (i := 7) (N := some 38) (v := ?_) (a' := ?_) M14_5 rfl rfl (any_of HT_.out (by kernel_rfl)) (fun _ _ _ h => h) (Or.inl ⟨by rfl, ?_⟩) ?_ ?_
          rotate_left
          ·intro w'
           go_simp
           with_reducible rfl
          rotate_left
          ·simp only [sp_]
           rfl
          refine pure_ (i := 8) (N := some 39) (v := ?_) (a' := ?_) M14_6 rfl rfl (any_of HT_.out (by kernel_rfl)) (fun _ _ _ h => h) (Or.inl ⟨by rfl, ?_⟩) ?_ ?_
          rotate_left
          ·intro w'
           go_simp
           with_reducible rfl
          rotate_left
          ·simp only [sp_]
           rfl
          refine join_ (σ := Value × Value × Value) 4 M14_7 (fun s_ => [(31, s_.1), (35, s_.2.1), (36, s_.2.2)]) (fun s_ w' => (Kd.R k26 26 w' w.heap.size (fun k_ => some k_ ≠ (s_.2.2 : Value).ownBlock ∧ k_ ≠ gb378) s_.2.1 y390) ∧ (Kd.R k26 26 w' w.heap.size (fun k_ => some k_ ≠ (s_.2.1 : Value).ownBlock ∧ k_ ≠ gb378) s_.2.2 y393) ∧ (w'.heap[gb378]? = some (.cells #[.int .i64 a1_0, .int .i64 a1_1] 26 (0, 0))) ∧ (Below w.heap.size w w')) ?_ ?_
          rotate_left
          ·intro hCont
           refine two_ (i := 0) (j := 5) (Ni := some 31) (Nj := some 36) M14_8 M14_9 rfl rfl rfl rfl (two_of HT_.out (by kernel_rfl)) (by decide) (by decide) (fun K hK => ?_) (fun K hK => ?_)
           ·skip
            refine Kd.R_lit_step k26 _ 26 ?hg (N := 31) ?hd (xs := ([] : List (S26))) (inner := []) (ok := fun _ => True) (okp := fun _ => True) ?hr ?hp (fun _ hk => hk) trivial (Below.refl _ _) (Nat.le_refl _) (by simp) ?_; (case hd => rfl); (case hg => rfl); (case hr => go_simp <;> rfl); (case hp => exact (Reps.none _ _))
            intro v384 w31 ho32 hb hg_ hnew_
            clear hg_ hnew_
            (first | rw [← Ny383.out] at ho32 | (simp only [Int.reduceToNat] at ho32; rw [← Ny383.out] at ho32))
            have HO385 := Aside0.mk (Kd.R_lower (Kd.R_newB ho32 (g := gb378) (o := .cells #[.int .i64 a1_0, .int .i64 a1_1] 26 (0, 0)) BK378.out) (below_size HB.out))
            replace BK378 := Aside0.mk (blk_below (g := gb378) (o := .cells #[.int .i64 a1_0, .int .i64 a1_1] 26 (0, 0)) BK378.out hb)
            replace HB := Aside0.mk (below_step HB.out hb)
            clear hb ho32
            refine hK.out _ _ trivial (fun hHeld => ?_)
            clear hK K
            refine norm_ (a' := ?_) ?_ ?_
            rotate_left
            ·show Act.put _ (some 31) _ = _
             simp only [sp_]
             rfl
            refine two_ (i := 4) (j := 5) (Ni := some 35) (Nj := some 36) M14_10 M14_11 rfl rfl rfl rfl (two_of HT_.out (by kernel_rfl)) (by decide) (by decide) (fun K hK => ?_) (fun K hK => ?_)
            ·skip
             refine Kd.R_append_rows_step k26 (w0 := w) w.heap.size (by rfl) (.tmp 31) (.tmp 34) 24 26 (.agg #[(.int .i64 0), (.int .i64 0)]) 16 rfl Try.underlying24 info26 rfl (by decide) (by omega) v384 y383 y386 _ _ _ (fun k_ => k_ ≠ gb378) (fun _ => False) rfl rfl ?aO ?aR (fun _ _ h => h) (fun _ h => h.elim) ?aF ?aB ?aS ?aL ?_
             (case aR => exact (Kd.C_below HR389.out HB.out))
             (case aB => exact HB.out)
             (case aF => exact (fun k_ hk => Kd.freshB (g := gb378) (o := .cells #[.int .i64 a1_0, .int .i64 a1_1] 26 (0, 0)) BK378.out k_ hk))
             (case aO => exact (by exact Kd.R_mono HO385.out (fun _ hk => by first | exact hk.2 | (simp only [and_assoc] at hk; simp only [hk]; done) | (simp only [and_assoc] at hk; simp [hk]; done) | simp_all)))
             (case aS => exact (below_size HB.out))
             (case aL => have := LMc22.out; omega)
             intro v391 w33 ho hb hg hat
             rw [← Ny390.out] at ho
             have n0_ := Aside0.mk (blk_grown (g := gb378) (o := .cells #[.int .i64 a1_0, .int .i64 a1_1] 26 (0, 0)) BK378.out hg (Kd.R_away HO385.out (fun _ hk => by first | exact hk.2 | (simp only [and_assoc] at hk; simp only [hk]; done) | (simp only [and_assoc] at hk; simp [hk]; done) | simp_all)))
             have n1_ := Aside0.mk (hb)
             have n2_ := Aside0.mk (ho)
             clear BK378 HB HO385
             have BK378 := n0_
             have HB := n1_
             have HO392 := n2_
             clear n0_ n1_ n2_
             clear ho hb hg hat
             refine hK.out _ _ trivial (fun hHeld => ?_)
             clear hK K
             refine norm_ (a' := ?_) ?_ ?_
             rotate_left
             ·show Act.put _ (some 35) _ = _
              simp only [sp_]
              rfl
             refine one_ (i := 5) (N := some 36) M14_7 rfl rfl (one_of HT_.out (by kernel_rfl)) (by decide) (fun K hK => ?_)
             refine Kd.R_lit_step k26 _ 26 ?hg (N := 36) ?hd (xs := ([] : List (S26))) (inner := []) (ok := fun _ => True) (okp := fun _ => True) ?hr ?hp (fun _ hk => hk) trivial (Below.refl _ _) (Nat.le_refl _) (by simp) ?_; (case hd => rfl); (case hg => rfl); (case hr => go_simp <;> rfl); (case hp => exact (Reps.none _ _))
             intro v394 w34 ho35 hb hg_ hnew_
             clear hg_ hnew_
             (first | rw [← Ny393.out] at ho35 | (simp only [Int.reduceToNat] at ho35; rw [← Ny393.out] at ho35))
             have HO395 := Aside0.mk (Kd.R_lower (Kd.R_newB (Kd.R_new' ho35 (Kd.R_lt HO392.out)) (g := gb378) (o := .cells #[.int .i64 a1_0, .int .i64 a1_1] 26 (0, 0)) BK378.out) (below_size HB.out))
             replace HO392 := Aside0.mk (Kd.R_elder' HO392.out (Kd.R_base ho35) hb)
             replace BK378 := Aside0.mk (blk_below (g := gb378) (o := .cells #[.int .i64 a1_0, .int .i64 a1_1] 26 (0, 0)) BK378.out hb)
             replace HB := Aside0.mk (below_step HB.out hb)
             clear hb ho35
             refine hK.out _ _ trivial (fun hHeld => ?_)
             clear hK K
             refine norm_ (a' := ?_) ?_ ?_
             rotate_left
             ·show Act.put _ (some 36) _ = _
              simp only [sp_]
              rfl
             exact norm_ (by simp only [putAll, Act.put, List.setIfInBounds_toArray, List.set_cons_zero, List.set_cons_succ]) (hCont (v384, v391, v394) _ ⟨(by exact Kd.R_mono HO392.out (fun _ hk => ⟨hk.2, hk.1⟩)), (by exact Kd.R_mono HO395.out (fun _ hk => ⟨hk.1.2, hk.2⟩)), BK378.out, HB.out⟩)
            ·skip
             refine Kd.R_lit_step k26 _ 26 ?hg (N := 36) ?hd (xs := ([] : List (S26))) (inner := []) (ok := fun _ => True) (okp := fun _ => True) ?hr ?hp (fun _ hk => hk) trivial (Below.refl _ _) (Nat.le_refl _) (by simp) ?_; (case hd => rfl); (case hg => rfl); (case hr => go_simp <;> rfl); (case hp => exact (Reps.none _ _))
             intro v394 w33 ho34 hb hg_ hnew_
             clear hg_ hnew_
             (first | rw [← Ny393.out] at ho34 | (simp only [Int.reduceToNat] at ho34; rw [← Ny393.out] at ho34))
             have HO395 := Aside0.mk (Kd.R_lower (Kd.R_newB (Kd.R_new' ho34 (Kd.R_lt HO385.out)) (g := gb378) (o := .cells #[.int .i64 a1_0, .int .i64 a1_1] 26 (0, 0)) BK378.out) (below_size HB.out))
             replace HO385 := Aside0.mk (Kd.R_elder' HO385.out (Kd.R_base ho34) hb)
             replace BK378 := Aside0.mk (blk_below (g := gb378) (o := .cells #[.int .i64 a1_0, .int .i64 a1_1] 26 (0, 0)) BK378.out hb)
             replace HB := Aside0.mk (below_step HB.out hb)
             clear hb ho34
             refine hK.out _ _ trivial (fun hHeld => ?_)
             clear hK K
             refine norm_ (a' := ?_) ?_ ?_
             rotate_left
             ·show Act.put _ (some 36) _ = _
              simp only [sp_]
              rfl
             refine one_ (i := 4) (N := some 35) M14_7 rfl rfl (one_of HT_.out (by kernel_rfl)) (by decide) (fun K hK => ?_)
             refine Kd.R_append_rows_step k26 (w0 := w) w.heap.size (by rfl) (.tmp 31) (.tmp 34) 24 26 (.agg #[(.int .i64 0), (.int .i64 0)]) 16 rfl Try.underlying24 info26 rfl (by decide) (by omega) v384 y383 y386 _ _ _ (fun k_ => some k_ ≠ (v394 : Value).ownBlock ∧ k_ ≠ gb378) (fun _ => False) rfl rfl ?aO ?aR (fun _ _ h => h) (fun _ h => h.elim) ?aF ?aB ?aS ?aL ?_
             (case aR => exact (Kd.C_below HR389.out HB.out))
             (case aB => exact HB.out)
             (case aF => exact (fun k_ hk => ⟨Kd.fresh' (Kd.R_lt HO395.out) k_ hk, Kd.freshB (g := gb378) (o := .cells #[.int .i64 a1_0, .int .i64 a1_1] 26 (0, 0)) BK378.out k_ hk⟩))
             (case aO => exact (by exact Kd.R_mono HO385.out (fun _ hk => ⟨hk.2, hk.1.2⟩)))
             (case aS => exact (below_size HB.out))
             (case aL => have := LMc22.out; omega)
             intro v391 w35 ho hb hg hat
             rw [← Ny390.out] at ho
             have n0_ := Aside0.mk (blk_grown (g := gb378) (o := .cells #[.int .i64 a1_0, .int .i64 a1_1] 26 (0, 0)) BK378.out hg (Kd.R_away HO385.out (fun _ hk => by first | exact hk.1.2 | (simp only [and_assoc] at hk; simp only [hk]; done) | (simp only [and_assoc] at hk; simp [hk]; done) | simp_all)))
             have n1_ := Aside0.mk (Kd.R_after (ok := (fun k_ => k_ ≠ gb378)) (by exact Kd.R_mono HO395.out (fun _ hk => ⟨hk.2, hk.1.2⟩)) hg hat)
             have n2_ := Aside0.mk (hb)
             have n3_ := Aside0.mk (ho)
             clear BK378 HO395 HB HO385
             have BK378 := n0_
             have HO395 := n1_
             have HB := n2_
             have HO392 := n3_
             clear n0_ n1_ n2_ n3_
             clear ho hb hg hat
             refine hK.out _ _ trivial (fun hHeld => ?_)
             clear hK K
             refine norm_ (a' := ?_) ?_ ?_
             rotate_left
             ·show Act.put _ (some 35) _ = _
              simp only [sp_]
              rfl
             exact norm_ (by simp only [putAll, Act.put, List.setIfInBounds_toArray, List.set_cons_zero, List.set_cons_succ]) (hCont (v384, v391, v394) _ ⟨HO392.out, (by exact Kd.R_mono HO395.out (fun _ hk => ⟨hk.2, hk.1⟩)), BK378.out, HB.out⟩)
           ·skip
            refine Kd.R_lit_step k26 _ 26 ?hg (N := 36) ?hd (xs := ([] : List (S26))) (inner := []) (ok := fun _ => True) (okp := fun _ => True) ?hr ?hp (fun _ hk => hk) trivial (Below.refl _ _) (Nat.le_refl _) (by simp) ?_; (case hd => rfl); (case hg => rfl); (case hr => go_simp <;> rfl); (case hp => exact (Reps.none _ _))
            intro v394 w31 ho32 hb hg_ hnew_
            clear hg_ hnew_
            (first | rw [← Ny393.out] at ho32 | (simp only [Int.reduceToNat] at ho32; rw [← Ny393.out] at ho32))
            have HO395 := Aside0.mk (Kd.R_lower (Kd.R_newB ho32 (g := gb378) (o := .cells #[.int .i64 a1_0, .int .i64 a1_1] 26 (0, 0)) BK378.out) (below_size HB.out))
            replace BK378 := Aside0.mk (blk_below (g := gb378) (o := .cells #[.int .i64 a1_0, .int .i64 a1_1] 26 (0, 0)) BK378.out hb)
            replace HB := Aside0.mk (below_step HB.out hb)
            clear hb ho32
            refine hK.out _ _ trivial (fun hHeld => ?_)
            clear hK K
            refine norm_ (a' := ?_) ?_ ?_
            rotate_left
            ·show Act.put _ (some 36) _ = _
             simp only [sp_]
             rfl
            refine one_ (i := 0) (N := some 31) M14_11 rfl rfl (one_of HT_.out (by kernel_rfl)) (by decide) (fun K hK => ?_)
            refine Kd.R_lit_step k26 _ 26 ?hg (N := 31) ?hd (xs := ([] : List (S26))) (inner := []) (ok := fun _ => True) (okp := fun _ => True) ?hr ?hp (fun _ hk => hk) trivial (Below.refl _ _) (Nat.le_refl _) (by simp) ?_; (case hd => rfl); (case hg => rfl); (case hr => go_simp <;> rfl); (case hp => exact (Reps.none _ _))
            intro v384 w33 ho34 hb hg_ hnew_
            clear hg_ hnew_
            (first | rw [← Ny383.out] at ho34 | (simp only [Int.reduceToNat] at ho34; rw [← Ny383.out] at ho34))
            have HO385 := Aside0.mk (Kd.R_lower (Kd.R_newB (Kd.R_new' ho34 (Kd.R_lt HO395.out)) (g := gb378) (o := .cells #[.int .i64 a1_0, .int .i64 a1_1] 26 (0, 0)) BK378.out) (below_size HB.out))
            replace HO395 := Aside0.mk (Kd.R_elder' HO395.out (Kd.R_base ho34) hb)
            replace BK378 := Aside0.mk (blk_below (g := gb378) (o := .cells #[.int .i64 a1_0, .int .i64 a1_1] 26 (0, 0)) BK378.out hb)
            replace HB := Aside0.mk (below_step HB.out hb)
            clear hb ho34
            refine hK.out _ _ trivial (fun hHeld => ?_)
            clear hK K
            refine norm_ (a' := ?_) ?_ ?_
            rotate_left
            ·show Act.put _ (some 31) _ = _
             simp only [sp_]
             rfl
            refine one_ (i := 4) (N := some 35) M14_7 rfl rfl (one_of HT_.out (by kernel_rfl)) (by decide) (fun K hK => ?_)
            refine Kd.R_append_rows_step k26 (w0 := w) w.heap.size (by rfl) (.tmp 31) (.tmp 34) 24 26 (.agg #[(.int .i64 0), (.int .i64 0)]) 16 rfl Try.underlying24 info26 rfl (by decide) (by omega) v384 y383 y386 _ _ _ (fun k_ => some k_ ≠ (v394 : Value).ownBlock ∧ k_ ≠ gb378) (fun _ => False) rfl rfl ?aO ?aR (fun _ _ h => h) (fun _ h => h.elim) ?aF ?aB ?aS ?aL ?_
            (case aR => exact (Kd.C_below HR389.out HB.out))
            (case aB => exact HB.out)
            (case aF => exact (fun k_ hk => ⟨Kd.fresh' (Kd.R_lt HO395.out) k_ hk, Kd.freshB (g := gb378) (o := .cells #[.int .i64 a1_0, .int .i64 a1_1] 26 (0, 0)) BK378.out k_ hk⟩))
            (case aO => exact (by exact Kd.R_mono HO385.out (fun _ hk => ⟨hk.1.2, hk.2⟩)))
            (case aS => exact (below_size HB.out))
            (case aL => have := LMc22.out; omega)
            intro v391 w35 ho hb hg hat
            rw [← Ny390.out] at ho
            have n0_ := Aside0.mk (blk_grown (g := gb378) (o := .cells #[.int .i64 a1_0, .int .i64 a1_1] 26 (0, 0)) BK378.out hg (Kd.R_away HO385.out (fun _ hk => by first | exact hk.2 | (simp only [and_assoc] at hk; simp only [hk]; done) | (simp only [and_assoc] at hk; simp [hk]; done) | simp_all)))
            have n1_ := Aside0.mk (Kd.R_after (ok := (fun k_ => k_ ≠ gb378)) (by exact Kd.R_mono HO395.out (fun _ hk => ⟨hk.1.2, hk.2⟩)) hg hat)
            have n2_ := Aside0.mk (hb)
            have n3_ := Aside0.mk (ho)
            clear BK378 HO395 HB HO385
            have BK378 := n0_
            have HO395 := n1_
            have HB := n2_
            have HO392 := n3_
            clear n0_ n1_ n2_ n3_
            clear ho hb hg hat
            refine hK.out _ _ trivial (fun hHeld => ?_)
            clear hK K
            refine norm_ (a' := ?_) ?_ ?_
            rotate_left
            ·show Act.put _ (some 35) _ = _
             simp only [sp_]
             rfl
            exact norm_ (by simp only [putAll, Act.put, List.setIfInBounds_toArray, List.set_cons_zero, List.set_cons_succ]) (hCont (v384, v391, v394) _ ⟨HO392.out, (by exact Kd.R_mono HO395.out (fun _ hk => ⟨hk.2, hk.1⟩)), BK378.out, HB.out⟩)
          rintro ⟨v384, v391, v394⟩ w36 ⟨h0_, h1_, h2_, h3_⟩
          have n0_ : Aside0 (Kd.R k26 26 w36 w.heap.size (fun k_ => some k_ ≠ (v394 : Value).ownBlock ∧ k_ ≠ gb378) v391 y390) := ⟨h0_⟩
          have n1_ : Aside0 (Kd.R k26 26 w36 w.heap.size (fun k_ => some k_ ≠ (v391 : Value).ownBlock ∧ k_ ≠ gb378) v394 y393) := ⟨h1_⟩
          have n2_ : Aside0 (w36.heap[gb378]? = some (.cells #[.int .i64 a1_0, .int .i64 a1_1] 26 (0, 0))) := ⟨h2_⟩
          have n3_ : Aside0 (Below w.heap.size w w36) := ⟨h3_⟩
          clear BK378 HB
          clear h0_ h1_ h2_ h3_
          have HO392 := n0_
          have HO395 := n1_
          have BK378 := n2_
          have HB := n3_
          clear n0_ n1_ n2_ n3_
          have hHeld := trivial
          refine norm_ (a' := ?_) ?_ ?_
          rotate_left
          ·simp only [putAll, Act.put, List.setIfInBounds_toArray, List.set_cons_zero, List.set_cons_succ]
           rfl
          refine one_ (i := 9) (N := some 40) M14_12 rfl rfl (one_of HT_.out (by kernel_rfl)) (by decide) (fun K hK => ?_)
          refine Kd.R_append_rows_step k26 (w0 := w) w.heap.size (by rfl) (.tmp 36) (.tmp 39) 24 26 (.agg #[(.int .i64 0), (.int .i64 0)]) 16 rfl Try.underlying24 info26 rfl (by decide) (by omega) v394 y393 y396 _ _ _ (fun k_ => some k_ ≠ (v391 : Value).ownBlock ∧ k_ ≠ gb378) (fun _ => False) rfl rfl ?aO ?aR (fun _ _ h => h) (fun _ h => h.elim) ?aF ?aB ?aS ?aL ?_
          (case aR => exact (Kd.C_below HR399.out HB.out))
          (case aB => exact HB.out)
          (case aF => exact (fun k_ hk => ⟨Kd.fresh' (Kd.R_lt HO392.out) k_ hk, Kd.freshB (g := gb378) (o := .cells #[.int .i64 a1_0, .int .i64 a1_1] 26 (0, 0)) BK378.out k_ hk⟩))
          (case aO => exact HO395.out)
          (case aS => exact (below_size HB.out))
          (case aL => have := LMc25.out; omega)
          intro v401 w37 ho hb hg hat
          rw [← Ny400.out] at ho
          have n0_ := Aside0.mk (blk_grown (g := gb378) (o := .cells #[.int .i64 a1_0, .int .i64 a1_1] 26 (0, 0)) BK378.out hg (Kd.R_away HO395.out (fun _ hk => by first | exact hk.2 | (simp only [and_assoc] at hk; simp only [hk]; done) | (simp only [and_assoc] at hk; simp [hk]; done) | simp_all)))
          have n1_ := Aside0.mk (Kd.R_after (ok := (fun k_ => k_ ≠ gb378)) (by exact Kd.R_mono HO392.out (fun _ hk => ⟨hk.2, hk.1⟩)) hg hat)
          have n2_ := Aside0.mk (hb)
          have n3_ := Aside0.mk (ho)
          clear BK378 HO392 HB HO395
          have BK378 := n0_
          have HO392 := n1_
          have HB := n2_
          have HO402 := n3_
          clear n0_ n1_ n2_ n3_
          clear ho hb hg hat
          refine hK.out _ _ trivial (fun hHeld => ?_)
          clear hK K
          refine norm_ (a' := ?_) ?_ ?_
          rotate_left
          ·show Act.put _ (some 40) _ = _
           simp only [sp_]
           rfl
          refine pure_ (i := 10) (N := some 4) (v := ?_) (a' := ?_) M14_13 rfl rfl (any_of HT_.out (by kernel_rfl)) (fun _ _ _ h => h) (Or.inl ⟨by rfl, ?_⟩) ?_ ?_
          rotate_left
          ·intro w'
           go_simp
           with_reducible rfl
          rotate_left
          ·simp only [sp_]
           rfl
          refine pure_ (i := 11) (N := some 5) (v := ?_) (a' := ?_) M14_14 rfl rfl (any_of HT_.out (by kernel_rfl)) (fun _ _ _ h => h) (Or.inl ⟨by rfl, ?_⟩) ?_ ?_
          rotate_left
          ·intro w'
           go_simp
           with_reducible rfl
          rotate_left
          ·simp only [sp_]
           rfl
          refine pure_ (i := 12) (N := some 6) (v := ?_) (a' := ?_) M14_15 rfl rfl (any_of HT_.out (by kernel_rfl)) (fun _ _ _ h => h) (Or.inl ⟨by rfl, ?_⟩) ?_ ?_
          rotate_left
          ·intro w'
           go_simp
           with_reducible rfl
          rotate_left
          ·simp only [sp_]
           rfl
          refine done_ (done_of HT_.out (by kernel_rfl)) ?_
          try go_wp2
          go_ret3
          exact ⟨_, _, rfl, by exact Kd.R_mono HO392.out (fun _ hk => by first | exact hk.2 | (simp only [and_assoc] at hk; simp only [hk]; done) | (simp only [and_assoc] at hk; simp [hk]; done) | simp_all), by exact Kd.R_mono HO402.out (fun _ hk => by first | exact hk.1 | (simp only [and_assoc] at hk; simp only [hk]; done) | (simp only [and_assoc] at hk; simp [hk]; done) | simp_all), HB.out⟩
         ·rw [if_neg c25] at H
          exact absurd H (by simp)
        ·rw [if_neg c22] at H
         exact absurd H (by simp)
       ·rw [if_neg c21] at H
        exact absurd H (by simp)
      ·rw [if_neg c20] at H
       exact absurd H (by simp)

/-! ### laws_aPlates: function 12 -/
def laws_aPlates.l0 : Nat → List (S26) → List (S26) → Int → Int → Option (Bool)
 | 0, _, _, _, _ => none
 | k + 1, x0, x1, x12, x13 => if x13 < x12 then (if 0 ≤ x13 then (if x13 < (x0.length : Int) then (if x13 < (x1.length : Int) then (if (!(((rd_T26 x0 x13).f0) == ((rd_T26 x1 x13).f0)) || (!(((rd_T26 x0 x13).f1) == ((rd_T26 x1 x13).f1)))) = true then (some false) else (laws_aPlates.l0 k x0 x1 x12 (wrap64 (x13 + 1)))) else (none)) else (none)) else (none)) else (some true)
def laws_aPlates.f (k : Nat) (l0 : List (S26)) (l1 : List (S26)) : Option (Bool) := if (l0.length : Int) = (l1.length : Int) then (laws_aPlates.l0 k l0 l1 (l0.length : Int) 0) else (some false)
set_option maxHeartbeats 8000000 in
set_option maxRecDepth 100000 in
theorem laws_aPlates.calls (k : Nat) (A0 : Option Addr) (c0 : Nat) (l0 : List (S26)) (A1 : Option Addr) (c1 : Nat) (l1 : List (S26)) (r : Bool) (w : World) (hr0 : Kd.C k26 w A0 l0.length l0) (hc0 : l0.length ≤ c0) (hr1 : Kd.C k26 w A1 l1.length l1) (hc1 : l1.length ≤ c1) (h : laws_aPlates.f k l0 l1 = some r) :
  Calls Try.prog 12 #[.slice A0 l0.length c0, .slice A1 l1.length c1] w fun e w' => e = .returned (.bool r) ∧ Drawn0 w w' := by
 have hu26 := Try.underlying26
 have HR0 := Aside0.mk hr0
 have HC0 := Aside0.mk hc0
 clear hr0 hc0
 have HR1 := Aside0.mk hr1
 have HC1 := Aside0.mk hc1
 clear hr1 hc1
 have H : (if (l0.length : Int) = (l1.length : Int) then (laws_aPlates.l0 k l0 l1 (l0.length : Int) 0) else (some false)) = some r := h
 clear h
 by_cases c3 : (l0.length : Int) = (l1.length : Int)
 ·rw [if_pos c3] at H
  have c3b0 : ((l0.length : Int) == (l1.length : Int)) = true := beq_iff_eq.mpr c3
  have c3b1 : ((l0.length : Int) != (l1.length : Int)) = false := bne_eq_false_iff_eq.mpr c3
  have c3b2 : (l0.length == l1.length) = true := by first | simpa using c3 | (simp at c3 ⊢; omega)
  clear c3
  have H' := Aside0.mk H
  clear H
  go_enter Try.func12, Try.ntmps12
  go_wp2
  repeat (go_quiet (fail); try go_wp2)
  go_loopg [13] k (fun kq v13 w' => ∃ (x13_1 : Int), v13 = .int .i64 x13_1 ∧ Aside0 (laws_aPlates.l0 kq l0 l1 (l0.length : Int) x13_1 = some r) ∧ Aside0 (kq ≤ k) ∧ Drawn0 w w')
  case atStart => exact ⟨(0), rfl, H', ⟨Nat.le_refl _⟩, by repeat (first | exact Drawn0.refl _ | apply Drawn0.step)⟩
  case round =>
   clear H'
   try clear c1
   try clear p2
   try clear c3
   try clear c3b0
   try clear c3b1
   try clear c3b2
   obtain ⟨x13_1, rfl, HA, HK1, ⟨m1, rfl⟩⟩ := hrel
   cases gk with
   | zero => exact absurd HA.out (by simp [laws_aPlates.l0])
   | succ k1 =>
    have H := HA.out
    clear HA
    simp only [laws_aPlates.l0] at H
    by_cases c4 : x13_1 < (l0.length : Int)
    ·rw [if_pos c4] at H
     have c4b0 : decide (x13_1 < (l0.length : Int)) = true := decide_eq_true c4
     clear c4
     by_cases c5 : 0 ≤ x13_1
     ·rw [if_pos c5] at H
      have c5b0 : decide (0 ≤ x13_1) = true := decide_eq_true c5
      clear c5
      by_cases c6 : x13_1 < (l0.length : Int)
      ·rw [if_pos c6] at H
       have c6b0 : decide (x13_1 < (l0.length : Int)) = true := decide_eq_true c6
       clear c6
       by_cases c7 : x13_1 < (l1.length : Int)
       ·rw [if_pos c7] at H
        have c7b0 : decide (x13_1 < (l1.length : Int)) = true := decide_eq_true c7
        clear c7
        by_cases c8 : (!(((rd_T26 l0 x13_1).f0) == ((rd_T26 l1 x13_1).f0)) || (!(((rd_T26 l0 x13_1).f1) == ((rd_T26 l1 x13_1).f1)))) = true
        ·rw [if_pos c8] at H
         have c8b0 : (!(((rd_T26 l0 x13_1).f0) == ((rd_T26 l1 x13_1).f0)) || (!(((rd_T26 l0 x13_1).f1) == ((rd_T26 l1 x13_1).f1)))) = true := c8
         clear c8
         obtain rfl := Option.some.inj H
         have p403 : 0 ≤ (x13_1 : Int) := of_decide_eq_true (by assumption)
         have q403 : x13_1 < (l0.length : Int) := of_decide_eq_true (by assumption)
         obtain ⟨ad403, e403, hx403_0, hx403_1⟩ := at_T26 HR0.out x13_1 p403 q403
         cases e403
         replace p403 := eq_true p403
         replace q403 := eq_true q403
         have p404 : 0 ≤ (x13_1 : Int) := of_decide_eq_true (by assumption)
         have q404 : x13_1 < (l1.length : Int) := of_decide_eq_true (by assumption)
         obtain ⟨ad404, e404, hx404_0, hx404_1⟩ := at_T26 HR1.out x13_1 p404 q404
         cases e404
         replace p404 := eq_true p404
         replace q404 := eq_true q404
         go_wp2
         repeat (go_quiet (fail); try go_wp2)
         go_ret
         exact ⟨by first | rfl | (simp; done) | (simp [*]; done), by repeat (first | exact Drawn0.refl _ | apply Drawn0.step)⟩
        ·rw [if_neg c8] at H
         have c8b0 : (!(((rd_T26 l0 x13_1).f0) == ((rd_T26 l1 x13_1).f0)) || (!(((rd_T26 l0 x13_1).f1) == ((rd_T26 l1 x13_1).f1)))) = false := by simpa using c8
         clear c8
         have H' := Aside0.mk H
         clear H
         have p403 : 0 ≤ (x13_1 : Int) := of_decide_eq_true (by assumption)
         have q403 : x13_1 < (l0.length : Int) := of_decide_eq_true (by assumption)
         obtain ⟨ad403, e403, hx403_0, hx403_1⟩ := at_T26 HR0.out x13_1 p403 q403
         cases e403
         replace p403 := eq_true p403
         replace q403 := eq_true q403
         have p404 : 0 ≤ (x13_1 : Int) := of_decide_eq_true (by assumption)
         have q404 : x13_1 < (l1.length : Int) := of_decide_eq_true (by assumption)
         obtain ⟨ad404, e404, hx404_0, hx404_1⟩ := at_T26 HR1.out x13_1 p404 q404
         cases e404
         replace p404 := eq_true p404
         replace q404 := eq_true q404
         go_wp2
         repeat (go_quiet (fail); try go_wp2)
         go_roundg k1
         case measure => have := HK1.out; omega
         case rel => exact ⟨(wrap64 (x13_1 + 1)), rfl, H', ⟨by have := HK1.out; omega⟩, by repeat (first | exact Drawn0.refl _ | apply Drawn0.step)⟩
       ·rw [if_neg c7] at H
        exact absurd H (by simp)
      ·rw [if_neg c6] at H
       exact absurd H (by simp)
     ·rw [if_neg c5] at H
      exact absurd H (by simp)
    ·rw [if_neg c4] at H
     have c4b0 : decide (x13_1 < (l0.length : Int)) = false := decide_eq_false c4
     clear c4
     obtain rfl := Option.some.inj H
     go_wp2
     repeat (go_quiet (fail); try go_wp2)
     go_ret
     exact ⟨by first | rfl | (simp; done) | (simp [*]; done), by repeat (first | exact Drawn0.refl _ | apply Drawn0.step)⟩
 ·rw [if_neg c3] at H
  have c3b0 : ((l0.length : Int) == (l1.length : Int)) = false := beq_eq_false_iff_ne.mpr c3
  have c3b1 : ((l0.length : Int) != (l1.length : Int)) = true := bne_iff_ne.mpr c3
  have c3b2 : (l0.length == l1.length) = false := by first | simpa using c3 | (simp at c3 ⊢; omega)
  obtain rfl := Option.some.inj H
  go_enter Try.func12, Try.ntmps12
  go_wp2
  repeat (go_quiet (fail); try go_wp2)
  go_ret
  exact ⟨by first | rfl | (simp; done) | (simp [*]; done), by repeat (first | exact Drawn0.refl _ | apply Drawn0.step)⟩

/-! ### impl_hasPlate: function 42 -/
def impl_hasPlate.f (k : Nat) (l0 : List (S26)) (a1 : Int) : Option (Bool) := (impl_ArePlates.f k l0).bind fun t405 => (if t405 = true then ((impl_within.f a1 0 (wrap64 ((l0.length : Int) - 1))).bind fun t406 => (some t406)) else (some false))
set_option maxHeartbeats 8000000 in
set_option maxRecDepth 100000 in
theorem impl_hasPlate.calls (k : Nat) (A0 : Option Addr) (c0 : Nat) (l0 : List (S26)) (a1 : Int) (r : Bool) (w : World) (hr0 : Kd.C k26 w A0 l0.length l0) (hc0 : l0.length ≤ c0) (h : impl_hasPlate.f k l0 a1 = some r) :
  Calls Try.prog 42 #[.slice A0 l0.length c0, .int .i64 a1] w fun e w' => e = .returned (.bool r) ∧ Below w.heap.size w w' := by
 have HR0 := Aside0.mk hr0
 have HC0 := Aside0.mk hc0
 clear hr0 hc0
 have HB := Aside0.mk (Below.refl w.heap.size w)
 have H : ((impl_ArePlates.f k l0).bind fun t405 => (if t405 = true then ((impl_within.f a1 0 (wrap64 ((l0.length : Int) - 1))).bind fun t406 => (some t406)) else (some false))) = some r := h
 clear h
 replace H := Option.bind_eq_some_iff.mp H
 obtain ⟨t405, A30, H⟩ := H
 replace H : (if t405 = true then ((impl_within.f a1 0 (wrap64 ((l0.length : Int) - 1))).bind fun t406 => (some t406)) else (some false)) = some r := H
 have A3 := Aside0.mk A30
 clear A30
 by_cases c4 : t405 = true
 ·subst c4
  rw [if_pos rfl] at H
  replace H := Option.bind_eq_some_iff.mp H
  obtain ⟨t406, A50, H⟩ := H
  replace H : (some t406) = some r := H
  have A5 := Aside0.mk A50
  clear A50
  obtain rfl := Option.some.inj H
  go_enter Try.func42, Try.ntmps42
  go_wp2_with (first | ((with_reducible refine gate_callee (f := 14) rfl ?_); refine goesL_ (some 6) rfl rfl Try.func14 (by kernel_rfl) rfl #[.slice A0 l0.length c0] rfl (by (try simp only [List.map_toArray, List.map_cons, List.map_nil]); first | done | rfl | (simp only [List.length_drop, List.length_take]; rfl)) ?_; (with_reducible refine (impl_ArePlates.calls k _ _ l0 true _ ?side1 ?side2 A3.out).mono ?_); (case side1 => repeat (first | exact HR0.out | (with_reducible refine Kd.C_alloc ?_ _) | (with_reducible refine Kd.C_drewN ?_ _) | (with_reducible refine Kd.C_drew ?_))); (case side2 => exact HC0.out); rintro e w6 ⟨rfl, hb⟩; refine ⟨_, rfl, ?_⟩; replace HB := Aside0.mk (below_step (by repeat first | exact HB.out | apply below_alloc | apply pw_below_drewN | apply below_drew1) hb)) | (go_at_call 45; (with_reducible refine (impl_within.calls a1 0 (wrap64 ((l0.length : Int) - 1)) t406 _ A5.out).mono ?_); rintro e w' ⟨rfl, ⟨nd, rfl⟩⟩))
  go_ret
  exact ⟨by first | rfl | (simp [errW_none, errW_some] <;> rfl) | (simp [*, errW_none, errW_some] <;> rfl), by repeat first | exact HB.out | apply below_alloc | apply pw_below_drewN | apply below_drew1⟩
 ·replace c4 := Bool.eq_false_iff.mpr c4
  subst c4
  rw [if_neg (show ¬ (false = true) by decide)] at H
  obtain rfl := Option.some.inj H
  go_enter Try.func42, Try.ntmps42
  go_wp2_with (first | ((with_reducible refine gate_callee (f := 14) rfl ?_); refine goesL_ (some 6) rfl rfl Try.func14 (by kernel_rfl) rfl #[.slice A0 l0.length c0] rfl (by (try simp only [List.map_toArray, List.map_cons, List.map_nil]); first | done | rfl | (simp only [List.length_drop, List.length_take]; rfl)) ?_; (with_reducible refine (impl_ArePlates.calls k _ _ l0 false _ ?side1 ?side2 A3.out).mono ?_); (case side1 => repeat (first | exact HR0.out | (with_reducible refine Kd.C_alloc ?_ _) | (with_reducible refine Kd.C_drewN ?_ _) | (with_reducible refine Kd.C_drew ?_))); (case side2 => exact HC0.out); rintro e w7 ⟨rfl, hb⟩; refine ⟨_, rfl, ?_⟩; replace HB := Aside0.mk (below_step (by repeat first | exact HB.out | apply below_alloc | apply pw_below_drewN | apply below_drew1) hb)))
  go_ret
  exact ⟨by first | rfl | (simp [errW_none, errW_some] <;> rfl) | (simp [*, errW_none, errW_some] <;> rfl), by repeat first | exact HB.out | apply below_alloc | apply pw_below_drewN | apply below_drew1⟩

end Go.Proofs.Ytbnhfipcjbnknaa.PFnPlatesInserted
