/- Functions that the law FnPlatesInserted reaches, each as a Lean function, and that the Go code comes to just these answers (written by programs). -/
import Derived.Test.YtbnhfipcjbnknaaPFnPlatesInsertedx0
import Derived.Test.YtbnhfipcjbnknaaPFnPlatesInsertedx5
import Derived.Test.YtbnhfipcjbnknaaPFnPlatesInsertedx6
import Derived.Test.YtbnhfipcjbnknaaPFnPlatesInsertedx7
import Derived.Test.YtbnhfipcjbnknaaPFnPlatesInsertedx12
namespace Go.Proofs.Ytbnhfipcjbnknaa.PFnPlatesInserted
open Go.RowKit Go.Proofs.YtbnhfipcjbnknaaW.PrintWords Go.Proofs.YtbnhfipcjbnknaaW.PrintLast Go.Proofs.YtbnhfipcjbnknaaW.PrintMore
attribute [local go_sem] max2_int min2_int max_two min_two max_three min_three max_four min_four   -- for this text's walks alone
set_option linter.unusedVariables false
set_option linter.unusedSimpArgs false

abbrev M13_0 : Array Bool := #[false, false, false, false, false, false, false, false, false, false, false]
abbrev M13_1 : Array Bool := #[true, false, false, false, false, false, false, false, false, false, false]
abbrev M13_2 : Array Bool := #[true, true, false, false, false, false, false, false, false, false, false]
abbrev M13_3 : Array Bool := #[true, true, true, false, false, false, false, false, false, false, false]
abbrev M13_4 : Array Bool := #[true, true, true, false, true, false, false, false, false, false, false]
abbrev M13_5 : Array Bool := #[true, true, true, false, true, true, false, false, false, false, false]
abbrev M13_6 : Array Bool := #[true, true, true, false, true, true, true, false, false, false, false]
abbrev M13_7 : Array Bool := #[true, true, true, true, true, true, true, false, false, false, false]
abbrev M13_8 : Array Bool := #[true, true, true, true, true, true, true, true, false, false, false]
abbrev M13_9 : Array Bool := #[true, true, true, true, true, true, true, true, true, false, false]
abbrev M13_10 : Array Bool := #[true, true, true, true, true, true, true, true, true, true, false]
abbrev M13_11 : Array Bool := #[true, true, true, true, true, true, true, true, true, true, true]
/-! ### impl_PartPlates: function 10 -/
mutual
def impl_PartPlates.j0 : Nat → List (S26) → Bool → Int → Int → Option ((List (S26)) × (List (S26)) × Bool)
 | 0, _, _, _, _ => none
 | k + 1, x0, x16, x360000, x360001 => if x16 = true then (some (([] : List (S26)), ([] : List (S26)), false)) else ((impl_Plate_39.f k x0 x360000 x360001 7777040).bind fun bt362 => (if bt362.1 = 0 then (impl_PartPlates.j1 k x0 bt362.1 true) else (impl_PartPlates.j1 k x0 bt362.1 (bt362.1 == (x0.length : Int)))))
def impl_PartPlates.j1 : Nat → List (S26) → Int → Bool → Option ((List (S26)) × (List (S26)) × Bool)
 | 0, _, _, _ => none
 | k + 1, x0, x7, x30 => if x30 = true then (some (([] : List (S26)), ([] : List (S26)), false)) else (if 0 ≤ x7 then (if x7 ≤ (x0.length : Int) then ((impl_Plate_41.f (x0.take (x7 : Int).toNat)).bind fun t368 => ((impl_Plate_41.f (x0.drop (x7 : Int).toNat)).bind fun t375 => (some (t368, t375, true)))) else (none)) else (none))
end
def impl_PartPlates.f (k : Nat) (l0 : List (S26)) (a1_0 : Int) (a1_1 : Int) : Option ((List (S26)) × (List (S26)) × Bool) := (impl_ArePlates.f k l0).bind fun t360 => (if t360 = true then ((impl_IsPlate.f a1_0 a1_1).bind fun t361 => (impl_PartPlates.j0 k l0 (!t361) a1_0 a1_1)) else (impl_PartPlates.j0 k l0 true a1_0 a1_1))
def impl_PartPlates.T6 : Bool × List (List Nat × List Nat) := (true, [([], []), ([], []), ([0, 1], [0, 1]), ([2], [2]), ([], []), ([], []), ([4, 5], [4, 5]), ([6, 3], [6]), ([3, 7, 0, 1, 2, 3], [3]), ([7, 8, 0, 1, 2, 3, 4, 5, 6, 7, 8], [7]), ([9, 0, 1, 2, 3, 4, 5, 6, 7, 8, 9], [])])
def impl_PartPlates.B6 : List Nat := [0, 0, 3, 7, 0, 0, 48, 127, 255, 511, 1023]
theorem impl_PartPlates.tab6 : rtab .any (opsOf Try.f10 6) = impl_PartPlates.T6 := by kernel_rfl
theorem impl_PartPlates.bits6 : waitsOk impl_PartPlates.T6.2 impl_PartPlates.B6 = true := by kernel_rfl
set_option maxHeartbeats 8000000 in
set_option maxRecDepth 100000 in
theorem impl_PartPlates.calls (k : Nat) (A0 : Option Addr) (c0 : Nat) (l0 : List (S26)) (a1_0 : Int) (a1_1 : Int) (r1 : List (S26)) (r2 : List (S26)) (r3 : Bool) (w : World) (hr0 : Kd.C k26 w A0 l0.length l0) (hc0 : l0.length ≤ c0) (h : impl_PartPlates.f k l0 a1_0 a1_1 = some (r1, r2, r3)) :
  Calls Try.prog 10 #[.slice A0 l0.length c0, .agg #[.int .i64 a1_0, .int .i64 a1_1]] w fun e w' => ∃ v0_ v1_ : Value, e = .returned (.tuple #[v0_, v1_, .bool r3]) ∧ Kd.R k26 26 w' w.heap.size (fun k_ => some k_ ≠ (v1_ : Value).ownBlock) v0_ r1 ∧ Kd.R k26 26 w' w.heap.size (fun k_ => some k_ ≠ (v0_ : Value).ownBlock) v1_ r2 ∧ Below w.heap.size w w' := by
 have hu26 := Try.underlying26
 have HR0 := Aside0.mk hr0
 have HC0 := Aside0.mk hc0
 clear hr0 hc0
 have HB := Aside0.mk (Below.refl w.heap.size w)
 have H : ((impl_ArePlates.f k l0).bind fun t360 => (if t360 = true then ((impl_IsPlate.f a1_0 a1_1).bind fun t361 => (impl_PartPlates.j0 k l0 (!t361) a1_0 a1_1)) else (impl_PartPlates.j0 k l0 true a1_0 a1_1))) = some (r1, r2, r3) := h
 clear h
 have HC3 := Aside0.mk H
 clear H
 go_enter Try.func10, Try.ntmps10
 go_upto_region 1 with (first | ((with_reducible refine gate_dst (N := 3) rfl ?_); (try (refine gate_guard (by rfl) ?_; dsimp only)); refine box_event ?hg (N := 3) ?hd (cs := #[.int .i64 a1_0, .int .i64 a1_1]) (t := 26) ?hr ?_; (case hd => rfl); (case hg => rfl); (case hr => go_simp <;> rfl); intro gb359 hg w4 hbox hb; have BK359 := Aside0.mk (hbox); have GW359 := Aside0.mk ((by rw [hg]; exact (below_size HB.out) : w.heap.size ≤ gb359)); have GE359 := GW359; replace HB := Aside0.mk (below_step HB.out hb); clear hb hbox hg))
 (try simp only [sp_])
 go_cut [16] (fun v16 wc => ∃ (kq : Nat) (x16_2 : Bool), v16 = .bool x16_2 ∧ Aside0 (impl_PartPlates.j0 kq l0 x16_2 a1_0 a1_1 = some (r1, r2, r3)) ∧ Aside0 (kq ≤ k) ∧ Aside0 (wc.heap[gb359]? = some (.cells #[.int .i64 a1_0, .int .i64 a1_1] 26 (0, 0))) ∧ Aside0 (Below w.heap.size w wc))
 case first =>
  have H := HC3.out
  clear HC3
  replace H := Option.bind_eq_some_iff.mp H
  obtain ⟨t360, A50, H⟩ := H

  have A5 := Aside0.mk A50
  clear A50
  by_cases c6 : t360 = true
  ·subst c6
   rw [if_pos rfl] at H
   replace H := Option.bind_eq_some_iff.mp H
   obtain ⟨t361, A70, H⟩ := H

   have A7 := Aside0.mk A70
   clear A70
   have H' := Aside0.mk H
   clear H
   go_wp2_with (first | ((with_reducible refine gate_callee (f := 14) rfl ?_); refine goesL_ (some 10) rfl rfl Try.func14 (by kernel_rfl) rfl #[.slice A0 l0.length c0] rfl (by (try simp only [List.map_toArray, List.map_cons, List.map_nil]); try rfl) ?_; (with_reducible refine (impl_ArePlates.calls k _ _ l0 true _ ?side1 ?side2 A5.out).mono ?_); (case side1 => exact (Kd.C_below HR0.out HB.out)); (case side2 => exact HC0.out); rintro e w8 ⟨rfl, hb⟩; refine ⟨_, rfl, ?_⟩; replace BK359 := Aside0.mk (blk_below (g := gb359) (o := .cells #[.int .i64 a1_0, .int .i64 a1_1] 26 (0, 0)) (by exact BK359.out) hb); replace HB := Aside0.mk (below_step HB.out hb); have hcz9_0 : w8.cell? ⟨gb359, 0, none⟩ = some (.int .i64 a1_0) := (blk_cell BK359.out 0).trans rfl; have hcz9_1 : w8.cell? ⟨gb359, 1, none⟩ = some (.int .i64 a1_1) := (blk_cell BK359.out 1).trans rfl; have hfz9_0 := blk_frozen BK359.out 0; have hfz9_1 := blk_frozen BK359.out 1) | (go_at_call 32; (with_reducible refine (impl_IsPlate.calls a1_0 a1_1 t361 _ A7.out).mono ?_); rintro e w10 ⟨rfl, hb⟩; replace BK359 := Aside0.mk (blk_below (g := gb359) (o := .cells #[.int .i64 a1_0, .int .i64 a1_1] 26 (0, 0)) (by exact BK359.out) hb); replace HB := Aside0.mk (below_step HB.out hb)))
   go_meet
   case rel => exact ⟨_, (!t361), rfl, H', ⟨by first | omega | exact Nat.le_refl _⟩, ⟨by exact BK359.out⟩, ⟨HB.out⟩⟩
  ·replace c6 := Bool.eq_false_iff.mpr c6
   subst c6
   rw [if_neg (show ¬ (false = true) by decide)] at H
   have H' := Aside0.mk H
   clear H
   go_wp2_with (first | ((with_reducible refine gate_callee (f := 14) rfl ?_); refine goesL_ (some 10) rfl rfl Try.func14 (by kernel_rfl) rfl #[.slice A0 l0.length c0] rfl (by (try simp only [List.map_toArray, List.map_cons, List.map_nil]); try rfl) ?_; (with_reducible refine (impl_ArePlates.calls k _ _ l0 false _ ?side1 ?side2 A5.out).mono ?_); (case side1 => exact (Kd.C_below HR0.out HB.out)); (case side2 => exact HC0.out); rintro e w11 ⟨rfl, hb⟩; refine ⟨_, rfl, ?_⟩; replace BK359 := Aside0.mk (blk_below (g := gb359) (o := .cells #[.int .i64 a1_0, .int .i64 a1_1] 26 (0, 0)) (by exact BK359.out) hb); replace HB := Aside0.mk (below_step HB.out hb)))
   go_meet
   case rel => exact ⟨_, (true), rfl, H', ⟨by first | omega | exact Nat.le_refl _⟩, ⟨by exact BK359.out⟩, ⟨HB.out⟩⟩
 case rest =>
  clear HC3
  try clear c1
  try clear p2
  try clear c6
  try clear c10
  try clear hcz9_0
  try clear hcz9_1
  try clear hfz9_0
  try clear hfz9_1
  obtain ⟨kq, x16_2, rfl, HA, HJ2, BK359, HB⟩ := hcut
  cases kq with
  | zero => exact absurd HA.out (by simp [impl_PartPlates.j0])
  | succ kj2 =>
   have H := HA.out
   clear HA
   simp only [impl_PartPlates.j0] at H
   by_cases c12 : x16_2 = true
   ·subst c12
    rw [if_pos rfl] at H
    simp only [Option.some.injEq, Prod.mk.injEq] at H
    obtain ⟨rfl, rfl, rfl⟩ := H
    go_wp2
    go_ret3
    exact ⟨_, _, rfl, Kd.R_nil _ _ _ _ _, Kd.R_nil _ _ _ _ _, HB.out⟩
   ·replace c12 := Bool.eq_false_iff.mpr c12
    subst c12
    rw [if_neg (show ¬ (false = true) by decide)] at H
    replace H := Option.bind_eq_some_iff.mp H
    obtain ⟨⟨t362, t363⟩, A130, H⟩ := H

    have A13 := Aside0.mk A130
    clear A130
    have HC14 := Aside0.mk H
    clear H
    have hcz15_0 : wc.cell? ⟨gb359, 0, none⟩ = some (.int .i64 a1_0) := (blk_cell BK359.out 0).trans rfl
    have hcz15_1 : wc.cell? ⟨gb359, 1, none⟩ = some (.int .i64 a1_1) := (blk_cell BK359.out 1).trans rfl
    have hfz15_0 := blk_frozen BK359.out 0
    have hfz15_1 := blk_frozen BK359.out 1
    go_upto_region 4 with (first | ((with_reducible refine gate_callee (f := 39) rfl ?_); refine goesL_ (some 20) rfl rfl Try.func39 (by kernel_rfl) rfl #[.slice A0 l0.length c0, .agg #[.int .i64 a1_0, .int .i64 a1_1], .func (.func 40) #[] #[]] rfl (by (try simp only [List.map_toArray, List.map_cons, List.map_nil]); try rfl) ?_; (with_reducible refine (impl_Plate_39.calls kj2 _ _ l0 a1_0 a1_1 7777040 t362 t363 _ ?side1 ?side2 A13.out).mono ?_); (case side1 => exact (Kd.C_below HR0.out HB.out)); (case side2 => exact HC0.out); rintro e w16 ⟨rfl, hb⟩; refine ⟨_, rfl, ?_⟩; replace BK359 := Aside0.mk (blk_below (g := gb359) (o := .cells #[.int .i64 a1_0, .int .i64 a1_1] 26 (0, 0)) (by exact BK359.out) hb); replace HB := Aside0.mk (below_step HB.out hb)))
    (try simp only [sp_])
    go_cut [30] (fun v30 wc => ∃ (kq : Nat) (x30_13 : Bool), v30 = .bool x30_13 ∧ Aside0 (impl_PartPlates.j1 kq l0 t362 x30_13 = some (r1, r2, r3)) ∧ Aside0 (kq ≤ kj2) ∧ Aside0 (wc.heap[gb359]? = some (.cells #[.int .i64 a1_0, .int .i64 a1_1] 26 (0, 0))) ∧ Aside0 (Below w.heap.size w wc))
    case first =>
     have H := HC14.out
     clear HC14
     by_cases c17 : t362 = 0
     ·rw [if_pos c17] at H
      have c17b0 : (t362 == 0) = true := beq_iff_eq.mpr c17
      have c17b1 : (t362 != 0) = false := bne_eq_false_iff_eq.mpr c17
      clear c17
      (first | rw [c17b0] | (simp only [i64_w, i32_w]; rw [c17b0]) | skip)
      have H' := Aside0.mk H
      clear H
      go_wp2
      go_meet
      case rel => exact ⟨_, (true), rfl, H', ⟨by have := HJ2.out; first | omega | exact Nat.le_refl _⟩, ⟨by exact BK359.out⟩, ⟨HB.out⟩⟩
     ·rw [if_neg c17] at H
      have c17b0 : (t362 == 0) = false := beq_eq_false_iff_ne.mpr c17
      have c17b1 : (t362 != 0) = true := bne_iff_ne.mpr c17
      (first | rw [c17b0] | (simp only [i64_w, i32_w]; rw [c17b0]) | skip)
      have H' := Aside0.mk H
      clear H
      go_wp2
      go_meet
      case rel => exact ⟨_, ((t362 == (l0.length : Int))), rfl, H', ⟨by have := HJ2.out; first | omega | exact Nat.le_refl _⟩, ⟨by exact BK359.out⟩, ⟨HB.out⟩⟩
    case rest =>
     clear HC14
     try clear c1
     try clear p2
     try clear c3
     try clear c6
     try clear c10
     try clear c12
     try clear c14
     try clear c17
     try clear c17b0
     try clear c17b1
     try clear hcz15_0
     try clear hcz15_1
     try clear hcz9_0
     try clear hcz9_1
     try clear hfz15_0
     try clear hfz15_1
     try clear hfz9_0
     try clear hfz9_1
     try clear p2
     obtain ⟨kq, x30_13, rfl, HA, HJ13, BK359, HB⟩ := hcut
     cases kq with
     | zero => exact absurd HA.out (by simp [impl_PartPlates.j1])
     | succ kj13 =>
      have H := HA.out
      clear HA
      simp only [impl_PartPlates.j1] at H
      by_cases c18 : x30_13 = true
      ·subst c18
       rw [if_pos rfl] at H
       simp only [Option.some.injEq, Prod.mk.injEq] at H
       obtain ⟨rfl, rfl, rfl⟩ := H
       go_wp2
       go_ret3
       exact ⟨_, _, rfl, Kd.R_nil _ _ _ _ _, Kd.R_nil _ _ _ _ _, HB.out⟩
      ·replace c18 := Bool.eq_false_iff.mpr c18
       subst c18
       rw [if_neg (show ¬ (false = true) by decide)] at H
       by_cases c19 : 0 ≤ t362
       ·rw [if_pos c19] at H
        have c19b0 := eq_true c19
        have c19b1 : decide (0 ≤ t362) = true := decide_eq_true c19
        clear c19
        by_cases c20 : t362 ≤ (l0.length : Int)
        ·rw [if_pos c20] at H
         have c20b0 := eq_true c20
         have c20b1 : decide (t362 ≤ (l0.length : Int)) = true := decide_eq_true c20
         clear c20
         obtain ⟨y364, hy364⟩ : ∃ y_ : List (S26), y_ = (l0.take (t362 : Int).toNat) := ⟨_, rfl⟩
         rw [← hy364] at H
         have Ny364 := Aside0.mk hy364
         clear hy364
         replace H := Option.bind_eq_some_iff.mp H
         obtain ⟨t368, A210, H⟩ := H

         have A21 := Aside0.mk A210
         clear A210
         have c22b0 := eq_true (of_decide_eq_true (by assumption) : 0 ≤ t362)
         have c23b0 := eq_true (of_decide_eq_true (by assumption) : t362 ≤ (l0.length : Int))
         obtain ⟨y371, hy371⟩ : ∃ y_ : List (S26), y_ = (l0.drop (t362 : Int).toNat) := ⟨_, rfl⟩
         rw [← hy371] at H
         have Ny371 := Aside0.mk hy371
         clear hy371
         replace H := Option.bind_eq_some_iff.mp H
         obtain ⟨t375, A240, H⟩ := H

         have A24 := Aside0.mk A240
         clear A240
         simp only [Option.some.injEq, Prod.mk.injEq] at H
         obtain ⟨rfl, rfl, rfl⟩ := H
         try go_wp2
         replace BK359 := Aside0.mk (blk_drew BK359.out)
         replace HB := Aside0.mk (below_drew1 HB.out)
         have q26 : (t362 : Int) ≤ ((l0.length : Int) : Int) := of_decide_eq_true (by assumption)
         obtain ⟨i026, hi026, _, hsz26, _⟩ := info_parts info26
         have hroom26 : l0.length ≤ c0 := HC0.out
         have hC26 : Kd.C k26 _ A0 l0.length l0 := HR0.out
         have hcut26 := cut_to (P := Try.prog) 24 26 .i64 Try.underlying24 hi026 A0 l0.length c0 t362 (of_decide_eq_true (by assumption)) q26 hroom26
         have hr26 := Kd.C_take (m := (t362 : Int).toNat) hC26 (by omega)
         have hy26 : y364.length = (t362 : Int).toNat := (by rw [Ny364.out, List.length_take]; omega)
         rw [← Ny364.out] at hr26
         rw [← hy26] at hcut26
         have HR367 := Aside0.mk hr26
         have HC367 := Aside0.mk (show y364.length ≤ c0 from by omega)
         clear hr26 hC26 hroom26 hi026 hsz26
         have KY26 := Aside0.mk hy26
         clear hy26
         replace q26 := eq_true q26
         have q27 : (t362 : Int) ≤ ((l0.length : Int) : Int) := of_decide_eq_true (by assumption)
         obtain ⟨i027, hi027, _, hsz27, _⟩ := info_parts info26
         have hroom27 : l0.length ≤ c0 := HC0.out
         have hC27 : Kd.C k26 _ A0 l0.length l0 := HR0.out
         have q027 : (0 : Int) ≤ (t362 : Int) := of_decide_eq_true (by first | (with_reducible assumption) | assumption)
         have hcut27 := cut_from (P := Try.prog) 24 26 .i64 Try.underlying24 hi027 2 hsz27 A0 l0.length c0 t362 q027 q27
         have hr27 := Kd.C_drop (m := (t362 : Int).toNat) (c := c0) hC27 (by omega) hroom27
         obtain ⟨A27, hA27⟩ : ∃ A1, A1 = (if c0 = (t362 : Int).toNat then A0 else (A0 : Option Addr).map (·.add ((t362 : Int).toNat * 2))) := ⟨_, rfl⟩
         obtain ⟨c27, hc27⟩ : ∃ c1, c1 = c0 - (t362 : Int).toNat := ⟨_, rfl⟩
         have hy27 : y371.length = l0.length - (t362 : Int).toNat := (by rw [Ny371.out, List.length_drop] <;> omega)
         rw [show (l0).drop (t362 : Int).toNat = y371 from Ny371.out.symm] at hr27
         replace hr27 : Kd.C k26 _ A27 y371.length y371 := (by rw [hA27]; exact hr27)
         rw [← hy27, ← hA27, ← hc27] at hcut27
         have HR374 := Aside0.mk hr27
         have HC374 := Aside0.mk (show y371.length ≤ c27 from by rw [hy27, hc27]; exact Nat.sub_le_sub_right hroom27 _)
         clear hr27 hC27 hroom27 hi027 hsz27 hc27
         have KY27 := Aside0.mk hy27
         have KA27 := Aside0.mk hA27
         clear hy27 hA27
         replace q27 := eq_true q27
         refine start_ (n := 11) (S := fun w' => True) (ds := []) M13_0 (by kernel_rfl) rfl rfl trivial (fun hHeld => ?_); refine with_tabW impl_PartPlates.tab6 impl_PartPlates.bits6 (fun HT_ HW_ => ?_)
         generalize wc.drew = w25 at BK359 HB HR367 HR374 hHeld ⊢
         refine pure_ (i := 0) (N := some 31) (v := ?_) (a' := ?_) M13_1 rfl rfl (any_of HT_.out (by kernel_rfl)) (fun _ _ _ h => h) (Or.inl ⟨by rfl, ?_⟩) ?_ ?_
         rotate_left
         ·intro w'
          go_simp
          with_reducible rfl
         rotate_left
         ·simp only [sp_]
          rfl
         refine pure_ (i := 1) (N := some 32) (v := ?_) (a' := ?_) M13_2 rfl rfl (any_of HT_.out (by kernel_rfl)) (fun _ _ _ h => h) (Or.inl ⟨by rfl, ?_⟩) ?_ ?_
         rotate_left
         ·intro w'
          go_simp
          with_reducible rfl
         rotate_left
         ·simp only [sp_]
          rfl
         refine pure_ (i := 2) (N := some 33) (v := ?_) (a' := ?_) M13_3 rfl rfl (any_of HT_.out (by kernel_rfl)) (fun _ _ _ h => h) (Or.inl ⟨by rfl, ?_⟩) ?_ ?_
         rotate_left
         ·intro w'
          go_simp
          with_reducible rfl
         rotate_left
         ·simp only [sp_]
          rfl
         refine pure_ (i := 4) (N := some 35) (v := ?_) (a' := ?_) M13_4 rfl rfl (any_of HT_.out (by kernel_rfl)) (fun _ _ _ h => h) (Or.inl ⟨by rfl, ?_⟩) ?_ ?_
         rotate_left
         ·intro w'
          go_simp
          with_reducible rfl
         rotate_left
         ·simp only [sp_]
          rfl
         refine pure_ (i := 5) (N := some 36) (v := ?_) (a' := ?_) M13_5 rfl rfl (any_of HT_.out (by kernel_rfl)) (fun _ _ _ h => h) (Or.inl ⟨by rfl, ?_⟩) ?_ ?_
         rotate_left
         ·intro w'
          go_simp
          with_reducible rfl
         rotate_left
         ·simp only [sp_]
          rfl
         refine pure_ (i := 6) (N := some 37) (v := ?_) (a' := ?_) M13_6 rfl rfl (any_of HT_.out (by kernel_rfl)) (fun _ _ _ h => h) (Or.inl ⟨by rfl, ?_⟩) ?_ ?_
         rotate_left
         ·intro w'
          go_simp
          with_reducible rfl
         rotate_left
         ·simp only [sp_]
          rfl
         refine one_ (i := 3) (N := some 34) M13_7 rfl rfl (one_of HT_.out (by kernel_rfl)) (by decide) (fun K hK => ?_)
         refine goes_ Try.func41 (by kernel_rfl) rfl #[.slice A0 y364.length c0] (by rfl) rfl rfl (by (try simp only [List.map_toArray, List.map_cons, List.map_nil]); try rfl) ?_
         with_reducible refine (impl_Plate_41.calls _ _ y364 t368 _ ?side1 ?side2 A21.out).mono ?_
         (case side1 => exact (Kd.C_below HR367.out HB.out))
         (case side2 => exact HC367.out)
         rintro e w28 ⟨v369, rfl, ho0, hb⟩
         refine ⟨_, rfl, ?_⟩
         have HO370 := Aside0.mk (Kd.R_lower (Kd.R_newB ho0 (g := gb359) (o := .cells #[.int .i64 a1_0, .int .i64 a1_1] 26 (0, 0)) BK359.out) (below_size HB.out))
         replace BK359 := Aside0.mk (blk_below (g := gb359) (o := .cells #[.int .i64 a1_0, .int .i64 a1_1] 26 (0, 0)) (by exact BK359.out) hb)
         replace HB := Aside0.mk (below_step HB.out hb)
         (try clear hb)
         (try clear hb2)
         (try clear hk)
         (try clear hi)
         (try clear ho0)
         refine hK.out _ _ trivial (fun hHeld => ?_)
         clear hK K
         refine norm_ (a' := ?_) ?_ ?_
         rotate_left
         ·show Act.put _ (some 34) _ = _
          simp only [sp_]
          rfl
         refine one_ (i := 7) (N := some 38) M13_8 rfl rfl (one_of HT_.out (by kernel_rfl)) (by decide) (fun K hK => ?_)
         refine goes_ Try.func41 (by kernel_rfl) rfl #[.slice A27 y371.length c27] (by rfl) rfl rfl (by (try simp only [List.map_toArray, List.map_cons, List.map_nil]); try rfl) ?_
         with_reducible refine (impl_Plate_41.calls _ _ y371 t375 _ ?side1 ?side2 A24.out).mono ?_
         (case side1 => exact (Kd.C_below HR374.out HB.out))
         (case side2 => exact HC374.out)
         rintro e w29 ⟨v376, rfl, ho0, hb⟩
         refine ⟨_, rfl, ?_⟩
         have HO377 := Aside0.mk (Kd.R_lower (Kd.R_newB (Kd.R_new' ho0 (Kd.R_lt HO370.out)) (g := gb359) (o := .cells #[.int .i64 a1_0, .int .i64 a1_1] 26 (0, 0)) BK359.out) (below_size HB.out))
         replace HO370 := Aside0.mk (Kd.R_elder' HO370.out (Kd.R_base ho0) hb)
         replace BK359 := Aside0.mk (blk_below (g := gb359) (o := .cells #[.int .i64 a1_0, .int .i64 a1_1] 26 (0, 0)) BK359.out hb)
         replace HB := Aside0.mk (below_step HB.out hb)
         (try clear hb)
         (try clear hb2)
         (try clear hk)
         (try clear hi)
         (try clear ho0)
         refine hK.out _ _ trivial (fun hHeld => ?_)
         clear hK K
         refine norm_ (a' := ?_) ?_ ?_
         rotate_left
         ·show Act.put _ (some 38) _ = _
          simp only [sp_]
          rfl
         refine pure_ (i := 8) (N := some 4) (v := ?_) (a' := ?_) M13_9 rfl rfl (any_of HT_.out (by kernel_rfl)) (fun _ _ _ h => h) (Or.inl ⟨by rfl, ?_⟩) ?_ ?_
         rotate_left
         ·intro w'
          go_simp
          with_reducible rfl
         rotate_left
         ·simp only [sp_]
          rfl
         refine pure_ (i := 9) (N := some 5) (v := ?_) (a' := ?_) M13_10 rfl rfl (any_of HT_.out (by kernel_rfl)) (fun _ _ _ h => h) (Or.inl ⟨by rfl, ?_⟩) ?_ ?_
         rotate_left
         ·intro w'
          go_simp
          with_reducible rfl
         rotate_left
         ·simp only [sp_]
          rfl
         refine pure_ (i := 10) (N := some 6) (v := ?_) (a' := ?_) M13_11 rfl rfl (any_of HT_.out (by kernel_rfl)) (fun _ _ _ h => h) (Or.inl ⟨by rfl, ?_⟩) ?_ ?_
         rotate_left
         ·intro w'
          go_simp
          with_reducible rfl
         rotate_left
         ·simp only [sp_]
          rfl
         refine done_ (done_of HT_.out (by kernel_rfl)) ?_
         try go_wp2
         go_ret3
         exact ⟨_, _, rfl, by exact Kd.R_mono HO370.out (fun _ hk => by first | exact hk.2 | (simp only [and_assoc] at hk; simp only [hk]; done) | (simp only [and_assoc] at hk; simp [hk]; done) | simp_all), by exact Kd.R_mono HO377.out (fun _ hk => by first | exact hk.1.2 | (simp only [and_assoc] at hk; simp only [hk]; done) | (simp only [and_assoc] at hk; simp [hk]; done) | simp_all), HB.out⟩
        ·rw [if_neg c20] at H
         exact absurd H (by simp)
       ·rw [if_neg c19] at H
        exact absurd H (by simp)

end Go.Proofs.Ytbnhfipcjbnknaa.PFnPlatesInserted
