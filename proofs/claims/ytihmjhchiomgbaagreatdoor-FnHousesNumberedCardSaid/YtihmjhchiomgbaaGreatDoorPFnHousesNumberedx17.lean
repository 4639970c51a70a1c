/- Functions that the law FnHousesNumbered reaches, each as a Lean function, and that the Go code comes to just these answers (written by programs). -/
import Derived.Test.YtihmjhchiomgbaaGreatDoorPFnHousesNumberedx0
import Derived.Test.YtihmjhchiomgbaaGreatDoorPFnHousesNumberedx2
import Derived.Test.YtihmjhchiomgbaaGreatDoorPFnHousesNumberedx3
import Derived.Test.YtihmjhchiomgbaaGreatDoorPFnHousesNumberedx16
namespace Go.Proofs.YtihmjhchiomgbaaGreatDoor.PFnHousesNumbered
open Go.RowKit Go.Proofs.YtihmjhchiomgbaaGreatDoorW.PrintWords Go.Proofs.YtihmjhchiomgbaaGreatDoorW.PrintLast Go.Proofs.YtihmjhchiomgbaaGreatDoorW.PrintMore
attribute [local go_sem] max2_int min2_int max_two min_two max_three min_three max_four min_four   -- for this text's walks alone
set_option linter.unusedVariables false
set_option linter.unusedSimpArgs false

theorem setCell_drewN_spec_DrawWalkBetween (w : World) (a : Addr) (v : Value) (n : Nat) : (w.drewN n).setCell a v = (w.setCell a v).drewN n := rfl
theorem drewN_drewN_spec_DrawWalkBetween (w : World) (m n : Nat) : (w.drewN m).drewN n = w.drewN (m + n) := by simp [World.drewN, Nat.add_assoc]
/-! ### spec_DrawWalkBetween: function 28 -/
def spec_DrawWalkBetween.f (k : Nat) (l0 : List Int) : Option (Int × Int × Int × Int × Int) := (spec_l1Cur_street.f l0 0 0).bind fun bt527 => ((spec_l1Cur_house.f k l0 bt527.2.2.1 bt527.2.2.2 bt527.1 bt527.2.1).bind fun bt532 => ((spec_l1Cur_house.f k l0 bt532.2.1 bt532.2.2 bt527.1 bt527.2.1).bind fun bt535 => ((spec_l1Cur_among.f l0 bt535.2.1 bt535.2.2 (([0, 1, 3, 1000, 1001, (-1)] : List Int))).bind fun bt541 => (some (bt527.1, bt527.2.1, bt532.1, bt535.1, bt541.1)))))
def spec_DrawWalkBetween.T4 : Bool × List (List Nat × List Nat) := (true, [([], []), ([], []), ([], []), ([], []), ([2, 3], [2, 3]), ([], []), ([], []), ([5, 6, 4], [5, 6]), ([0, 7, 0], [0]), ([1, 8, 0, 1, 8], [1]), ([4, 9, 0, 1, 2, 3, 4, 8, 9], [4]), ([7, 10, 0, 1, 2, 3, 4, 5, 6, 7, 8, 9, 10], [7])])
def spec_DrawWalkBetween.B4 : List Nat := [0, 0, 0, 0, 12, 0, 0, 124, 253, 511, 1023, 2047]
theorem spec_DrawWalkBetween.tab4 : rtab .any (opsOf Tryz.f28 4) = spec_DrawWalkBetween.T4 := by kernel_rfl
theorem spec_DrawWalkBetween.bits4 : waitsOk spec_DrawWalkBetween.T4.2 spec_DrawWalkBetween.B4 = true := by kernel_rfl
set_option maxHeartbeats 8000000 in
set_option maxRecDepth 100000 in
theorem spec_DrawWalkBetween.calls (k : Nat) (A0 : Option Addr) (c0 : Nat) (l0 : List Int) (r1 : Int) (r2 : Int) (r3 : Int) (r4 : Int) (r5 : Int) (w : World) (hr0 : Kd.C (Kd.int .u8) w A0 l0.length l0) (hc0 : l0.length ≤ c0) (h : spec_DrawWalkBetween.f k l0 = some (r1, r2, r3, r4, r5)) :
    Calls Tryz.prog 28 #[.slice A0 l0.length c0] w fun e w' => e = .returned (.tuple #[.agg #[.int .i64 r1, .int .i64 r2], .int .i64 r3, .int .i64 r4, .int .i64 r5]) ∧ Below w.heap.size w w' := by
  have hu25 := Tryz.underlying25
  have hu54 := Tryz.underlying54
  have HR0 := Aside0.mk hr0
  have HC0 := Aside0.mk hc0
  clear hr0 hc0
  have HB := Aside0.mk (Below.refl w.heap.size w)
  have H : ((spec_l1Cur_street.f l0 0 0).bind fun bt527 => ((spec_l1Cur_house.f k l0 bt527.2.2.1 bt527.2.2.2 bt527.1 bt527.2.1).bind fun bt532 => ((spec_l1Cur_house.f k l0 bt532.2.1 bt532.2.2 bt527.1 bt527.2.1).bind fun bt535 => ((spec_l1Cur_among.f l0 bt535.2.1 bt535.2.2 (([0, 1, 3, 1000, 1001, (-1)] : List Int))).bind fun bt541 => (some (bt527.1, bt527.2.1, bt532.1, bt535.1, bt541.1)))))) = some (r1, r2, r3, r4, r5) := h
  clear h
  replace H := Option.bind_eq_some_iff.mp H
  obtain ⟨⟨t527, t528, t529, t530⟩, A20, H⟩ := H
  replace H : ((spec_l1Cur_house.f k l0 t529 t530 t527 t528).bind fun bt532 => ((spec_l1Cur_house.f k l0 bt532.2.1 bt532.2.2 t527 t528).bind fun bt535 => ((spec_l1Cur_among.f l0 bt535.2.1 bt535.2.2 (([0, 1, 3, 1000, 1001, (-1)] : List Int))).bind fun bt541 => (some (t527, t528, bt532.1, bt535.1, bt541.1))))) = some (r1, r2, r3, r4, r5) := H
  have A2 := Aside0.mk A20
  clear A20
  replace H := Option.bind_eq_some_iff.mp H
  obtain ⟨⟨t532, t533, t534⟩, A30, H⟩ := H
  replace H : ((spec_l1Cur_house.f k l0 t533 t534 t527 t528).bind fun bt535 => ((spec_l1Cur_among.f l0 bt535.2.1 bt535.2.2 (([0, 1, 3, 1000, 1001, (-1)] : List Int))).bind fun bt541 => (some (t527, t528, t532, bt535.1, bt541.1)))) = some (r1, r2, r3, r4, r5) := H
  have A3 := Aside0.mk A30
  clear A30
  replace H := Option.bind_eq_some_iff.mp H
  obtain ⟨⟨t535, t536, t537⟩, A40, H⟩ := H
  replace H : ((spec_l1Cur_among.f l0 t536 t537 (([0, 1, 3, 1000, 1001, (-1)] : List Int))).bind fun bt541 => (some (t527, t528, t532, t535, bt541.1))) = some (r1, r2, r3, r4, r5) := H
  have A4 := Aside0.mk A40
  clear A40
  obtain ⟨y538, hy538⟩ : ∃ y_ : List Int, y_ = (([0, 1, 3, 1000, 1001, (-1)] : List Int)) := ⟨_, rfl⟩
  replace H : ((spec_l1Cur_among.f l0 t536 t537 y538).bind fun bt541 => (some (t527, t528, t532, t535, bt541.1))) = some (r1, r2, r3, r4, r5) := by first | (rw [hy538]; with_reducible exact H) | (have H2_ := (Option.bind_some _ _).symm.trans H; rw [hy538]; with_reducible exact H2_) | (have H2_ := (Option.bind_some _ _).symm.trans H; with_reducible exact H2_) | with_reducible exact H | (rw [hy538]; exact H) | exact H
  have Ny538 := Aside0.mk hy538
  clear hy538
  replace H := Option.bind_eq_some_iff.mp H
  obtain ⟨⟨t541, t542, t543⟩, A50, H⟩ := H
  replace H : (some (t527, t528, t532, t535, t541)) = some (r1, r2, r3, r4, r5) := H
  have A5 := Aside0.mk A50
  clear A50
  simp only [Option.some.injEq, Prod.mk.injEq] at H
  obtain ⟨rfl, rfl, rfl, rfl, rfl⟩ := H
  go_enter Tryz.func28, Tryz.ntmps28
  try go_wp2_with (first | ((with_reducible refine gate_dst (N := 2) rfl ?_); refine box_event ?hg (N := 2) ?hd (cs := #[.int .i64 0, .int .i64 0]) (t := 25) ?hr ?_; (case hd => rfl); (case hg => rfl); (case hr => go_simp <;> rfl); intro gb525 hg w6 hbox hb; have n0_ := Aside0.mk (below_step (by repeat first | exact HB.out | apply below_alloc | apply pw_below_drewN | apply below_drew1) hb); have n1_ := Aside0.mk (hbox); have n2_ := Aside0.mk ((by rw [hg]; exact (below_size (by repeat first | exact HB.out | apply below_alloc | apply pw_below_drewN | apply below_drew1)) : w.heap.size ≤ gb525)); have n3_ := Aside0.mk ((by rw [hg]; exact (below_size (by repeat first | exact HB.out | apply below_alloc | apply pw_below_drewN | apply below_drew1)) : w.heap.size ≤ gb525)); clear HB; have HB := n0_; have BK525 := n1_; have GW525 := n2_; have GE525 := n3_; clear n0_ n1_ n2_ n3_; clear hb hbox hg) | ((with_reducible refine gate_dst (N := 11) rfl ?_); refine box_event ?hg (N := 11) ?hd (cs := #[.slice A0 l0.length c0, .int .i64 0, .int .u64 0]) (t := 54) ?hr ?_; (case hd => rfl); (case hg => rfl); (case hr => go_simp <;> rfl); intro gb526 hg w7 hbox hb; have n0_ := Aside0.mk (blk_below (g := gb525) (o := .cells #[.int .i64 0, .int .i64 0] 25 (0, 0)) (by exact BK525.out) hb); have n1_ := Aside0.mk (below_step (by repeat first | exact HB.out | apply below_alloc | apply pw_below_drewN | apply below_drew1 | refine below_set ?_ GE525.out) hb); have n2_ := Aside0.mk (hbox); have n3_ := Aside0.mk ((by rw [hg]; exact (below_size (by repeat first | exact HB.out | apply below_alloc | apply pw_below_drewN | apply below_drew1 | refine below_set ?_ GE525.out)) : w.heap.size ≤ gb526)); have n4_ := Aside0.mk ((by rw [hg]; exact (below_size (by repeat first | exact HB.out | apply below_alloc | apply pw_below_drewN | apply below_drew1 | refine below_set ?_ GE525.out)) : w.heap.size ≤ gb526)); have n5_ := Aside0.mk ((by rw [hg]; exact Nat.ne_of_lt (blk_lt (g := gb525) (o := .cells #[.int .i64 0, .int .i64 0] 25 (0, 0)) (by exact BK525.out)) : gb525 ≠ gb526)); have n6_ := Aside0.mk ((by rw [hg]; exact Nat.ne_of_gt (blk_lt (g := gb525) (o := .cells #[.int .i64 0, .int .i64 0] 25 (0, 0)) (by exact BK525.out)) : gb526 ≠ gb525)); have n7_ := Aside0.mk ((⟨_, _, hbox, by rw [hg]; exact (below_size (by repeat first | exact HB.out | apply below_alloc | apply pw_below_drewN | apply below_drew1 | refine below_set ?_ GE525.out)), HR0.out⟩ : IsS54 w w7 gb526 l0 0 0)); clear BK525; clear HB; have BK525 := n0_; have HB := n1_; have BK526 := n2_; have GW526 := n3_; have GE526 := n4_; have NB525_526 := n5_; have NB526_525 := n6_; have HI526 := n7_; clear n0_ n1_ n2_ n3_ n4_ n5_ n6_ n7_; clear hb hbox hg) | ((with_reducible refine gate_callee (f := 35) rfl ?_); refine goesL_ (some 13) rfl rfl Tryz.func35 (by kernel_rfl) rfl #[.pointer (some ⟨gb526, 0, none⟩)] rfl (by (try simp only [List.map_toArray, List.map_cons, List.map_nil]); try rfl) ?_; (with_reducible refine (spec_l1Cur_street.calls gb526 l0 0 0 t527 t528 t529 t530 w _ ?side1 ?side2 A2.out).mono ?_); (case side1 => repeat (first | (with_reducible first | exact HI526.out | apply IsS54.alloc | apply IsS54.drewN | apply IsS54.drew | apply IsS54.set_1 | apply IsS54.set_2 | refine IsS54.far ?_ NB526_525.out _) | exact HI526.out)); (case side2 => repeat (first | (with_reducible first | exact HB.out | apply below_alloc | apply pw_below_drewN | apply below_drew1 | refine below_set ?_ (IsS54.ge HI526.out) | refine below_set ?_ GE525.out) | exact HB.out)); rintro e w8 ⟨rfl, hi, hb, hk⟩; refine ⟨_, rfl, ?_⟩; have n0_ := Aside0.mk (KeepBut.blk hk (g' := gb525) (o := .cells #[.int .i64 0, .int .i64 0] 25 (0, 0)) (by exact BK525.out) NB525_526.out (by simp)); have n1_ := Aside0.mk (hb); have n2_ := Aside0.mk (hi); clear BK525; clear HB; clear HI526; have BK525 := n0_; have HB := n1_; have HI526 := n2_; clear n0_ n1_ n2_; (try clear hb); (try clear hb2); (try clear hk); (try clear hi)) | ((with_reducible refine gate_dst (N := 7) rfl ?_); refine box_event ?hg (N := 7) ?hd (cs := #[.int .i64 0, .int .i64 0]) (t := 25) ?hr ?_; (case hd => rfl); (case hg => rfl); (case hr => go_simp <;> rfl); intro gb531 hg w9 hbox hb; have n0_ := Aside0.mk (blk_below (g := gb525) (o := .cells #[.int .i64 0, .int .i64 0] 25 (0, 0)) (by exact BK525.out) hb); have n1_ := Aside0.mk (IsS54.below (by repeat first | exact HI526.out | apply IsS54.alloc | apply IsS54.drewN | apply IsS54.drew | apply IsS54.set_1 | apply IsS54.set_2 | refine IsS54.far ?_ NB526_525.out _) hb); have n2_ := Aside0.mk (below_step (by repeat first | exact HB.out | apply below_alloc | apply pw_below_drewN | apply below_drew1 | refine below_set ?_ (IsS54.ge HI526.out) | refine below_set ?_ GE525.out) hb); have n3_ := Aside0.mk (hbox); have n4_ := Aside0.mk ((by rw [hg]; exact (below_size (by repeat first | exact HB.out | apply below_alloc | apply pw_below_drewN | apply below_drew1 | refine below_set ?_ (IsS54.ge HI526.out) | refine below_set ?_ GE525.out)) : w.heap.size ≤ gb531)); have n5_ := Aside0.mk ((by rw [hg]; exact (below_size (by repeat first | exact HB.out | apply below_alloc | apply pw_below_drewN | apply below_drew1 | refine below_set ?_ (IsS54.ge HI526.out) | refine below_set ?_ GE525.out)) : w.heap.size ≤ gb531)); have n6_ := Aside0.mk ((by rw [hg]; exact Nat.ne_of_lt (blk_lt (g := gb525) (o := .cells #[.int .i64 0, .int .i64 0] 25 (0, 0)) (by exact BK525.out)) : gb525 ≠ gb531)); have n7_ := Aside0.mk ((by rw [hg]; exact Nat.ne_of_gt (blk_lt (g := gb525) (o := .cells #[.int .i64 0, .int .i64 0] 25 (0, 0)) (by exact BK525.out)) : gb531 ≠ gb525)); have n8_ := Aside0.mk ((by rw [hg]; exact Nat.ne_of_lt (IsS54.lt (show IsS54 w _ gb526 l0 t529 t530 from by repeat first | exact HI526.out | apply IsS54.alloc | apply IsS54.drewN | apply IsS54.drew | apply IsS54.set_1 | apply IsS54.set_2 | refine IsS54.far ?_ NB526_525.out _)) : gb526 ≠ gb531)); have n9_ := Aside0.mk ((by rw [hg]; exact Nat.ne_of_gt (IsS54.lt (show IsS54 w _ gb526 l0 t529 t530 from by repeat first | exact HI526.out | apply IsS54.alloc | apply IsS54.drewN | apply IsS54.drew | apply IsS54.set_1 | apply IsS54.set_2 | refine IsS54.far ?_ NB526_525.out _)) : gb531 ≠ gb526)); clear BK525; clear HI526; clear HB; have BK525 := n0_; have HI526 := n1_; have HB := n2_; have BK531 := n3_; have GW531 := n4_; have GE531 := n5_; have NB525_531 := n6_; have NB531_525 := n7_; have NB526_531 := n8_; have NB531_526 := n9_; clear n0_ n1_ n2_ n3_ n4_ n5_ n6_ n7_ n8_ n9_; clear hb hbox hg; have hnb10 := NB531_525.out; have hnc10 := NB525_531.out; have hnb11 := NB531_526.out; have hnc11 := NB526_531.out; have hcz12_0 : w9.cell? ⟨gb531, 0, none⟩ = some (.int .i64 0) := (blk_cell BK531.out 0).trans rfl; have hcz12_1 : w9.cell? ⟨gb531, 1, none⟩ = some (.int .i64 0) := (blk_cell BK531.out 1).trans rfl; have hfz12_0 := blk_frozen BK531.out 0; have hfz12_1 := blk_frozen BK531.out 1) | ((with_reducible refine gate_callee (f := 36) rfl ?_); refine goesL_ (some 16) rfl rfl Tryz.func36 (by kernel_rfl) rfl #[.pointer (some ⟨gb526, 0, none⟩), .agg #[.int .i64 t527, .int .i64 t528]] rfl (by (try simp only [List.map_toArray, List.map_cons, List.map_nil]); try rfl) ?_; (with_reducible refine (spec_l1Cur_house.calls k gb526 l0 t529 t530 t527 t528 t532 t533 t534 w _ ?side1 ?side2 A3.out).mono ?_); (case side1 => repeat (first | (with_reducible first | exact HI526.out | apply IsS54.alloc | apply IsS54.drewN | apply IsS54.drew | apply IsS54.set_1 | apply IsS54.set_2 | refine IsS54.far ?_ NB526_525.out _ | refine IsS54.far ?_ NB526_531.out _) | exact HI526.out)); (case side2 => repeat (first | (with_reducible first | exact HB.out | apply below_alloc | apply pw_below_drewN | apply below_drew1 | refine below_set ?_ (IsS54.ge HI526.out) | refine below_set ?_ GE525.out | refine below_set ?_ GE531.out) | exact HB.out)); rintro e w13 ⟨rfl, hi, hb, hk⟩; refine ⟨_, rfl, ?_⟩; have n0_ := Aside0.mk (KeepBut.blk hk (g' := gb525) (o := .cells #[.int .i64 0, .int .i64 0] 25 (0, 0)) (by refine blk_far ?_ NB525_531.out _; refine blk_far ?_ NB525_531.out _; exact BK525.out) NB525_526.out (by simp)); have n1_ := Aside0.mk (KeepBut.blk hk (g' := gb531) (o := .cells #[.int .i64 t527, .int .i64 t528] 25 (0, 0)) (by refine blk_put (cs := #[.int .i64 t527, .int .i64 0]) ?_ 1 _ rfl; refine blk_put (cs := #[.int .i64 0, .int .i64 0]) ?_ 0 _ rfl; exact BK531.out) NB531_526.out (by simp)); have n2_ := Aside0.mk (hb); have n3_ := Aside0.mk (hi); clear BK525; clear BK531; clear HB; clear HI526; have BK525 := n0_; have BK531 := n1_; have HB := n2_; have HI526 := n3_; clear n0_ n1_ n2_ n3_; (try clear hb); (try clear hb2); (try clear hk); (try clear hi)))
  have n0_ := Aside0.mk (blk_drew BK525.out)
  have n1_ := Aside0.mk (blk_drew BK531.out)
  have n2_ := Aside0.mk (IsS54.drew HI526.out)
  have n3_ := Aside0.mk (below_drew1 HB.out)
  clear BK525
  clear BK531
  clear HI526
  clear HB
  have BK525 := n0_
  have BK531 := n1_
  have HI526 := n2_
  have HB := n3_
  clear n0_ n1_ n2_ n3_
  refine start_ (n := 12) (S := fun w' => True) (ds := []) #[false, false, false, false, false, false, false, false, false, false, false, false] (by kernel_rfl) rfl rfl trivial (fun hHeld => ?_); refine with_tabW spec_DrawWalkBetween.tab4 spec_DrawWalkBetween.bits4 (fun HT_ HW_ => ?_)
  generalize w13.drew = w14 at BK525 BK531 HI526 HB hHeld ⊢
  refine pure_ (i := 1) (N := some 18) (v := ?_) (a' := ?_) #[false, true, false, false, false, false, false, false, false, false, false, false] rfl rfl (any_of HT_.out (by kernel_rfl)) (fun _ _ _ h => h) (Or.inl ⟨by rfl, ?_⟩) ?_ ?_
  rotate_left
  · intro w'
    go_simp
    with_reducible rfl
  rotate_left
  · simp only [Act.put, List.setIfInBounds_toArray, List.set_cons_zero, List.set_cons_succ, i64_w, i32_w]
    rfl
  refine pure_ (i := 2) (N := some 19) (v := ?_) (a' := ?_) #[false, true, true, false, false, false, false, false, false, false, false, false] rfl rfl (any_of HT_.out (by kernel_rfl)) (fun _ _ _ h => h) (Or.inl ⟨by rfl, ?_⟩) ?_ ?_
  rotate_left
  · intro w'
    go_simp
    with_reducible rfl
  rotate_left
  · simp only [Act.put, List.setIfInBounds_toArray, List.set_cons_zero, List.set_cons_succ, i64_w, i32_w]
    rfl
  refine pure_ (i := 5) (N := some 22) (v := ?_) (a' := ?_) #[false, true, true, false, false, true, false, false, false, false, false, false] rfl rfl (any_of HT_.out (by kernel_rfl)) (fun _ _ _ h => h) (Or.inl ⟨by rfl, ?_⟩) ?_ ?_
  rotate_left
  · intro w'
    go_simp
    with_reducible rfl
  rotate_left
  · simp only [Act.put, List.setIfInBounds_toArray, List.set_cons_zero, List.set_cons_succ, i64_w, i32_w]
    rfl
  refine inv_at [0, 3, 4, 6, 7, 8, 9, 10, 11] (fun a0_ b a w' => ∃ (v539 : Value), a = putSel a0_ b [(0, 17, .agg #[.int .i64 t527, .int .i64 t528]), (3, 20, .agg #[.int .i64 t527, .int .i64 t528]), (4, 21, .int .i64 t535), (6, 23, v539), (7, 24, .int .i64 t541), (9, 3, .int .i64 t532), (10, 4, .int .i64 t535), (11, 5, .int .i64 t541)] ∧ (b 8 = false → w'.heap[gb525]? = some (.cells #[.int .i64 0, .int .i64 0] 25 (0, 0))) ∧ (w'.heap[gb531]? = some (.cells #[.int .i64 t527, .int .i64 t528] 25 (0, 0))) ∧ (b 4 = false → IsS54 w w' gb526 l0 t533 t534) ∧ (Below w.heap.size w w') ∧ (b 4 = true → b 7 = false → IsS54 w w' gb526 l0 t536 t537) ∧ (b 6 = true → Kd.R (Kd.int .i64) 3 w' w.heap.size (fun _ => True) v539 y538) ∧ (b 7 = true → IsS54 w w' gb526 l0 t542 t543) ∧ (b 8 = true → w'.heap[gb525]? = some (.cells #[.int .i64 t527, .int .i64 t528] 25 (0, 0)))) HT_.out HW_.out (by kernel_rfl) (by kernel_rfl) ?_ ?_ ?_
  · exact ⟨.bool false, by simp only [putSel, Bool.false_eq_true, if_false], fun _ => BK525.out, BK531.out, fun _ => HI526.out, HB.out, fun h_ => absurd h_ (by decide), fun h_ => absurd h_ (by decide), fun h_ => absurd h_ (by decide), fun h_ => absurd h_ (by decide)⟩
  · skip
    clear BK525 BK531 HB HI526
    refine steps_cons ?_ ?_
    · rintro b a w' ⟨v539, ha, Q_BK525, Q_BK531, Q_HI526, Q_HB, Q_HI526_e4, Q_HO540, Q_HI526_e7, Q_BK525_e8⟩ hb_ hon hoff
      refine ⟨_, rfl, fun K hK => ?_⟩
      have e7 : a.tmps[7]? = some (.pointer (some ⟨gb531, 0, none⟩)) := by rw [ha]; exact (putSel_off rfl).trans rfl
      replace ha := Aside0.mk ha
      have BK525 := Aside0.mk (Q_BK525 (hoff 8 (by kernel_rfl)))
      have BK531 := Aside0.mk Q_BK531
      have HB := Aside0.mk Q_HB
      have hc0_ : w'.cell? ⟨gb531, 0, none⟩ = some (.int .i64 t527) := (blk_cell BK531.out 0).trans rfl
      have hc1_ : w'.cell? ⟨gb531, 1, none⟩ = some (.int .i64 t528) := (blk_cell BK531.out 1).trans rfl
      refine value_ (w1 := w') (v := .agg #[.int .i64 t527, .int .i64 t528]) (by rfl) rfl ?_ ?_
      · go_simp
        (try simp only [i64_w])
        try rfl
      refine hK.out _ _ ⟨v539, (by rw [ha.out]; exact putSel_upk 0 hb_ rfl rfl rfl), Q_BK525, Q_BK531, Q_HI526, Q_HB, Q_HI526_e4, Q_HO540, Q_HI526_e7, fun h0_ => absurd ((hoff 8 (by kernel_rfl)).symm.trans h0_) (by decide)⟩
    refine steps_cons ?_ ?_
    · rintro b a w' ⟨v539, ha, Q_BK525, Q_BK531, Q_HI526, Q_HB, Q_HI526_e4, Q_HO540, Q_HI526_e7, Q_BK525_e8⟩ hb_ hon hoff
      refine ⟨_, rfl, fun K hK => ?_⟩
      have e7 : a.tmps[7]? = some (.pointer (some ⟨gb531, 0, none⟩)) := by rw [ha]; exact (putSel_off rfl).trans rfl
      replace ha := Aside0.mk ha
      have BK525 := Aside0.mk (Q_BK525 (hoff 8 (by kernel_rfl)))
      have BK531 := Aside0.mk Q_BK531
      have HI526 := Aside0.mk (Q_HI526 (hoff 4 (by kernel_rfl)))
      have HB := Aside0.mk Q_HB
      have hc0_ : w'.cell? ⟨gb531, 0, none⟩ = some (.int .i64 t527) := (blk_cell BK531.out 0).trans rfl
      have hc1_ : w'.cell? ⟨gb531, 1, none⟩ = some (.int .i64 t528) := (blk_cell BK531.out 1).trans rfl
      refine value_ (w1 := w') (v := .agg #[.int .i64 t527, .int .i64 t528]) (by rfl) rfl ?_ ?_
      · go_simp
        (try simp only [i64_w])
        try rfl
      refine hK.out _ _ ⟨v539, (by rw [ha.out]; exact putSel_upk 1 hb_ rfl rfl rfl), Q_BK525, Q_BK531, Q_HI526, Q_HB, fun h0_ _ => absurd ((hoff 4 (by kernel_rfl)).symm.trans h0_) (by decide), Q_HO540, fun h0_ => absurd ((hoff 7 (by kernel_rfl)).symm.trans h0_) (by decide), fun h0_ => absurd ((hoff 8 (by kernel_rfl)).symm.trans h0_) (by decide)⟩
    refine steps_cons ?_ ?_
    · rintro b a w' ⟨v539, ha, Q_BK525, Q_BK531, Q_HI526, Q_HB, Q_HI526_e4, Q_HO540, Q_HI526_e7, Q_BK525_e8⟩ hb_ hon hoff
      refine ⟨_, rfl, fun K hK => ?_⟩
      have e19 : a.tmps[19]? = some (.pointer (some ⟨gb526, 0, none⟩)) := by rw [ha]; exact (putSel_off rfl).trans rfl
      have e20 : a.tmps[20]? = some (.agg #[.int .i64 t527, .int .i64 t528]) := by rw [ha]; exact putSel_on (e := (3, 20, .agg #[.int .i64 t527, .int .i64 t528])) 1 rfl rfl (hon 3 (by kernel_rfl)) rfl
      replace ha := Aside0.mk ha
      have BK525 := Aside0.mk (Q_BK525 (hoff 8 (by kernel_rfl)))
      have BK531 := Aside0.mk Q_BK531
      have HI526 := Aside0.mk (Q_HI526 hb_)
      have HB := Aside0.mk Q_HB
      refine goes_ Tryz.func36 (by kernel_rfl) rfl #[.pointer (some ⟨gb526, 0, none⟩), .agg #[.int .i64 t527, .int .i64 t528]] (by rfl) rfl rfl (by first | (simp only [List.map_toArray, List.map_cons, List.map_nil, Act.eval, Array.getD_eq_getD_getElem?, Option.getD_some, e19, e20]; done) | (simp only [List.map_toArray, List.map_cons, List.map_nil, Act.eval, Array.getD_eq_getD_getElem?, Option.getD_some, e19, e20]; rfl)) ?_
      with_reducible refine (spec_l1Cur_house.calls k gb526 l0 t533 t534 t527 t528 t535 t536 t537 w _ ?side1 ?side2 A4.out).mono ?_
      (case side1 => repeat (first | (with_reducible first | exact HI526.out | apply IsS54.alloc | apply IsS54.drewN | apply IsS54.drew | apply IsS54.set_1 | apply IsS54.set_2 | refine IsS54.far ?_ NB526_525.out _ | refine IsS54.far ?_ NB526_531.out _) | exact HI526.out))
      (case side2 => repeat (first | (with_reducible first | exact HB.out | apply below_alloc | apply pw_below_drewN | apply below_drew1 | refine below_set ?_ (IsS54.ge HI526.out) | refine below_set ?_ GE525.out | refine below_set ?_ GE531.out) | exact HB.out))
      rintro e w15 ⟨rfl, hi, hb, hk⟩
      refine ⟨_, rfl, ?_⟩
      have n0_ := Aside0.mk (KeepBut.blk hk (g' := gb525) (o := .cells #[.int .i64 0, .int .i64 0] 25 (0, 0)) (by exact BK525.out) NB525_526.out (by simp))
      have n1_ := Aside0.mk (KeepBut.blk hk (g' := gb531) (o := .cells #[.int .i64 t527, .int .i64 t528] 25 (0, 0)) (by exact BK531.out) NB531_526.out (by simp))
      have n2_ := Aside0.mk (hb)
      have n3_ := Aside0.mk (hi)
      have z_HO540 := fun (h0_ : b 6 = true) => (show Kd.R (Kd.int .i64) 3 w15 w.heap.size (fun _ => True) v539 y538 from by first | exact (Kd.R_mono (Kd.R_keep (IsS54.apart (show IsS54 w _ gb526 l0 t533 t534 from by repeat first | exact HI526.out | apply IsS54.alloc | apply IsS54.drewN | apply IsS54.drew | apply IsS54.set_1 | apply IsS54.set_2 | refine IsS54.far ?_ NB526_525.out _ | refine IsS54.far ?_ NB526_531.out _) (by (with_reducible repeat (first | apply Kd.R_alloc | apply Kd.R_drewN | apply Kd.R_drew)); exact (Q_HO540 h0_)) (by decide)) hk (fun _ h => h.2)) (fun _ h => h.1)) | exact Kd.R_mono (Kd.R_mono (Kd.R_keep (IsS54.apart (show IsS54 w _ gb526 l0 t533 t534 from by repeat first | exact HI526.out | apply IsS54.alloc | apply IsS54.drewN | apply IsS54.drew | apply IsS54.set_1 | apply IsS54.set_2 | refine IsS54.far ?_ NB526_525.out _ | refine IsS54.far ?_ NB526_531.out _) (by (with_reducible repeat (first | apply Kd.R_alloc | apply Kd.R_drewN | apply Kd.R_drew)); exact (Q_HO540 h0_)) (by decide)) hk (fun _ h => h.2)) (fun _ h => h.1)) (fun _ h_ => by first | trivial | exact h_ | exact h_.1))
      clear BK525
      clear BK531
      clear HB
      clear HI526
      have BK525 := n0_
      have BK531 := n1_
      have HB := n2_
      have HI526 := n3_
      clear n0_ n1_ n2_ n3_
      (try clear hb)
      (try clear hb2)
      (try clear hk)
      (try clear hi)
      refine hK.out _ _ ⟨v539, (by rw [ha.out]; exact putSel_upk 2 hb_ rfl rfl rfl), fun _ => (by exact BK525.out), (by exact BK531.out), fun h0_ => absurd ((up_self b 4).symm.trans h0_) (by decide), (by repeat first | exact HB.out | apply below_alloc | apply pw_below_drewN | apply below_drew1 | refine below_set ?_ (IsS54.ge HI526.out) | refine below_set ?_ GE525.out | refine below_set ?_ GE531.out), fun _ _ => (by repeat first | exact HI526.out | apply IsS54.alloc | apply IsS54.drewN | apply IsS54.drew | apply IsS54.set_1 | apply IsS54.set_2 | refine IsS54.far ?_ NB526_525.out _ | refine IsS54.far ?_ NB526_531.out _), z_HO540, fun h0_ => absurd ((hoff 7 (by kernel_rfl)).symm.trans h0_) (by decide), fun h0_ => absurd ((hoff 8 (by kernel_rfl)).symm.trans h0_) (by decide)⟩
    refine steps_cons ?_ ?_
    · rintro b a w' ⟨v539, ha, Q_BK525, Q_BK531, Q_HI526, Q_HB, Q_HI526_e4, Q_HO540, Q_HI526_e7, Q_BK525_e8⟩ hb_ hon hoff
      refine ⟨_, rfl, fun K hK => ?_⟩
      replace ha := Aside0.mk ha
      have BK525 := Aside0.mk (Q_BK525 (hoff 8 (by kernel_rfl)))
      have BK531 := Aside0.mk Q_BK531
      have HB := Aside0.mk Q_HB
      refine Kd.R_lit_step (Kd.int .i64) _ 3 ?hg (N := 23) ?hd (xs := ([0, 1, 3, 1000, 1001, (-1)] : List Int)) (inner := [.int .i64 0, .int .i64 1, .int .i64 3, .int .i64 1000, .int .i64 1001, .int .i64 (-1)]) (ok := fun _ => True) (okp := fun _ => True) ?hr ?hp (fun _ hk => hk) trivial (Below.refl _ _) (Nat.le_refl _) (by simp) ?_; (case hd => rfl); (case hg => rfl); (case hr => go_simp <;> rfl); (case hp => exact (Reps.one (show Kd.M (Kd.int .i64) _ _ _ 0 [.int .i64 0] from rfl) (Reps.one (show Kd.M (Kd.int .i64) _ _ _ 1 [.int .i64 1] from rfl) (Reps.one (show Kd.M (Kd.int .i64) _ _ _ 3 [.int .i64 3] from rfl) (Reps.one (show Kd.M (Kd.int .i64) _ _ _ 1000 [.int .i64 1000] from rfl) (Reps.one (show Kd.M (Kd.int .i64) _ _ _ 1001 [.int .i64 1001] from rfl) (Reps.one (show Kd.M (Kd.int .i64) _ _ _ (-1) [.int .i64 (-1)] from rfl) (Reps.none _ _))))))))
      intro v539 w15 ho16 hb hg_ hnew_
      clear hg_ hnew_
      (first | rw [← Ny538.out] at ho16 | (simp only [Int.reduceToNat] at ho16; rw [← Ny538.out] at ho16))
      have n0_ := Aside0.mk (Kd.R_lower ho16 (below_size (by repeat first | exact HB.out | apply below_alloc | apply pw_below_drewN | apply below_drew1 | refine below_set ?_ GE525.out | refine below_set ?_ GE531.out)))
      have n1_ := Aside0.mk (blk_below (g := gb525) (o := .cells #[.int .i64 0, .int .i64 0] 25 (0, 0)) (by exact BK525.out) hb)
      have n3_ := Aside0.mk (blk_below (g := gb531) (o := .cells #[.int .i64 t527, .int .i64 t528] 25 (0, 0)) (by exact BK531.out) hb)
      have n4_ := Aside0.mk (below_step (by repeat first | exact HB.out | apply below_alloc | apply pw_below_drewN | apply below_drew1 | refine below_set ?_ GE525.out | refine below_set ?_ GE531.out) hb)
      have z_HI526 := fun (h0_ : b 4 = false) => (show IsS54 w w15 gb526 l0 t533 t534 from by first | exact (IsS54.below (by repeat (first | (with_reducible first | exact (Q_HI526 h0_) | apply IsS54.alloc | apply IsS54.drewN | apply IsS54.drew | apply IsS54.set_1 | apply IsS54.set_2 | refine IsS54.far ?_ NB526_525.out _ | refine IsS54.far ?_ NB526_531.out _) | exact (Q_HI526 h0_))) hb))
      have z_HI526_e4 := fun (h0_ : b 4 = true) (h1_ : b 7 = false) => (show IsS54 w w15 gb526 l0 t536 t537 from by first | exact (IsS54.below (by repeat (first | (with_reducible first | exact (Q_HI526_e4 h0_ h1_) | apply IsS54.alloc | apply IsS54.drewN | apply IsS54.drew | apply IsS54.set_1 | apply IsS54.set_2 | refine IsS54.far ?_ NB526_525.out _ | refine IsS54.far ?_ NB526_531.out _) | exact (Q_HI526_e4 h0_ h1_))) hb))
      clear BK525
      clear BK531
      clear HB
      have HO540 := n0_
      have BK525 := n1_
      have BK531 := n3_
      have HB := n4_
      clear n0_ n1_ n3_ n4_
      clear hb ho16
      refine hK.out _ _ ⟨v539, (by rw [ha.out]; exact putSel_upk 3 hb_ rfl rfl rfl), fun _ => (by exact BK525.out), (by exact BK531.out), z_HI526, (by repeat first | exact HB.out | apply below_alloc | apply pw_below_drewN | apply below_drew1 | refine below_set ?_ GE525.out | refine below_set ?_ GE531.out), z_HI526_e4, fun _ => (by (with_reducible repeat (first | apply Kd.R_alloc | apply Kd.R_drewN | apply Kd.R_drew)); exact HO540.out), fun h0_ => absurd ((hoff 7 (by kernel_rfl)).symm.trans h0_) (by decide), fun h0_ => absurd ((hoff 8 (by kernel_rfl)).symm.trans h0_) (by decide)⟩
    refine steps_cons ?_ ?_
    · rintro b a w' ⟨v539, ha, Q_BK525, Q_BK531, Q_HI526, Q_HB, Q_HI526_e4, Q_HO540, Q_HI526_e7, Q_BK525_e8⟩ hb_ hon hoff
      refine ⟨_, rfl, fun K hK => ?_⟩
      have e22 : a.tmps[22]? = some (.pointer (some ⟨gb526, 0, none⟩)) := by rw [ha]; exact (putSel_off rfl).trans rfl
      have e23 : a.tmps[23]? = some (v539) := by rw [ha]; exact putSel_on (e := (6, 23, v539)) 3 rfl rfl (hon 6 (by kernel_rfl)) rfl
      replace ha := Aside0.mk ha
      have BK525 := Aside0.mk (Q_BK525 (hoff 8 (by kernel_rfl)))
      have BK531 := Aside0.mk Q_BK531
      have HB := Aside0.mk Q_HB
      have HI526 := Aside0.mk (Q_HI526_e4 (hon 4 (by kernel_rfl)) hb_)
      have HO540 := Aside0.mk (Q_HO540 (hon 6 (by kernel_rfl)))
      obtain ⟨Ao19, co19, eo19⟩ := Kd.R_slice HO540.out
      (first | subst eo19 | (injection eo19 with f1_ f2_ f3_; have f4_ := f1_.symm; have f5_ := f3_.symm; clear f1_ f2_ f3_; subst f4_; subst f5_))
      refine goes_ Tryz.func57 (by kernel_rfl) rfl #[.pointer (some ⟨gb526, 0, none⟩), .slice Ao19 y538.length co19] (by rfl) rfl rfl (by first | (simp only [List.map_toArray, List.map_cons, List.map_nil, Act.eval, Array.getD_eq_getD_getElem?, Option.getD_some, e22, e23]; done) | (simp only [List.map_toArray, List.map_cons, List.map_nil, Act.eval, Array.getD_eq_getD_getElem?, Option.getD_some, e22, e23]; rfl)) ?_
      with_reducible refine (spec_l1Cur_among.calls gb526 l0 t536 t537 _ _ y538 t541 t542 t543 w _ ?side1 ?side2 ?side3 ?side4 ?side5 A5.out).mono ?_
      (case side1 => repeat (first | (with_reducible first | exact HI526.out | apply IsS54.alloc | apply IsS54.drewN | apply IsS54.drew | apply IsS54.set_1 | apply IsS54.set_2 | refine IsS54.far ?_ NB526_525.out _ | refine IsS54.far ?_ NB526_531.out _) | exact HI526.out))
      (case side2 => repeat (first | (with_reducible first | exact HB.out | apply below_alloc | apply pw_below_drewN | apply below_drew1 | refine below_set ?_ (IsS54.ge HI526.out) | refine below_set ?_ GE525.out | refine below_set ?_ GE531.out) | exact HB.out))
      (case side3 => repeat (first | exact (Kd.R_reads' HO540.out).2.2 | (with_reducible refine Kd.C_alloc ?_ _) | (with_reducible refine Kd.C_drewN ?_ _) | (with_reducible refine Kd.C_drew ?_)))
      (case side4 => exact (Kd.R_reads' HO540.out).2.1)
      (case side5 => exact far_slice (IsS54.own_ne HI526.out HO540.out (by decide)))
      rintro e w20 ⟨rfl, hi, hb, hk⟩
      refine ⟨_, rfl, ?_⟩
      have n0_ := Aside0.mk (KeepBut.blk hk (g' := gb525) (o := .cells #[.int .i64 0, .int .i64 0] 25 (0, 0)) (by exact BK525.out) NB525_526.out (by simp))
      have n1_ := Aside0.mk (KeepBut.blk hk (g' := gb531) (o := .cells #[.int .i64 t527, .int .i64 t528] 25 (0, 0)) (by exact BK531.out) NB531_526.out (by simp))
      have n2_ := Aside0.mk (Kd.R_mono (Kd.R_keep (IsS54.apart (show IsS54 w _ gb526 l0 t536 t537 from by repeat first | exact HI526.out | apply IsS54.alloc | apply IsS54.drewN | apply IsS54.drew | apply IsS54.set_1 | apply IsS54.set_2 | refine IsS54.far ?_ NB526_525.out _ | refine IsS54.far ?_ NB526_531.out _) (by (with_reducible repeat (first | apply Kd.R_alloc | apply Kd.R_drewN | apply Kd.R_drew)); exact HO540.out) (by decide)) hk (fun _ h => h.2)) (fun _ h => h.1))
      have n3_ := Aside0.mk (hb)
      have n4_ := Aside0.mk (hi)
      clear BK525
      clear BK531
      clear HO540
      clear HB
      clear HI526
      have BK525 := n0_
      have BK531 := n1_
      have HO540 := n2_
      have HB := n3_
      have HI526 := n4_
      clear n0_ n1_ n2_ n3_ n4_
      (try clear hb)
      (try clear hb2)
      (try clear hk)
      (try clear hi)
      refine hK.out _ _ ⟨.slice Ao19 y538.length co19, (by rw [ha.out]; exact putSel_upk 4 hb_ rfl rfl rfl), fun _ => (by exact BK525.out), (by exact BK531.out), fun h0_ => absurd ((hon 4 (by kernel_rfl)).symm.trans h0_) (by decide), (by repeat first | exact HB.out | apply below_alloc | apply pw_below_drewN | apply below_drew1 | refine below_set ?_ (IsS54.ge HI526.out) | refine below_set ?_ GE525.out | refine below_set ?_ GE531.out), fun _ h1_ => absurd ((up_self b 7).symm.trans h1_) (by decide), fun _ => (by (with_reducible repeat (first | apply Kd.R_alloc | apply Kd.R_drewN | apply Kd.R_drew)); exact HO540.out), fun _ => (by repeat first | exact HI526.out | apply IsS54.alloc | apply IsS54.drewN | apply IsS54.drew | apply IsS54.set_1 | apply IsS54.set_2 | refine IsS54.far ?_ NB526_525.out _ | refine IsS54.far ?_ NB526_531.out _), fun h0_ => absurd ((hoff 8 (by kernel_rfl)).symm.trans h0_) (by decide)⟩
    refine steps_cons ?_ ?_
    · rintro b a w' ⟨v539, ha, Q_BK525, Q_BK531, Q_HI526, Q_HB, Q_HI526_e4, Q_HO540, Q_HI526_e7, Q_BK525_e8⟩ hb_ hon hoff
      refine ⟨_, rfl, fun K hK => ?_⟩
      have e2 : a.tmps[2]? = some (.pointer (some ⟨gb525, 0, none⟩)) := by rw [ha]; exact (putSel_off rfl).trans rfl
      have e17 : a.tmps[17]? = some (.agg #[.int .i64 t527, .int .i64 t528]) := by rw [ha]; exact putSel_on (e := (0, 17, .agg #[.int .i64 t527, .int .i64 t528])) 0 rfl rfl (hon 0 (by kernel_rfl)) rfl
      replace ha := Aside0.mk ha
      have BK525 := Aside0.mk (Q_BK525 hb_)
      have BK531 := Aside0.mk Q_BK531
      have HB := Aside0.mk Q_HB
      have HO540 := Aside0.mk (Q_HO540 (hon 6 (by kernel_rfl)))
      have HI526 := Aside0.mk (Q_HI526_e7 (hon 7 (by kernel_rfl)))
      have hs21 : w'.cell? ⟨gb525, 0, none⟩ = some (.int .i64 0) := (blk_cell BK525.out 0).trans rfl
      have hfs21 := blk_frozen BK525.out 0
      have hns21_1 := NB531_525.out
      have hms21_1 := NB525_531.out
      have hs22 : w'.cell? ⟨gb525, 1, none⟩ = some (.int .i64 0) := (blk_cell BK525.out 1).trans rfl
      have hfs22 := blk_frozen BK525.out 1
      have hns22_1 := NB531_525.out
      have hms22_1 := NB525_531.out
      refine skip_ (w1 := ?_) (by rfl) rfl ?_ ?_
      rotate_left
      · go_simp
        rfl
      refine hK.out _ _ ⟨v539, (by rw [ha.out]; exact putSel_none (v := undef) rfl), fun h0_ => absurd ((up_self b 8).symm.trans h0_) (by decide), (by refine blk_far ?_ NB531_525.out _; refine blk_far ?_ NB531_525.out _; exact BK531.out), fun h0_ => absurd ((hon 4 (by kernel_rfl)).symm.trans h0_) (by decide), (by repeat first | exact HB.out | apply below_alloc | apply pw_below_drewN | apply below_drew1 | refine below_set ?_ (IsS54.ge HI526.out) | refine below_set ?_ GE525.out | refine below_set ?_ GE531.out), fun _ h1_ => absurd ((hon 7 (by kernel_rfl)).symm.trans h1_) (by decide), fun _ => (by (with_reducible repeat (first | apply Kd.R_alloc | apply Kd.R_drewN | apply Kd.R_drew)); exact Kd.R_mono (Kd.R_far (p := ⟨gb525, 1, none⟩) (Kd.R_far (p := ⟨gb525, 0, none⟩) (Kd.R_types HO540.out BK525.out (by decide)) (fun _ hk => hk.2) (.int .i64 t527)) (fun _ hk => hk.2) (.int .i64 t528)) (fun _ hk => trivial)), fun _ => (by repeat first | exact HI526.out | apply IsS54.alloc | apply IsS54.drewN | apply IsS54.drew | apply IsS54.set_1 | apply IsS54.set_2 | refine IsS54.far ?_ NB526_525.out _ | refine IsS54.far ?_ NB526_531.out _), fun _ => (by refine blk_put (cs := #[.int .i64 t527, .int .i64 0]) ?_ 1 _ rfl; refine blk_put (cs := #[.int .i64 0, .int .i64 0]) ?_ 0 _ rfl; exact BK525.out)⟩
    refine steps_cons ?_ ?_
    · rintro b a w' ⟨v539, ha, Q_BK525, Q_BK531, Q_HI526, Q_HB, Q_HI526_e4, Q_HO540, Q_HI526_e7, Q_BK525_e8⟩ hb_ hon hoff
      refine ⟨_, rfl, fun K hK => ?_⟩
      have e18 : a.tmps[18]? = some (.int .i64 t532) := by rw [ha]; exact (putSel_off rfl).trans rfl
      replace ha := Aside0.mk ha
      have BK531 := Aside0.mk Q_BK531
      have HB := Aside0.mk Q_HB
      have HO540 := Aside0.mk (Q_HO540 (hon 6 (by kernel_rfl)))
      have HI526 := Aside0.mk (Q_HI526_e7 (hon 7 (by kernel_rfl)))
      have BK525 := Aside0.mk (Q_BK525_e8 (hon 8 (by kernel_rfl)))
      refine value_ (w1 := w') (v := .int .i64 t532) (by rfl) rfl ?_ ?_
      · go_simp
        (try simp only [i64_w])
        try rfl
      refine hK.out _ _ ⟨v539, (by rw [ha.out]; exact putSel_upk 5 hb_ rfl rfl rfl), fun h0_ => absurd ((hon 8 (by kernel_rfl)).symm.trans h0_) (by decide), Q_BK531, fun h0_ => absurd ((hon 4 (by kernel_rfl)).symm.trans h0_) (by decide), Q_HB, fun _ h1_ => absurd ((hon 7 (by kernel_rfl)).symm.trans h1_) (by decide), Q_HO540, Q_HI526_e7, Q_BK525_e8⟩
    refine steps_cons ?_ ?_
    · rintro b a w' ⟨v539, ha, Q_BK525, Q_BK531, Q_HI526, Q_HB, Q_HI526_e4, Q_HO540, Q_HI526_e7, Q_BK525_e8⟩ hb_ hon hoff
      refine ⟨_, rfl, fun K hK => ?_⟩
      have e21 : a.tmps[21]? = some (.int .i64 t535) := by rw [ha]; exact putSel_on (e := (4, 21, .int .i64 t535)) 2 rfl rfl (hon 4 (by kernel_rfl)) rfl
      replace ha := Aside0.mk ha
      have BK531 := Aside0.mk Q_BK531
      have HB := Aside0.mk Q_HB
      have HO540 := Aside0.mk (Q_HO540 (hon 6 (by kernel_rfl)))
      have HI526 := Aside0.mk (Q_HI526_e7 (hon 7 (by kernel_rfl)))
      have BK525 := Aside0.mk (Q_BK525_e8 (hon 8 (by kernel_rfl)))
      refine value_ (w1 := w') (v := .int .i64 t535) (by rfl) rfl ?_ ?_
      · go_simp
        (try simp only [i64_w])
        try rfl
      refine hK.out _ _ ⟨v539, (by rw [ha.out]; exact putSel_upk 6 hb_ rfl rfl rfl), fun h0_ => absurd ((hon 8 (by kernel_rfl)).symm.trans h0_) (by decide), Q_BK531, fun h0_ => absurd ((hon 4 (by kernel_rfl)).symm.trans h0_) (by decide), Q_HB, fun _ h1_ => absurd ((hon 7 (by kernel_rfl)).symm.trans h1_) (by decide), Q_HO540, Q_HI526_e7, Q_BK525_e8⟩
    refine steps_cons ?_ ?_
    · rintro b a w' ⟨v539, ha, Q_BK525, Q_BK531, Q_HI526, Q_HB, Q_HI526_e4, Q_HO540, Q_HI526_e7, Q_BK525_e8⟩ hb_ hon hoff
      refine ⟨_, rfl, fun K hK => ?_⟩
      have e24 : a.tmps[24]? = some (.int .i64 t541) := by rw [ha]; exact putSel_on (e := (7, 24, .int .i64 t541)) 4 rfl rfl (hon 7 (by kernel_rfl)) rfl
      replace ha := Aside0.mk ha
      have BK531 := Aside0.mk Q_BK531
      have HB := Aside0.mk Q_HB
      have HO540 := Aside0.mk (Q_HO540 (hon 6 (by kernel_rfl)))
      have HI526 := Aside0.mk (Q_HI526_e7 (hon 7 (by kernel_rfl)))
      have BK525 := Aside0.mk (Q_BK525_e8 (hon 8 (by kernel_rfl)))
      refine value_ (w1 := w') (v := .int .i64 t541) (by rfl) rfl ?_ ?_
      · go_simp
        (try simp only [i64_w])
        try rfl
      refine hK.out _ _ ⟨v539, (by rw [ha.out]; exact putSel_upk 7 hb_ rfl rfl rfl), fun h0_ => absurd ((hon 8 (by kernel_rfl)).symm.trans h0_) (by decide), Q_BK531, fun h0_ => absurd ((hon 4 (by kernel_rfl)).symm.trans h0_) (by decide), Q_HB, fun _ h1_ => absurd ((hon 7 (by kernel_rfl)).symm.trans h1_) (by decide), Q_HO540, Q_HI526_e7, Q_BK525_e8⟩
    exact steps_nil
  rintro b a w22 hall ⟨v539, ha, Q_BK525, Q_BK531, Q_HI526, Q_HB, Q_HI526_e4, Q_HO540, Q_HI526_e7, Q_BK525_e8⟩
  clear BK525 BK531 HB HI526
  have hb0_ := hall 0 (by kernel_rfl)
  have hb3_ := hall 3 (by kernel_rfl)
  have hb4_ := hall 4 (by kernel_rfl)
  have hb6_ := hall 6 (by kernel_rfl)
  have hb7_ := hall 7 (by kernel_rfl)
  have hb8_ := hall 8 (by kernel_rfl)
  have hb9_ := hall 9 (by kernel_rfl)
  have hb10_ := hall 10 (by kernel_rfl)
  have hb11_ := hall 11 (by kernel_rfl)
  subst ha
  simp only [putSel, hb0_, hb3_, hb4_, hb6_, hb7_, hb8_, hb9_, hb10_, hb11_, if_true, Act.put, List.setIfInBounds_toArray, List.set_cons_zero, List.set_cons_succ]
  clear Q_BK525
  have BK531 := Aside0.mk Q_BK531
  clear Q_BK531
  clear Q_HI526
  have HB := Aside0.mk Q_HB
  clear Q_HB
  clear Q_HI526_e4
  have HO540 := Aside0.mk (Q_HO540 hb6_)
  clear Q_HO540
  have HI526 := Aside0.mk (Q_HI526_e7 hb7_)
  clear Q_HI526_e7
  have BK525 := Aside0.mk (Q_BK525_e8 hb8_)
  clear Q_BK525_e8
  clear hall hb0_ hb3_ hb4_ hb6_ hb7_ hb8_ hb9_ hb10_ hb11_
  try go_wp2
  refine bodyPost_ret (results_list (rs := [.cell 2 25, .tmp 3, .tmp 4, .tmp 5]) rfl (by simp) (.cell gb525 25 #[.int .i64 t527, .int .i64 t528] (0, 0) _ rfl (by exact BK525.out) Tryz.underlying25 rfl (by kernel_rfl) (.tmp (.tmp (.tmp .nil))))) rfl ?_
  exact ⟨by first | rfl | (simp [*, errW_none, errW_some] <;> rfl), by repeat first | exact HB.out | apply below_alloc | apply pw_below_drewN | apply below_drew1 | refine below_set ?_ (IsS54.ge HI526.out) | refine below_set ?_ GE525.out | refine below_set ?_ GE531.out⟩

/-! ### spec_l1Most: function 73 -/
def spec_l1Most.f (a0 : Int) (a1 : Int) : Option (Int) := if a0 > a1 then (some a0) else (some a1)
set_option maxHeartbeats 8000000 in
set_option maxRecDepth 100000 in
theorem spec_l1Most.calls (a0 : Int) (a1 : Int) (r : Int) (w : World) (h : spec_l1Most.f a0 a1 = some r) :
    Calls Tryz.prog 73 #[.int .i64 a0, .int .i64 a1] w fun e w' => e = .returned (.int .i64 r) ∧ Drawn0 w w' := by
  have H : (if a0 > a1 then (some a0) else (some a1)) = some r := h
  clear h
  by_cases c3 : a0 > a1
  · rw [if_pos c3] at H
    have c3b0 : decide (a1 < a0) = true := decide_eq_true c3
    clear c3
    obtain rfl := Option.some.inj H
    go_enter Tryz.func73, Tryz.ntmps73
    go_wp2
    go_ret
    exact ⟨by first | rfl | (simp; done) | (simp [*]; done), by repeat (first | exact Drawn0.refl _ | apply Drawn0.step)⟩
  · rw [if_neg c3] at H
    have c3b0 : decide (a1 < a0) = false := decide_eq_false c3
    clear c3
    obtain rfl := Option.some.inj H
    go_enter Tryz.func73, Tryz.ntmps73
    go_wp2
    go_ret
    exact ⟨by first | rfl | (simp; done) | (simp [*]; done), by repeat (first | exact Drawn0.refl _ | apply Drawn0.step)⟩

/-! ### spec_l1Abs: function 60 -/
def spec_l1Abs.f (a0 : Int) : Option (Int) := (spec_l1Most.f a0 (wrap64 (-a0))).bind fun t544 => (some t544)
set_option maxHeartbeats 8000000 in
set_option maxRecDepth 100000 in
theorem spec_l1Abs.calls (a0 : Int) (r : Int) (w : World) (h : spec_l1Abs.f a0 = some r) :
    Calls Tryz.prog 60 #[.int .i64 a0] w fun e w' => e = .returned (.int .i64 r) ∧ Drawn0 w w' := by
  have H : ((spec_l1Most.f a0 (wrap64 (-a0))).bind fun t544 => (some t544)) = some r := h
  clear h
  replace H := Option.bind_eq_some_iff.mp H
  obtain ⟨t544, A20, H⟩ := H
  replace H : (some t544) = some r := H
  have A2 := Aside0.mk A20
  clear A20
  obtain rfl := Option.some.inj H
  go_enter Tryz.func60, Tryz.ntmps60
  go_wp2_with (first | ((with_reducible refine gate_callee (f := 73) rfl ?_); refine goesL_ (some 6) rfl rfl Tryz.func73 (by kernel_rfl) rfl #[.int .i64 a0, .int .i64 (wrap64 (-a0))] rfl (by (try simp only [List.map_toArray, List.map_cons, List.map_nil]); try rfl) ?_; (with_reducible refine (spec_l1Most.calls a0 (wrap64 (-a0)) t544 _ A2.out).mono ?_); rintro e w' ⟨rfl, ⟨nd, rfl⟩⟩; refine ⟨_, rfl, ?_⟩))
  go_ret
  exact ⟨by first | rfl | (simp; done) | (simp [*]; done), by repeat (first | exact Drawn0.refl _ | apply Drawn0.step)⟩

/-! ### spec_WalkBetween: function 29 -/
def spec_WalkBetween.j0 : Nat → Int → Int → Int → Bool → Int → Int → Option (Int × Bool)
  | 0, _, _, _, _, _, _ => none
  | k + 1, x1, x2, x3, x29, x546000, x546001 => if x29 = true then (some (0, false)) else ((spec_nuPlot.f x546000 x546001 x1).bind fun bt549 => ((spec_nuPlot.f x546000 x546001 x2).bind fun bt551 => ((spec_l1Abs.f (wrap64 (bt549.2 - bt551.2))).bind fun t553 => (if bt549.1 = bt551.1 then (some (t553, true)) else (some (wrap64 (t553 + x3), true))))))
def spec_WalkBetween.f (k : Nat) (a0_0 : Int) (a0_1 : Int) (a1 : Int) (a2 : Int) (a3 : Int) : Option (Int × Bool) := (spec_nuAsked.f a0_0 a0_1 a1).bind fun t546 => (if t546 = true then ((spec_nuAsked.f a0_0 a0_1 a2).bind fun t547 => (if t547 = true then ((spec_l1In.f a3 0 1000).bind fun t548 => (spec_WalkBetween.j0 k a1 a2 a3 (!t548) a0_0 a0_1)) else (spec_WalkBetween.j0 k a1 a2 a3 true a0_0 a0_1))) else (spec_WalkBetween.j0 k a1 a2 a3 true a0_0 a0_1))
set_option maxHeartbeats 8000000 in
set_option maxRecDepth 100000 in
theorem spec_WalkBetween.calls (k : Nat) (a0_0 : Int) (a0_1 : Int) (a1 : Int) (a2 : Int) (a3 : Int) (r1 : Int) (r2 : Bool) (w : World) (h : spec_WalkBetween.f k a0_0 a0_1 a1 a2 a3 = some (r1, r2)) :
    Calls Tryz.prog 29 #[.agg #[.int .i64 a0_0, .int .i64 a0_1], .int .i64 a1, .int .i64 a2, .int .i64 a3] w fun e w' => e = .returned (.tuple #[.int .i64 r1, .bool r2]) ∧ Below w.heap.size w w' := by
  have hu25 := Tryz.underlying25
  have HB := Aside0.mk (Below.refl w.heap.size w)
  have H : ((spec_nuAsked.f a0_0 a0_1 a1).bind fun t546 => (if t546 = true then ((spec_nuAsked.f a0_0 a0_1 a2).bind fun t547 => (if t547 = true then ((spec_l1In.f a3 0 1000).bind fun t548 => (spec_WalkBetween.j0 k a1 a2 a3 (!t548) a0_0 a0_1)) else (spec_WalkBetween.j0 k a1 a2 a3 true a0_0 a0_1))) else (spec_WalkBetween.j0 k a1 a2 a3 true a0_0 a0_1))) = some (r1, r2) := h
  clear h
  have HC5 := Aside0.mk H
  clear H
  go_enter Tryz.func29, Tryz.ntmps29
  go_upto_region 1 with (first | ((with_reducible refine gate_dst (N := 4) rfl ?_); refine box_event ?hg (N := 4) ?hd (cs := #[.int .i64 a0_0, .int .i64 a0_1]) (t := 25) ?hr ?_; (case hd => rfl); (case hg => rfl); (case hr => go_simp <;> rfl); intro gb545 hg w6 hbox hb; have n0_ := Aside0.mk (below_step (by repeat first | exact HB.out | apply below_alloc | apply pw_below_drewN | apply below_drew1) hb); have n1_ := Aside0.mk (hbox); have n2_ := Aside0.mk ((by rw [hg]; exact (below_size (by repeat first | exact HB.out | apply below_alloc | apply pw_below_drewN | apply below_drew1)) : w.heap.size ≤ gb545)); have n3_ := Aside0.mk ((by rw [hg]; exact (below_size (by repeat first | exact HB.out | apply below_alloc | apply pw_below_drewN | apply below_drew1)) : w.heap.size ≤ gb545)); clear HB; have HB := n0_; have BK545 := n1_; have GW545 := n2_; have GE545 := n3_; clear n0_ n1_ n2_ n3_; clear hb hbox hg))
  (try simp only [Act.put, List.setIfInBounds_toArray, List.set_cons_zero, List.set_cons_succ])
  go_cut [29] (fun v29 wc => ∃ (kq : Nat) (x29_4 : Bool), v29 = .bool x29_4 ∧ Aside0 (spec_WalkBetween.j0 kq a1 a2 a3 x29_4 a0_0 a0_1 = some (r1, r2)) ∧ Aside0 (kq ≤ k) ∧ Aside0 (wc.heap[gb545]? = some (.cells #[.int .i64 a0_0, .int .i64 a0_1] 25 (0, 0))) ∧ Aside0 (Below w.heap.size w wc))
  case first =>
    have H := HC5.out
    clear HC5
    replace H := Option.bind_eq_some_iff.mp H
    obtain ⟨t546, A70, H⟩ := H
    replace H : (if t546 = true then ((spec_nuAsked.f a0_0 a0_1 a2).bind fun t547 => (if t547 = true then ((spec_l1In.f a3 0 1000).bind fun t548 => (spec_WalkBetween.j0 k a1 a2 a3 (!t548) a0_0 a0_1)) else (spec_WalkBetween.j0 k a1 a2 a3 true a0_0 a0_1))) else (spec_WalkBetween.j0 k a1 a2 a3 true a0_0 a0_1)) = some (r1, r2) := H
    have A7 := Aside0.mk A70
    clear A70
    by_cases c8 : t546 = true
    · subst c8
      have H1 : ((spec_nuAsked.f a0_0 a0_1 a2).bind fun t547 => (if t547 = true then ((spec_l1In.f a3 0 1000).bind fun t548 => (spec_WalkBetween.j0 k a1 a2 a3 (!t548) a0_0 a0_1)) else (spec_WalkBetween.j0 k a1 a2 a3 true a0_0 a0_1))) = some (r1, r2) := by rw [if_pos rfl] at H; exact H
      clear H
      have H := H1
      clear H1
      replace H := Option.bind_eq_some_iff.mp H
      obtain ⟨t547, A90, H⟩ := H
      replace H : (if t547 = true then ((spec_l1In.f a3 0 1000).bind fun t548 => (spec_WalkBetween.j0 k a1 a2 a3 (!t548) a0_0 a0_1)) else (spec_WalkBetween.j0 k a1 a2 a3 true a0_0 a0_1)) = some (r1, r2) := H
      have A9 := Aside0.mk A90
      clear A90
      by_cases c10 : t547 = true
      · subst c10
        have H1 : ((spec_l1In.f a3 0 1000).bind fun t548 => (spec_WalkBetween.j0 k a1 a2 a3 (!t548) a0_0 a0_1)) = some (r1, r2) := by rw [if_pos rfl] at H; exact H
        clear H
        have H := H1
        clear H1
        replace H := Option.bind_eq_some_iff.mp H
        obtain ⟨t548, A110, H⟩ := H
        replace H : (spec_WalkBetween.j0 k a1 a2 a3 (!t548) a0_0 a0_1) = some (r1, r2) := H
        have A11 := Aside0.mk A110
        clear A110
        have H' := Aside0.mk H
        clear H
        have hcz12_0 : w6.cell? ⟨gb545, 0, none⟩ = some (.int .i64 a0_0) := (blk_cell BK545.out 0).trans rfl
        have hcz12_1 : w6.cell? ⟨gb545, 1, none⟩ = some (.int .i64 a0_1) := (blk_cell BK545.out 1).trans rfl
        have hfz12_0 := blk_frozen BK545.out 0
        have hfz12_1 := blk_frozen BK545.out 1
        go_wp2_with (first | ((with_reducible refine gate_callee (f := 39) rfl ?_); refine goesL_ (some 17) rfl rfl Tryz.func39 (by kernel_rfl) rfl #[.agg #[.int .i64 a0_0, .int .i64 a0_1], .int .i64 a1] rfl (by (try simp only [List.map_toArray, List.map_cons, List.map_nil]); try rfl) ?_; (with_reducible refine (spec_nuAsked.calls a0_0 a0_1 a1 true _ A7.out).mono ?_); rintro e w13 ⟨rfl, hb⟩; refine ⟨_, rfl, ?_⟩; have n0_ := Aside0.mk (blk_below (g := gb545) (o := .cells #[.int .i64 a0_0, .int .i64 a0_1] 25 (0, 0)) (by (with_reducible repeat (first | refine blk_drewN ?_ _ | refine blk_drew ?_ | refine blk_alloc ?_ _)); exact BK545.out) hb); have n1_ := Aside0.mk (below_step (by repeat first | exact HB.out | apply below_alloc | apply pw_below_drewN | apply below_drew1 | refine below_set ?_ GE545.out) hb); clear BK545; clear HB; have BK545 := n0_; have HB := n1_; clear n0_ n1_; (try clear hb); (try clear hb2); (try clear hk); (try clear hi); have hcz14_0 : w13.cell? ⟨gb545, 0, none⟩ = some (.int .i64 a0_0) := (blk_cell BK545.out 0).trans rfl; have hcz14_1 : w13.cell? ⟨gb545, 1, none⟩ = some (.int .i64 a0_1) := (blk_cell BK545.out 1).trans rfl; have hfz14_0 := blk_frozen BK545.out 0; have hfz14_1 := blk_frozen BK545.out 1) | (go_at_call 39; (with_reducible refine (spec_nuAsked.calls a0_0 a0_1 a2 true _ A9.out).mono ?_); rintro e w15 ⟨rfl, hb⟩; have n0_ := Aside0.mk (blk_below (g := gb545) (o := .cells #[.int .i64 a0_0, .int .i64 a0_1] 25 (0, 0)) (by (with_reducible repeat (first | refine blk_drewN ?_ _ | refine blk_drew ?_ | refine blk_alloc ?_ _)); exact BK545.out) hb); have n1_ := Aside0.mk (below_step (by repeat first | exact HB.out | apply below_alloc | apply pw_below_drewN | apply below_drew1 | refine below_set ?_ GE545.out) hb); clear BK545; clear HB; have BK545 := n0_; have HB := n1_; clear n0_ n1_; (try clear hb); (try clear hb2); (try clear hk); (try clear hi)) | (go_at_call 45; (with_reducible refine (spec_l1In.calls a3 0 1000 t548 _ A11.out).mono ?_); rintro e w' ⟨rfl, ⟨nd, rfl⟩⟩))
        go_meet
        case rel => exact ⟨_, (!t548), (by first | rfl | (simp; done) | (simp [*]; done)), H', ⟨by first | omega | exact Nat.le_refl _⟩, ⟨by (with_reducible repeat (first | refine blk_drewN ?_ _ | refine blk_drew ?_ | refine blk_alloc ?_ _)); exact BK545.out⟩, ⟨by repeat first | exact HB.out | apply below_alloc | apply pw_below_drewN | apply below_drew1 | refine below_set ?_ GE545.out⟩⟩
      · replace c10 := Bool.eq_false_iff.mpr c10
        subst c10
        have H1 : (spec_WalkBetween.j0 k a1 a2 a3 true a0_0 a0_1) = some (r1, r2) := by rw [if_neg (show ¬ (false = true) by decide)] at H; exact H
        clear H
        have H := H1
        clear H1
        have H' := Aside0.mk H
        clear H
        have hcz16_0 : w6.cell? ⟨gb545, 0, none⟩ = some (.int .i64 a0_0) := (blk_cell BK545.out 0).trans rfl
        have hcz16_1 : w6.cell? ⟨gb545, 1, none⟩ = some (.int .i64 a0_1) := (blk_cell BK545.out 1).trans rfl
        have hfz16_0 := blk_frozen BK545.out 0
        have hfz16_1 := blk_frozen BK545.out 1
        go_wp2_with (first | ((with_reducible refine gate_callee (f := 39) rfl ?_); refine goesL_ (some 17) rfl rfl Tryz.func39 (by kernel_rfl) rfl #[.agg #[.int .i64 a0_0, .int .i64 a0_1], .int .i64 a1] rfl (by (try simp only [List.map_toArray, List.map_cons, List.map_nil]); try rfl) ?_; (with_reducible refine (spec_nuAsked.calls a0_0 a0_1 a1 true _ A7.out).mono ?_); rintro e w17 ⟨rfl, hb⟩; refine ⟨_, rfl, ?_⟩; have n0_ := Aside0.mk (blk_below (g := gb545) (o := .cells #[.int .i64 a0_0, .int .i64 a0_1] 25 (0, 0)) (by (with_reducible repeat (first | refine blk_drewN ?_ _ | refine blk_drew ?_ | refine blk_alloc ?_ _)); exact BK545.out) hb); have n1_ := Aside0.mk (below_step (by repeat first | exact HB.out | apply below_alloc | apply pw_below_drewN | apply below_drew1 | refine below_set ?_ GE545.out) hb); clear BK545; clear HB; have BK545 := n0_; have HB := n1_; clear n0_ n1_; (try clear hb); (try clear hb2); (try clear hk); (try clear hi); have hcz18_0 : w17.cell? ⟨gb545, 0, none⟩ = some (.int .i64 a0_0) := (blk_cell BK545.out 0).trans rfl; have hcz18_1 : w17.cell? ⟨gb545, 1, none⟩ = some (.int .i64 a0_1) := (blk_cell BK545.out 1).trans rfl; have hfz18_0 := blk_frozen BK545.out 0; have hfz18_1 := blk_frozen BK545.out 1) | (go_at_call 39; (with_reducible refine (spec_nuAsked.calls a0_0 a0_1 a2 false _ A9.out).mono ?_); rintro e w19 ⟨rfl, hb⟩; have n0_ := Aside0.mk (blk_below (g := gb545) (o := .cells #[.int .i64 a0_0, .int .i64 a0_1] 25 (0, 0)) (by (with_reducible repeat (first | refine blk_drewN ?_ _ | refine blk_drew ?_ | refine blk_alloc ?_ _)); exact BK545.out) hb); have n1_ := Aside0.mk (below_step (by repeat first | exact HB.out | apply below_alloc | apply pw_below_drewN | apply below_drew1 | refine below_set ?_ GE545.out) hb); clear BK545; clear HB; have BK545 := n0_; have HB := n1_; clear n0_ n1_; (try clear hb); (try clear hb2); (try clear hk); (try clear hi)))
        go_meet
        case rel => exact ⟨_, (true), (by first | rfl | (simp; done) | (simp [*]; done)), H', ⟨by first | omega | exact Nat.le_refl _⟩, ⟨by (with_reducible repeat (first | refine blk_drewN ?_ _ | refine blk_drew ?_ | refine blk_alloc ?_ _)); exact BK545.out⟩, ⟨by repeat first | exact HB.out | apply below_alloc | apply pw_below_drewN | apply below_drew1 | refine below_set ?_ GE545.out⟩⟩
    · replace c8 := Bool.eq_false_iff.mpr c8
      subst c8
      have H1 : (spec_WalkBetween.j0 k a1 a2 a3 true a0_0 a0_1) = some (r1, r2) := by rw [if_neg (show ¬ (false = true) by decide)] at H; exact H
      clear H
      have H := H1
      clear H1
      have H' := Aside0.mk H
      clear H
      have hcz20_0 : w6.cell? ⟨gb545, 0, none⟩ = some (.int .i64 a0_0) := (blk_cell BK545.out 0).trans rfl
      have hcz20_1 : w6.cell? ⟨gb545, 1, none⟩ = some (.int .i64 a0_1) := (blk_cell BK545.out 1).trans rfl
      have hfz20_0 := blk_frozen BK545.out 0
      have hfz20_1 := blk_frozen BK545.out 1
      go_wp2_with (first | ((with_reducible refine gate_callee (f := 39) rfl ?_); refine goesL_ (some 17) rfl rfl Tryz.func39 (by kernel_rfl) rfl #[.agg #[.int .i64 a0_0, .int .i64 a0_1], .int .i64 a1] rfl (by (try simp only [List.map_toArray, List.map_cons, List.map_nil]); try rfl) ?_; (with_reducible refine (spec_nuAsked.calls a0_0 a0_1 a1 false _ A7.out).mono ?_); rintro e w21 ⟨rfl, hb⟩; refine ⟨_, rfl, ?_⟩; have n0_ := Aside0.mk (blk_below (g := gb545) (o := .cells #[.int .i64 a0_0, .int .i64 a0_1] 25 (0, 0)) (by (with_reducible repeat (first | refine blk_drewN ?_ _ | refine blk_drew ?_ | refine blk_alloc ?_ _)); exact BK545.out) hb); have n1_ := Aside0.mk (below_step (by repeat first | exact HB.out | apply below_alloc | apply pw_below_drewN | apply below_drew1 | refine below_set ?_ GE545.out) hb); clear BK545; clear HB; have BK545 := n0_; have HB := n1_; clear n0_ n1_; (try clear hb); (try clear hb2); (try clear hk); (try clear hi)))
      go_meet
      case rel => exact ⟨_, (true), (by first | rfl | (simp; done) | (simp [*]; done)), H', ⟨by first | omega | exact Nat.le_refl _⟩, ⟨by (with_reducible repeat (first | refine blk_drewN ?_ _ | refine blk_drew ?_ | refine blk_alloc ?_ _)); exact BK545.out⟩, ⟨by repeat first | exact HB.out | apply below_alloc | apply pw_below_drewN | apply below_drew1 | refine below_set ?_ GE545.out⟩⟩
  case rest =>
    clear HC5
    try clear c1
    try clear c2
    try clear p2
    try clear c3
    try clear c8
    try clear c10
    try clear hcz12_0
    try clear hcz12_1
    try clear hcz14_0
    try clear hcz14_1
    try clear hcz16_0
    try clear hcz16_1
    try clear hcz18_0
    try clear hcz18_1
    try clear hcz20_0
    try clear hcz20_1
    try clear hfz12_0
    try clear hfz12_1
    try clear hfz14_0
    try clear hfz14_1
    try clear hfz16_0
    try clear hfz16_1
    try clear hfz18_0
    try clear hfz18_1
    try clear hfz20_0
    try clear hfz20_1
    obtain ⟨kq, x29_4, rfl, HA, HJ4, BK545, HB⟩ := hcut
    cases kq with
    | zero => exact absurd HA.out (by simp [spec_WalkBetween.j0])
    | succ kj4 =>
      have H := HA.out
      clear HA
      simp only [spec_WalkBetween.j0] at H
      by_cases c22 : x29_4 = true
      · subst c22
        have H1 : (some (0, false)) = some (r1, r2) := by rw [if_pos rfl] at H; exact H
        clear H
        have H := H1
        clear H1
        simp only [Option.some.injEq, Prod.mk.injEq] at H
        obtain ⟨rfl, rfl⟩ := H
        go_wp2
        go_ret2
        exact ⟨by first | rfl | (simp [*, errW_none, errW_some] <;> rfl), by repeat first | exact HB.out | apply below_alloc | apply pw_below_drewN | apply below_drew1 | refine below_set ?_ GE545.out⟩
      · replace c22 := Bool.eq_false_iff.mpr c22
        subst c22
        have H1 : ((spec_nuPlot.f a0_0 a0_1 a1).bind fun bt549 => ((spec_nuPlot.f a0_0 a0_1 a2).bind fun bt551 => ((spec_l1Abs.f (wrap64 (bt549.2 - bt551.2))).bind fun t553 => (if bt549.1 = bt551.1 then (some (t553, true)) else (some (wrap64 (t553 + a3), true)))))) = some (r1, r2) := by rw [if_neg (show ¬ (false = true) by decide)] at H; exact H
        clear H
        have H := H1
        clear H1
        replace H := Option.bind_eq_some_iff.mp H
        obtain ⟨⟨t549, t550⟩, A230, H⟩ := H
        replace H : ((spec_nuPlot.f a0_0 a0_1 a2).bind fun bt551 => ((spec_l1Abs.f (wrap64 (t550 - bt551.2))).bind fun t553 => (if t549 = bt551.1 then (some (t553, true)) else (some (wrap64 (t553 + a3), true))))) = some (r1, r2) := H
        have A23 := Aside0.mk A230
        clear A230
        replace H := Option.bind_eq_some_iff.mp H
        obtain ⟨⟨t551, t552⟩, A240, H⟩ := H
        replace H : ((spec_l1Abs.f (wrap64 (t550 - t552))).bind fun t553 => (if t549 = t551 then (some (t553, true)) else (some (wrap64 (t553 + a3), true)))) = some (r1, r2) := H
        have A24 := Aside0.mk A240
        clear A240
        replace H := Option.bind_eq_some_iff.mp H
        obtain ⟨t553, A250, H⟩ := H
        replace H : (if t549 = t551 then (some (t553, true)) else (some (wrap64 (t553 + a3), true))) = some (r1, r2) := H
        have A25 := Aside0.mk A250
        clear A250
        by_cases c26 : t549 = t551
        · rw [if_pos c26] at H
          have c26b0 : (t549 == t551) = true := beq_iff_eq.mpr c26
          have c26b1 : (t549 != t551) = false := bne_eq_false_iff_eq.mpr c26
          clear c26
          simp only [Option.some.injEq, Prod.mk.injEq] at H
          obtain ⟨rfl, rfl⟩ := H
          have hcz27_0 : wc.cell? ⟨gb545, 0, none⟩ = some (.int .i64 a0_0) := (blk_cell BK545.out 0).trans rfl
          have hcz27_1 : wc.cell? ⟨gb545, 1, none⟩ = some (.int .i64 a0_1) := (blk_cell BK545.out 1).trans rfl
          have hfz27_0 := blk_frozen BK545.out 0
          have hfz27_1 := blk_frozen BK545.out 1
          go_wp2_with (first | ((with_reducible refine gate_callee (f := 40) rfl ?_); refine goesL_ (some 33) rfl rfl Tryz.func40 (by kernel_rfl) rfl #[.agg #[.int .i64 a0_0, .int .i64 a0_1], .int .i64 a1] rfl (by (try simp only [List.map_toArray, List.map_cons, List.map_nil]); try rfl) ?_; (with_reducible refine (spec_nuPlot.calls a0_0 a0_1 a1 t549 t550 _ A23.out).mono ?_); rintro e w28 ⟨rfl, hb⟩; refine ⟨_, rfl, ?_⟩; have n0_ := Aside0.mk (blk_below (g := gb545) (o := .cells #[.int .i64 a0_0, .int .i64 a0_1] 25 (0, 0)) (by (with_reducible repeat (first | refine blk_drewN ?_ _ | refine blk_drew ?_ | refine blk_alloc ?_ _)); exact BK545.out) hb); have n1_ := Aside0.mk (below_step (by repeat first | exact HB.out | apply below_alloc | apply pw_below_drewN | apply below_drew1 | refine below_set ?_ GE545.out) hb); clear BK545; clear HB; have BK545 := n0_; have HB := n1_; clear n0_ n1_; (try clear hb); (try clear hb2); (try clear hk); (try clear hi); have hcz29_0 : w28.cell? ⟨gb545, 0, none⟩ = some (.int .i64 a0_0) := (blk_cell BK545.out 0).trans rfl; have hcz29_1 : w28.cell? ⟨gb545, 1, none⟩ = some (.int .i64 a0_1) := (blk_cell BK545.out 1).trans rfl; have hfz29_0 := blk_frozen BK545.out 0; have hfz29_1 := blk_frozen BK545.out 1) | ((with_reducible refine gate_callee (f := 40) rfl ?_); refine goesL_ (some 39) rfl rfl Tryz.func40 (by kernel_rfl) rfl #[.agg #[.int .i64 a0_0, .int .i64 a0_1], .int .i64 a2] rfl (by (try simp only [List.map_toArray, List.map_cons, List.map_nil]); try rfl) ?_; (with_reducible refine (spec_nuPlot.calls a0_0 a0_1 a2 t551 t552 _ A24.out).mono ?_); rintro e w30 ⟨rfl, hb⟩; refine ⟨_, rfl, ?_⟩; have n0_ := Aside0.mk (blk_below (g := gb545) (o := .cells #[.int .i64 a0_0, .int .i64 a0_1] 25 (0, 0)) (by (with_reducible repeat (first | refine blk_drewN ?_ _ | refine blk_drew ?_ | refine blk_alloc ?_ _)); exact BK545.out) hb); have n1_ := Aside0.mk (below_step (by repeat first | exact HB.out | apply below_alloc | apply pw_below_drewN | apply below_drew1 | refine below_set ?_ GE545.out) hb); clear BK545; clear HB; have BK545 := n0_; have HB := n1_; clear n0_ n1_; (try clear hb); (try clear hb2); (try clear hk); (try clear hi)) | ((with_reducible refine gate_callee (f := 60) rfl ?_); refine goesL_ (some 45) rfl rfl Tryz.func60 (by kernel_rfl) rfl #[.int .i64 (wrap64 (t550 - t552))] rfl (by (try simp only [List.map_toArray, List.map_cons, List.map_nil]); try rfl) ?_; (with_reducible refine (spec_l1Abs.calls (wrap64 (t550 - t552)) t553 _ A25.out).mono ?_); rintro e w' ⟨rfl, ⟨nd, rfl⟩⟩; refine ⟨_, rfl, ?_⟩))
          go_ret2
          exact ⟨by first | rfl | (simp [*, errW_none, errW_some] <;> rfl), by repeat first | exact HB.out | apply below_alloc | apply pw_below_drewN | apply below_drew1 | refine below_set ?_ GE545.out⟩
        · rw [if_neg c26] at H
          have c26b0 : (t549 == t551) = false := beq_eq_false_iff_ne.mpr c26
          have c26b1 : (t549 != t551) = true := bne_iff_ne.mpr c26
          simp only [Option.some.injEq, Prod.mk.injEq] at H
          obtain ⟨rfl, rfl⟩ := H
          have hcz31_0 : wc.cell? ⟨gb545, 0, none⟩ = some (.int .i64 a0_0) := (blk_cell BK545.out 0).trans rfl
          have hcz31_1 : wc.cell? ⟨gb545, 1, none⟩ = some (.int .i64 a0_1) := (blk_cell BK545.out 1).trans rfl
          have hfz31_0 := blk_frozen BK545.out 0
          have hfz31_1 := blk_frozen BK545.out 1
          go_wp2_with (first | ((with_reducible refine gate_callee (f := 40) rfl ?_); refine goesL_ (some 33) rfl rfl Tryz.func40 (by kernel_rfl) rfl #[.agg #[.int .i64 a0_0, .int .i64 a0_1], .int .i64 a1] rfl (by (try simp only [List.map_toArray, List.map_cons, List.map_nil]); try rfl) ?_; (with_reducible refine (spec_nuPlot.calls a0_0 a0_1 a1 t549 t550 _ A23.out).mono ?_); rintro e w32 ⟨rfl, hb⟩; refine ⟨_, rfl, ?_⟩; have n0_ := Aside0.mk (blk_below (g := gb545) (o := .cells #[.int .i64 a0_0, .int .i64 a0_1] 25 (0, 0)) (by (with_reducible repeat (first | refine blk_drewN ?_ _ | refine blk_drew ?_ | refine blk_alloc ?_ _)); exact BK545.out) hb); have n1_ := Aside0.mk (below_step (by repeat first | exact HB.out | apply below_alloc | apply pw_below_drewN | apply below_drew1 | refine below_set ?_ GE545.out) hb); clear BK545; clear HB; have BK545 := n0_; have HB := n1_; clear n0_ n1_; (try clear hb); (try clear hb2); (try clear hk); (try clear hi); have hcz33_0 : w32.cell? ⟨gb545, 0, none⟩ = some (.int .i64 a0_0) := (blk_cell BK545.out 0).trans rfl; have hcz33_1 : w32.cell? ⟨gb545, 1, none⟩ = some (.int .i64 a0_1) := (blk_cell BK545.out 1).trans rfl; have hfz33_0 := blk_frozen BK545.out 0; have hfz33_1 := blk_frozen BK545.out 1) | ((with_reducible refine gate_callee (f := 40) rfl ?_); refine goesL_ (some 39) rfl rfl Tryz.func40 (by kernel_rfl) rfl #[.agg #[.int .i64 a0_0, .int .i64 a0_1], .int .i64 a2] rfl (by (try simp only [List.map_toArray, List.map_cons, List.map_nil]); try rfl) ?_; (with_reducible refine (spec_nuPlot.calls a0_0 a0_1 a2 t551 t552 _ A24.out).mono ?_); rintro e w34 ⟨rfl, hb⟩; refine ⟨_, rfl, ?_⟩; have n0_ := Aside0.mk (blk_below (g := gb545) (o := .cells #[.int .i64 a0_0, .int .i64 a0_1] 25 (0, 0)) (by (with_reducible repeat (first | refine blk_drewN ?_ _ | refine blk_drew ?_ | refine blk_alloc ?_ _)); exact BK545.out) hb); have n1_ := Aside0.mk (below_step (by repeat first | exact HB.out | apply below_alloc | apply pw_below_drewN | apply below_drew1 | refine below_set ?_ GE545.out) hb); clear BK545; clear HB; have BK545 := n0_; have HB := n1_; clear n0_ n1_; (try clear hb); (try clear hb2); (try clear hk); (try clear hi)) | ((with_reducible refine gate_callee (f := 60) rfl ?_); refine goesL_ (some 45) rfl rfl Tryz.func60 (by kernel_rfl) rfl #[.int .i64 (wrap64 (t550 - t552))] rfl (by (try simp only [List.map_toArray, List.map_cons, List.map_nil]); try rfl) ?_; (with_reducible refine (spec_l1Abs.calls (wrap64 (t550 - t552)) t553 _ A25.out).mono ?_); rintro e w' ⟨rfl, ⟨nd, rfl⟩⟩; refine ⟨_, rfl, ?_⟩))
          go_ret2
          exact ⟨by first | rfl | (simp [*, errW_none, errW_some] <;> rfl), by repeat first | exact HB.out | apply below_alloc | apply pw_below_drewN | apply below_drew1 | refine below_set ?_ GE545.out⟩

/-! ### spec_DrawSideNumbers: function 30 -/
def spec_DrawSideNumbers.f (l0 : List Int) : Option (Int × Int × Int) := (spec_l1Cur_street.f l0 0 0).bind fun bt556 => ((spec_l1Cur_among.f l0 bt556.2.2.1 bt556.2.2.2 (([0, 1, 1, 2, (-1)] : List Int))).bind fun bt564 => (some (bt556.1, bt556.2.1, bt564.1)))
set_option maxHeartbeats 8000000 in
set_option maxRecDepth 100000 in
theorem spec_DrawSideNumbers.calls (A0 : Option Addr) (c0 : Nat) (l0 : List Int) (r1 : Int) (r2 : Int) (r3 : Int) (w : World) (hr0 : Kd.C (Kd.int .u8) w A0 l0.length l0) (hc0 : l0.length ≤ c0) (h : spec_DrawSideNumbers.f l0 = some (r1, r2, r3)) :
    Calls Tryz.prog 30 #[.slice A0 l0.length c0] w fun e w' => e = .returned (.tuple #[.agg #[.int .i64 r1, .int .i64 r2], .int .i64 r3]) ∧ Below w.heap.size w w' := by
  have hu25 := Tryz.underlying25
  have hu54 := Tryz.underlying54
  have HR0 := Aside0.mk hr0
  have HC0 := Aside0.mk hc0
  clear hr0 hc0
  have HB := Aside0.mk (Below.refl w.heap.size w)
  have H : ((spec_l1Cur_street.f l0 0 0).bind fun bt556 => ((spec_l1Cur_among.f l0 bt556.2.2.1 bt556.2.2.2 (([0, 1, 1, 2, (-1)] : List Int))).bind fun bt564 => (some (bt556.1, bt556.2.1, bt564.1)))) = some (r1, r2, r3) := h
  clear h
  replace H := Option.bind_eq_some_iff.mp H
  obtain ⟨⟨t556, t557, t558, t559⟩, A20, H⟩ := H
  replace H : ((spec_l1Cur_among.f l0 t558 t559 (([0, 1, 1, 2, (-1)] : List Int))).bind fun bt564 => (some (t556, t557, bt564.1))) = some (r1, r2, r3) := H
  have A2 := Aside0.mk A20
  clear A20
  obtain ⟨y561, hy561⟩ : ∃ y_ : List Int, y_ = (([0, 1, 1, 2, (-1)] : List Int)) := ⟨_, rfl⟩
  replace H : ((spec_l1Cur_among.f l0 t558 t559 y561).bind fun bt564 => (some (t556, t557, bt564.1))) = some (r1, r2, r3) := by first | (rw [hy561]; with_reducible exact H) | (have H2_ := (Option.bind_some _ _).symm.trans H; rw [hy561]; with_reducible exact H2_) | (have H2_ := (Option.bind_some _ _).symm.trans H; with_reducible exact H2_) | with_reducible exact H | (rw [hy561]; exact H) | exact H
  have Ny561 := Aside0.mk hy561
  clear hy561
  replace H := Option.bind_eq_some_iff.mp H
  obtain ⟨⟨t564, t565, t566⟩, A30, H⟩ := H
  replace H : (some (t556, t557, t564)) = some (r1, r2, r3) := H
  have A3 := Aside0.mk A30
  clear A30
  simp only [Option.some.injEq, Prod.mk.injEq] at H
  obtain ⟨rfl, rfl, rfl⟩ := H
  go_enter Tryz.func30, Tryz.ntmps30
  try go_wp2_with (first | ((with_reducible refine gate_dst (N := 2) rfl ?_); refine box_event ?hg (N := 2) ?hd (cs := #[.int .i64 0, .int .i64 0]) (t := 25) ?hr ?_; (case hd => rfl); (case hg => rfl); (case hr => go_simp <;> rfl); intro gb554 hg w4 hbox hb; have n0_ := Aside0.mk (below_step (by repeat first | exact HB.out | apply below_alloc | apply pw_below_drewN | apply below_drew1) hb); have n1_ := Aside0.mk (hbox); have n2_ := Aside0.mk ((by rw [hg]; exact (below_size (by repeat first | exact HB.out | apply below_alloc | apply pw_below_drewN | apply below_drew1)) : w.heap.size ≤ gb554)); have n3_ := Aside0.mk ((by rw [hg]; exact (below_size (by repeat first | exact HB.out | apply below_alloc | apply pw_below_drewN | apply below_drew1)) : w.heap.size ≤ gb554)); clear HB; have HB := n0_; have BK554 := n1_; have GW554 := n2_; have GE554 := n3_; clear n0_ n1_ n2_ n3_; clear hb hbox hg) | ((with_reducible refine gate_dst (N := 8) rfl ?_); refine box_event ?hg (N := 8) ?hd (cs := #[.slice A0 l0.length c0, .int .i64 0, .int .u64 0]) (t := 54) ?hr ?_; (case hd => rfl); (case hg => rfl); (case hr => go_simp <;> rfl); intro gb555 hg w5 hbox hb; have n0_ := Aside0.mk (blk_below (g := gb554) (o := .cells #[.int .i64 0, .int .i64 0] 25 (0, 0)) (by (with_reducible repeat (first | refine blk_drewN ?_ _ | refine blk_drew ?_ | refine blk_alloc ?_ _)); exact BK554.out) hb); have n1_ := Aside0.mk (below_step (by repeat first | exact HB.out | apply below_alloc | apply pw_below_drewN | apply below_drew1 | refine below_set ?_ GE554.out) hb); have n2_ := Aside0.mk (hbox); have n3_ := Aside0.mk ((by rw [hg]; exact (below_size (by repeat first | exact HB.out | apply below_alloc | apply pw_below_drewN | apply below_drew1 | refine below_set ?_ GE554.out)) : w.heap.size ≤ gb555)); have n4_ := Aside0.mk ((by rw [hg]; exact (below_size (by repeat first | exact HB.out | apply below_alloc | apply pw_below_drewN | apply below_drew1 | refine below_set ?_ GE554.out)) : w.heap.size ≤ gb555)); have n5_ := Aside0.mk ((by rw [hg]; exact Nat.ne_of_lt (blk_lt (g := gb554) (o := .cells #[.int .i64 0, .int .i64 0] 25 (0, 0)) (by (with_reducible repeat (first | refine blk_drewN ?_ _ | refine blk_drew ?_ | refine blk_alloc ?_ _)); exact BK554.out)) : gb554 ≠ gb555)); have n6_ := Aside0.mk ((by rw [hg]; exact Nat.ne_of_gt (blk_lt (g := gb554) (o := .cells #[.int .i64 0, .int .i64 0] 25 (0, 0)) (by (with_reducible repeat (first | refine blk_drewN ?_ _ | refine blk_drew ?_ | refine blk_alloc ?_ _)); exact BK554.out)) : gb555 ≠ gb554)); have n7_ := Aside0.mk ((⟨_, _, hbox, by rw [hg]; exact (below_size (by repeat first | exact HB.out | apply below_alloc | apply pw_below_drewN | apply below_drew1 | refine below_set ?_ GE554.out)), HR0.out⟩ : IsS54 w w5 gb555 l0 0 0)); clear BK554; clear HB; have BK554 := n0_; have HB := n1_; have BK555 := n2_; have GW555 := n3_; have GE555 := n4_; have NB554_555 := n5_; have NB555_554 := n6_; have HI555 := n7_; clear n0_ n1_ n2_ n3_ n4_ n5_ n6_ n7_; clear hb hbox hg) | ((with_reducible refine gate_callee (f := 35) rfl ?_); refine goesL_ (some 10) rfl rfl Tryz.func35 (by kernel_rfl) rfl #[.pointer (some ⟨gb555, 0, none⟩)] rfl (by (try simp only [List.map_toArray, List.map_cons, List.map_nil]); try rfl) ?_; (with_reducible refine (spec_l1Cur_street.calls gb555 l0 0 0 t556 t557 t558 t559 w _ ?side1 ?side2 A2.out).mono ?_); (case side1 => repeat (first | (with_reducible first | exact HI555.out | apply IsS54.alloc | apply IsS54.drewN | apply IsS54.drew | apply IsS54.set_1 | apply IsS54.set_2 | refine IsS54.far ?_ NB555_554.out _) | exact HI555.out)); (case side2 => repeat (first | (with_reducible first | exact HB.out | apply below_alloc | apply pw_below_drewN | apply below_drew1 | refine below_set ?_ (IsS54.ge HI555.out) | refine below_set ?_ GE554.out) | exact HB.out)); rintro e w6 ⟨rfl, hi, hb, hk⟩; refine ⟨_, rfl, ?_⟩; have n0_ := Aside0.mk (KeepBut.blk hk (g' := gb554) (o := .cells #[.int .i64 0, .int .i64 0] 25 (0, 0)) (by (with_reducible repeat (first | refine blk_drewN ?_ _ | refine blk_drew ?_ | refine blk_alloc ?_ _)); exact BK554.out) NB554_555.out (by simp)); have n1_ := Aside0.mk (hb); have n2_ := Aside0.mk (hi); clear BK554; clear HB; clear HI555; have BK554 := n0_; have HB := n1_; have HI555 := n2_; clear n0_ n1_ n2_; (try clear hb); (try clear hb2); (try clear hk); (try clear hi)) | ((with_reducible refine gate_dst (N := 5) rfl ?_); refine box_event ?hg (N := 5) ?hd (cs := #[.int .i64 0, .int .i64 0]) (t := 25) ?hr ?_; (case hd => rfl); (case hg => rfl); (case hr => go_simp <;> rfl); intro gb560 hg w7 hbox hb; have n0_ := Aside0.mk (blk_below (g := gb554) (o := .cells #[.int .i64 0, .int .i64 0] 25 (0, 0)) (by (with_reducible repeat (first | refine blk_drewN ?_ _ | refine blk_drew ?_ | refine blk_alloc ?_ _)); exact BK554.out) hb); have n1_ := Aside0.mk (IsS54.below (by repeat first | exact HI555.out | apply IsS54.alloc | apply IsS54.drewN | apply IsS54.drew | apply IsS54.set_1 | apply IsS54.set_2 | refine IsS54.far ?_ NB555_554.out _) hb); have n2_ := Aside0.mk (below_step (by repeat first | exact HB.out | apply below_alloc | apply pw_below_drewN | apply below_drew1 | refine below_set ?_ (IsS54.ge HI555.out) | refine below_set ?_ GE554.out) hb); have n3_ := Aside0.mk (hbox); have n4_ := Aside0.mk ((by rw [hg]; exact (below_size (by repeat first | exact HB.out | apply below_alloc | apply pw_below_drewN | apply below_drew1 | refine below_set ?_ (IsS54.ge HI555.out) | refine below_set ?_ GE554.out)) : w.heap.size ≤ gb560)); have n5_ := Aside0.mk ((by rw [hg]; exact (below_size (by repeat first | exact HB.out | apply below_alloc | apply pw_below_drewN | apply below_drew1 | refine below_set ?_ (IsS54.ge HI555.out) | refine below_set ?_ GE554.out)) : w.heap.size ≤ gb560)); have n6_ := Aside0.mk ((by rw [hg]; exact Nat.ne_of_lt (blk_lt (g := gb554) (o := .cells #[.int .i64 0, .int .i64 0] 25 (0, 0)) (by (with_reducible repeat (first | refine blk_drewN ?_ _ | refine blk_drew ?_ | refine blk_alloc ?_ _)); exact BK554.out)) : gb554 ≠ gb560)); have n7_ := Aside0.mk ((by rw [hg]; exact Nat.ne_of_gt (blk_lt (g := gb554) (o := .cells #[.int .i64 0, .int .i64 0] 25 (0, 0)) (by (with_reducible repeat (first | refine blk_drewN ?_ _ | refine blk_drew ?_ | refine blk_alloc ?_ _)); exact BK554.out)) : gb560 ≠ gb554)); have n8_ := Aside0.mk ((by rw [hg]; exact Nat.ne_of_lt (IsS54.lt (show IsS54 w _ gb555 l0 t558 t559 from by repeat first | exact HI555.out | apply IsS54.alloc | apply IsS54.drewN | apply IsS54.drew | apply IsS54.set_1 | apply IsS54.set_2 | refine IsS54.far ?_ NB555_554.out _)) : gb555 ≠ gb560)); have n9_ := Aside0.mk ((by rw [hg]; exact Nat.ne_of_gt (IsS54.lt (show IsS54 w _ gb555 l0 t558 t559 from by repeat first | exact HI555.out | apply IsS54.alloc | apply IsS54.drewN | apply IsS54.drew | apply IsS54.set_1 | apply IsS54.set_2 | refine IsS54.far ?_ NB555_554.out _)) : gb560 ≠ gb555)); clear BK554; clear HI555; clear HB; have BK554 := n0_; have HI555 := n1_; have HB := n2_; have BK560 := n3_; have GW560 := n4_; have GE560 := n5_; have NB554_560 := n6_; have NB560_554 := n7_; have NB555_560 := n8_; have NB560_555 := n9_; clear n0_ n1_ n2_ n3_ n4_ n5_ n6_ n7_ n8_ n9_; clear hb hbox hg; have hnb8 := NB560_554.out; have hnc8 := NB554_560.out; have hnb9 := NB560_555.out; have hnc9 := NB555_560.out; have hcz10_0 : w7.cell? ⟨gb560, 0, none⟩ = some (.int .i64 0) := (blk_cell BK560.out 0).trans rfl; have hcz10_1 : w7.cell? ⟨gb560, 1, none⟩ = some (.int .i64 0) := (blk_cell BK560.out 1).trans rfl; have hfz10_0 := blk_frozen BK560.out 0; have hfz10_1 := blk_frozen BK560.out 1))
  have n0_ : Aside0 (((w7.setCell ⟨gb560, 0, none⟩ (.int .i64 t556)).setCell ⟨gb560, 1, none⟩ (.int .i64 t557)).heap[gb554]? = some (.cells #[.int .i64 0, .int .i64 0] 25 (0, 0))) := ⟨by (with_reducible repeat (first | refine blk_drewN ?_ _ | refine blk_drew ?_ | refine blk_alloc ?_ _)); refine blk_far ?_ NB554_560.out _; (with_reducible repeat (first | refine blk_drewN ?_ _ | refine blk_drew ?_ | refine blk_alloc ?_ _)); refine blk_far ?_ NB554_560.out _; (with_reducible repeat (first | refine blk_drewN ?_ _ | refine blk_drew ?_ | refine blk_alloc ?_ _)); exact BK554.out⟩
  have n1_ : Aside0 (((w7.setCell ⟨gb560, 0, none⟩ (.int .i64 t556)).setCell ⟨gb560, 1, none⟩ (.int .i64 t557)).heap[gb560]? = some (.cells #[.int .i64 t556, .int .i64 t557] 25 (0, 0))) := ⟨by (with_reducible repeat (first | refine blk_drewN ?_ _ | refine blk_drew ?_ | refine blk_alloc ?_ _)); refine blk_put (cs := #[.int .i64 t556, .int .i64 0]) ?_ 1 _ rfl; (with_reducible repeat (first | refine blk_drewN ?_ _ | refine blk_drew ?_ | refine blk_alloc ?_ _)); refine blk_put (cs := #[.int .i64 0, .int .i64 0]) ?_ 0 _ rfl; (with_reducible repeat (first | refine blk_drewN ?_ _ | refine blk_drew ?_ | refine blk_alloc ?_ _)); exact BK560.out⟩
  have n2_ : Aside0 (IsS54 w ((w7.setCell ⟨gb560, 0, none⟩ (.int .i64 t556)).setCell ⟨gb560, 1, none⟩ (.int .i64 t557)) gb555 l0 t558 t559) := ⟨by repeat first | exact HI555.out | apply IsS54.alloc | apply IsS54.drewN | apply IsS54.drew | apply IsS54.set_1 | apply IsS54.set_2 | refine IsS54.far ?_ NB555_554.out _ | refine IsS54.far ?_ NB555_560.out _⟩
  have n3_ : Aside0 (Below w.heap.size w ((w7.setCell ⟨gb560, 0, none⟩ (.int .i64 t556)).setCell ⟨gb560, 1, none⟩ (.int .i64 t557))) := ⟨by repeat first | exact HB.out | apply below_alloc | apply pw_below_drewN | apply below_drew1 | refine below_set ?_ (IsS54.ge HI555.out) | refine below_set ?_ GE554.out | refine below_set ?_ GE560.out⟩
  (try clear BK554)
  (try clear BK560)
  (try clear HI555)
  (try clear HB)
  (try simp only [setCell_drewN_spec_DrawWalkBetween, drewN_drewN_spec_DrawWalkBetween])
  generalize ((w7.setCell ⟨gb560, 0, none⟩ (.int .i64 t556)).setCell ⟨gb560, 1, none⟩ (.int .i64 t557)) = w11 at n0_ n1_ n2_ n3_ ⊢
  have BK554 := n0_
  have BK560 := n1_
  have HI555 := n2_
  have HB := n3_
  clear n0_ n1_ n2_ n3_
  have n0_ := Aside0.mk (blk_drew BK554.out)
  have n1_ := Aside0.mk (blk_drew BK560.out)
  have n2_ := Aside0.mk (IsS54.drew HI555.out)
  have n3_ := Aside0.mk (below_drew1 HB.out)
  clear BK554
  clear BK560
  clear HI555
  clear HB
  have BK554 := n0_
  have BK560 := n1_
  have HI555 := n2_
  have HB := n3_
  clear n0_ n1_ n2_ n3_
  refine start_ (n := 6) (S := fun w' => w'.cell? ⟨gb560, 0, none⟩ = some (.int .i64 t556) ∧ w'.cell? ⟨gb560, 1, none⟩ = some (.int .i64 t557)) (ds := []) #[false, false, false, false, false, false] (by kernel_rfl) rfl rfl ⟨(blk_cell BK560.out 0).trans rfl, (blk_cell BK560.out 1).trans rfl⟩ (fun hHeld => ?_)
  generalize w11.drew = w12 at BK554 BK560 HI555 HB hHeld ⊢
  refine pure_ (i := 1) (N := some 12) (v := ?_) (a' := ?_) #[false, true, false, false, false, false] rfl rfl (by kernel_rfl) (fun _ _ _ h => h) (Or.inl ⟨by rfl, ?_⟩) ?_ ?_
  rotate_left
  · intro w'
    go_simp
    with_reducible rfl
  rotate_left
  · simp only [Act.put, List.setIfInBounds_toArray, List.set_cons_zero, List.set_cons_succ, i64_w, i32_w]
    rfl
  refine take_ (i := 0) (N := some 11) (v := ?_) (a' := ?_) #[true, true, false, false, false, false] rfl rfl (by kernel_rfl) (fun _ _ _ h => h) (Or.inl ⟨by rfl, ?_⟩) hHeld ?_ ?_
  rotate_left
  · rintro w' ⟨s0, s1⟩
    go_simp
    with_reducible rfl
  rotate_left
  · simp only [Act.put, List.setIfInBounds_toArray, List.set_cons_zero, List.set_cons_succ, i64_w, i32_w]
    rfl
  refine one_ (i := 2) (N := some 13) #[true, true, true, false, false, false] rfl rfl (by kernel_rfl) (by decide) (fun K hK => ?_)
  refine Kd.R_lit_step (Kd.int .i64) _ 3 ?hg (N := 13) ?hd (xs := ([0, 1, 1, 2, (-1)] : List Int)) (inner := [.int .i64 0, .int .i64 1, .int .i64 1, .int .i64 2, .int .i64 (-1)]) (ok := fun _ => True) (okp := fun _ => True) ?hr ?hp (fun _ hk => hk) trivial (Below.refl _ _) (Nat.le_refl _) (by simp) ?_; (case hd => rfl); (case hg => rfl); (case hr => go_simp <;> rfl); (case hp => exact (Reps.one (show Kd.M (Kd.int .i64) _ _ _ 0 [.int .i64 0] from rfl) (Reps.one (show Kd.M (Kd.int .i64) _ _ _ 1 [.int .i64 1] from rfl) (Reps.one (show Kd.M (Kd.int .i64) _ _ _ 1 [.int .i64 1] from rfl) (Reps.one (show Kd.M (Kd.int .i64) _ _ _ 2 [.int .i64 2] from rfl) (Reps.one (show Kd.M (Kd.int .i64) _ _ _ (-1) [.int .i64 (-1)] from rfl) (Reps.none _ _)))))))
  intro v562 w13 ho14 hb hg_ hnew_
  clear hg_ hnew_
  (first | rw [← Ny561.out] at ho14 | (simp only [Int.reduceToNat] at ho14; rw [← Ny561.out] at ho14))
  have n0_ := Aside0.mk (Kd.R_lower ho14 (below_size (by repeat first | exact HB.out | apply below_alloc | apply pw_below_drewN | apply below_drew1 | refine below_set ?_ (IsS54.ge HI555.out) | refine below_set ?_ GE554.out | refine below_set ?_ GE560.out)))
  have n1_ := Aside0.mk (blk_below (g := gb554) (o := .cells #[.int .i64 0, .int .i64 0] 25 (0, 0)) (by (with_reducible repeat (first | refine blk_drewN ?_ _ | refine blk_drew ?_ | refine blk_alloc ?_ _)); exact BK554.out) hb)
  have n2_ := Aside0.mk (IsS54.below (by repeat first | exact HI555.out | apply IsS54.alloc | apply IsS54.drewN | apply IsS54.drew | apply IsS54.set_1 | apply IsS54.set_2 | refine IsS54.far ?_ NB555_554.out _ | refine IsS54.far ?_ NB555_560.out _) hb)
  have n3_ := Aside0.mk (blk_below (g := gb560) (o := .cells #[.int .i64 t556, .int .i64 t557] 25 (0, 0)) (by (with_reducible repeat (first | refine blk_drewN ?_ _ | refine blk_drew ?_ | refine blk_alloc ?_ _)); exact BK560.out) hb)
  have n4_ := Aside0.mk (below_step (by repeat first | exact HB.out | apply below_alloc | apply pw_below_drewN | apply below_drew1 | refine below_set ?_ (IsS54.ge HI555.out) | refine below_set ?_ GE554.out | refine below_set ?_ GE560.out) hb)
  clear BK554
  clear HI555
  clear BK560
  clear HB
  have HO563 := n0_
  have BK554 := n1_
  have HI555 := n2_
  have BK560 := n3_
  have HB := n4_
  clear n0_ n1_ n2_ n3_ n4_
  clear hb ho14
  obtain ⟨Ao15, co15, eo15⟩ := Kd.R_slice HO563.out
  (first | subst eo15 | (injection eo15 with f1_ f2_ f3_; have f4_ := f1_.symm; have f5_ := f3_.symm; clear f1_ f2_ f3_; subst f4_; subst f5_))
  refine hK.out _ _ ⟨(blk_cell BK560.out 0).trans rfl, (blk_cell BK560.out 1).trans rfl⟩ (fun hHeld => ?_)
  clear hK K
  refine norm_ (a' := ?_) ?_ ?_
  rotate_left
  · show Act.put _ (some 13) _ = _
    simp only [Act.put, List.setIfInBounds_toArray, List.set_cons_zero, List.set_cons_succ, i64_w, i32_w]
    rfl
  refine one_ (i := 3) (N := some 14) #[true, true, true, true, false, false] rfl rfl (by kernel_rfl) (by decide) (fun K hK => ?_)
  refine goes_ Tryz.func57 (by kernel_rfl) rfl #[.pointer (some ⟨gb555, 0, none⟩), .slice Ao15 y561.length co15] (by rfl) rfl rfl (by (try simp only [List.map_toArray, List.map_cons, List.map_nil]); try rfl) ?_
  with_reducible refine (spec_l1Cur_among.calls gb555 l0 t558 t559 _ _ y561 t564 t565 t566 w _ ?side1 ?side2 ?side3 ?side4 ?side5 A3.out).mono ?_
  (case side1 => repeat (first | (with_reducible first | exact HI555.out | apply IsS54.alloc | apply IsS54.drewN | apply IsS54.drew | apply IsS54.set_1 | apply IsS54.set_2 | refine IsS54.far ?_ NB555_554.out _ | refine IsS54.far ?_ NB555_560.out _) | exact HI555.out))
  (case side2 => repeat (first | (with_reducible first | exact HB.out | apply below_alloc | apply pw_below_drewN | apply below_drew1 | refine below_set ?_ (IsS54.ge HI555.out) | refine below_set ?_ GE554.out | refine below_set ?_ GE560.out) | exact HB.out))
  (case side3 => repeat (first | exact (Kd.R_reads' HO563.out).2.2 | (with_reducible refine Kd.C_alloc ?_ _) | (with_reducible refine Kd.C_drewN ?_ _) | (with_reducible refine Kd.C_drew ?_)))
  (case side4 => exact (Kd.R_reads' HO563.out).2.1)
  (case side5 => exact far_slice (IsS54.own_ne HI555.out HO563.out (by decide)))
  rintro e w16 ⟨rfl, hi, hb, hk⟩
  refine ⟨_, rfl, ?_⟩
  have n0_ := Aside0.mk (KeepBut.blk hk (g' := gb554) (o := .cells #[.int .i64 0, .int .i64 0] 25 (0, 0)) (by (with_reducible repeat (first | refine blk_drewN ?_ _ | refine blk_drew ?_ | refine blk_alloc ?_ _)); exact BK554.out) NB554_555.out (by simp))
  have n1_ := Aside0.mk (KeepBut.blk hk (g' := gb560) (o := .cells #[.int .i64 t556, .int .i64 t557] 25 (0, 0)) (by (with_reducible repeat (first | refine blk_drewN ?_ _ | refine blk_drew ?_ | refine blk_alloc ?_ _)); exact BK560.out) NB560_555.out (by simp))
  have n2_ := Aside0.mk (Kd.R_mono (Kd.R_keep (IsS54.apart (show IsS54 w _ gb555 l0 t558 t559 from by repeat first | exact HI555.out | apply IsS54.alloc | apply IsS54.drewN | apply IsS54.drew | apply IsS54.set_1 | apply IsS54.set_2 | refine IsS54.far ?_ NB555_554.out _ | refine IsS54.far ?_ NB555_560.out _) (by (with_reducible repeat (first | apply Kd.R_alloc | apply Kd.R_drewN | apply Kd.R_drew)); exact HO563.out) (by decide)) hk (fun _ h => h.2)) (fun _ h => h.1))
  have n3_ := Aside0.mk (hb)
  have n4_ := Aside0.mk (hi)
  clear BK554
  clear BK560
  clear HO563
  clear HB
  clear HI555
  have BK554 := n0_
  have BK560 := n1_
  have HO563 := n2_
  have HB := n3_
  have HI555 := n4_
  clear n0_ n1_ n2_ n3_ n4_
  (try clear hb)
  (try clear hb2)
  (try clear hk)
  (try clear hi)
  refine hK.out _ _ ⟨(blk_cell BK560.out 0).trans rfl, (blk_cell BK560.out 1).trans rfl⟩ (fun hHeld => ?_)
  clear hK K
  refine norm_ (a' := ?_) ?_ ?_
  rotate_left
  · show Act.put _ (some 14) _ = _
    simp only [Act.put, List.setIfInBounds_toArray, List.set_cons_zero, List.set_cons_succ, i64_w, i32_w]
    rfl
  refine one_ (i := 4) (N := none) #[true, true, true, true, true, false] rfl rfl (by kernel_rfl) (by decide) (fun K hK => ?_)
  have hs17 : w16.cell? ⟨gb554, 0, none⟩ = some (.int .i64 0) := (blk_cell BK554.out 0).trans rfl
  have hfs17 := blk_frozen BK554.out 0
  have hns17_1 := NB560_554.out
  have hms17_1 := NB554_560.out
  have hs18 : w16.cell? ⟨gb554, 1, none⟩ = some (.int .i64 0) := (blk_cell BK554.out 1).trans rfl
  have hfs18 := blk_frozen BK554.out 1
  have hns18_1 := NB560_554.out
  have hms18_1 := NB554_560.out
  refine skip_ (w1 := ?_) (by rfl) rfl ?_ ?_
  rotate_left
  · go_simp
    rfl
  refine hK.out _ _ ⟨((cell_far (p := ⟨gb554, _, none⟩) NB560_554.out _).trans (((cell_far (p := ⟨gb554, _, none⟩) NB560_554.out _).trans (hHeld.1)))), ((cell_far (p := ⟨gb554, _, none⟩) NB560_554.out _).trans (((cell_far (p := ⟨gb554, _, none⟩) NB560_554.out _).trans (hHeld.2))))⟩ (fun hHeld => ?_)
  clear hK K
  refine pure_ (i := 5) (N := some 3) (v := ?_) (a' := ?_) #[true, true, true, true, true, true] rfl rfl (by kernel_rfl) (fun _ _ _ h => h) (Or.inl ⟨by rfl, ?_⟩) ?_ ?_
  rotate_left
  · intro w'
    go_simp
    with_reducible rfl
  rotate_left
  · simp only [Act.put, List.setIfInBounds_toArray, List.set_cons_zero, List.set_cons_succ, i64_w, i32_w]
    rfl
  refine done_ (by kernel_rfl) ?_
  try go_wp2
  refine bodyPost_ret (results_ct rfl _ _ gb554 25 #[.int .i64 t556, .int .i64 t557] (0, 0) _ rfl (by (with_reducible repeat (first | refine blk_drewN ?_ _ | refine blk_drew ?_ | refine blk_alloc ?_ _)); refine blk_put (cs := #[.int .i64 t556, .int .i64 0]) ?_ 1 _ rfl; (with_reducible repeat (first | refine blk_drewN ?_ _ | refine blk_drew ?_ | refine blk_alloc ?_ _)); refine blk_put (cs := #[.int .i64 0, .int .i64 0]) ?_ 0 _ rfl; (with_reducible repeat (first | refine blk_drewN ?_ _ | refine blk_drew ?_ | refine blk_alloc ?_ _)); exact BK554.out) Tryz.underlying25 rfl (by kernel_rfl)) rfl ?_
  exact ⟨by first | rfl | (simp [*, errW_none, errW_some] <;> rfl), by repeat first | exact HB.out | apply below_alloc | apply pw_below_drewN | apply below_drew1 | refine below_set ?_ (IsS54.ge HI555.out) | refine below_set ?_ GE554.out | refine below_set ?_ GE560.out⟩

/-! ### spec_nuNumbers: function 61 -/
def spec_nuNumbers.l0 : Nat → Int → List Int → Int → Int → Int → Option (List Int)
  | 0, _, _, _, _, _ => none
  | k + 1, x1, x5, x6, x568000, x568001 => if x6 < x568001 then ((spec_nuSide.f x568000 x568001 x1).bind fun t568 => (if t568 = true then ((spec_nuNumber.f x568000 x568001 x1 x6).bind fun t569 => (if x5.length < 17592186044416 then (spec_nuNumbers.l0 k x1 (x5 ++ [t569]) (wrap64 (x6 + 1)) x568000 x568001) else (none))) else (some x5))) else (some x5)
def spec_nuNumbers.f (k : Nat) (a0_0 : Int) (a0_1 : Int) (a1 : Int) : Option (List Int) := spec_nuNumbers.l0 k a1 ([] : List Int) 0 a0_0 a0_1
set_option maxHeartbeats 8000000 in
set_option maxRecDepth 100000 in
theorem spec_nuNumbers.calls (k : Nat) (a0_0 : Int) (a0_1 : Int) (a1 : Int) (r : List Int) (w : World) (h : spec_nuNumbers.f k a0_0 a0_1 a1 = some r) :
    Calls Tryz.prog 61 #[.agg #[.int .i64 a0_0, .int .i64 a0_1], .int .i64 a1] w fun e w' => ∃ v0_ : Value, e = .returned (v0_) ∧ Kd.R (Kd.int .i64) 3 w' w.heap.size (fun _ => True) v0_ r ∧ Below w.heap.size w w' := by
  have hu25 := Tryz.underlying25
  have HB := Aside0.mk (Below.refl w.heap.size w)
  have H : (spec_nuNumbers.l0 k a1 ([] : List Int) 0 a0_0 a0_1) = some r := h
  clear h
  have H' := Aside0.mk H
  clear H
  go_enter Tryz.func61, Tryz.ntmps61
  go_wp2_with (first | ((with_reducible refine gate_dst (N := 2) rfl ?_); refine box_event ?hg (N := 2) ?hd (cs := #[.int .i64 a0_0, .int .i64 a0_1]) (t := 25) ?hr ?_; (case hd => rfl); (case hg => rfl); (case hr => go_simp <;> rfl); intro gb567 hg w3 hbox hb; have n0_ := Aside0.mk (below_step HB.out hb); have n1_ := Aside0.mk (hbox); have n2_ := Aside0.mk ((by rw [hg]; exact (below_size HB.out) : w.heap.size ≤ gb567)); have n3_ := Aside0.mk ((by rw [hg]; exact (below_size HB.out) : w.heap.size ≤ gb567)); clear HB; have HB := n0_; have BK567 := n1_; have GW567 := n2_; have GE567 := n3_; clear n0_ n1_ n2_ n3_; clear hb hbox hg))
  go_loopg [5, 6] k (fun kq v5 v6 w' => ∃ (x5_1 : List Int) (x6_1 : Int), v6 = .int .i64 x6_1 ∧ Aside0 (spec_nuNumbers.l0 kq a1 x5_1 x6_1 a0_0 a0_1 = some r) ∧ Aside0 (kq ≤ k) ∧ Aside0 (Kd.R (Kd.int .i64) 3 w' w.heap.size (fun _ => True) v5 x5_1) ∧ Aside0 (w'.heap[gb567]? = some (.cells #[.int .i64 a0_0, .int .i64 a0_1] 25 (0, 0))) ∧ Aside0 (Below w.heap.size w w'))
  case atStart => exact ⟨(([] : List Int)), (0), (by first | rfl | (simp; done) | (simp [*]; done)), H', ⟨Nat.le_refl _⟩, ⟨by first | exact Kd.R_nil _ _ _ _ _ | exact Kd.N_nil _ _ _ _ _ | exact Kd.V_nil _ _ _ _ _ | exact Kd.Q_nil _ _ _ _ _ | exact Kd.S_nil _ _ _ _ _⟩, ⟨by exact BK567.out⟩, ⟨HB.out⟩⟩
  case round =>
    clear H'
    try clear p2
    obtain ⟨x5_1, x6_1, rfl, HA, HK1, HO_5, BK567, HB⟩ := hrel
    cases gk with
    | zero => exact absurd HA.out (by simp [spec_nuNumbers.l0])
    | succ k1 =>
      have H := HA.out
      clear HA
      simp only [spec_nuNumbers.l0] at H
      by_cases c4 : x6_1 < a0_1
      · rw [if_pos c4] at H
        have c4b0 : decide (x6_1 < a0_1) = true := decide_eq_true c4
        clear c4
        replace H := Option.bind_eq_some_iff.mp H
        obtain ⟨t568, A50, H⟩ := H
        replace H : (if t568 = true then ((spec_nuNumber.f a0_0 a0_1 a1 x6_1).bind fun t569 => (if x5_1.length < 17592186044416 then (spec_nuNumbers.l0 k1 a1 (x5_1 ++ [t569]) (wrap64 (x6_1 + 1)) a0_0 a0_1) else (none))) else (some x5_1)) = some r := H
        have A5 := Aside0.mk A50
        clear A50
        by_cases c6 : t568 = true
        · subst c6
          have H1 : ((spec_nuNumber.f a0_0 a0_1 a1 x6_1).bind fun t569 => (if x5_1.length < 17592186044416 then (spec_nuNumbers.l0 k1 a1 (x5_1 ++ [t569]) (wrap64 (x6_1 + 1)) a0_0 a0_1) else (none))) = some r := by rw [if_pos rfl] at H; exact H
          clear H
          have H := H1
          clear H1
          replace H := Option.bind_eq_some_iff.mp H
          obtain ⟨t569, A70, H⟩ := H
          replace H : (if x5_1.length < 17592186044416 then (spec_nuNumbers.l0 k1 a1 (x5_1 ++ [t569]) (wrap64 (x6_1 + 1)) a0_0 a0_1) else (none)) = some r := H
          have A7 := Aside0.mk A70
          clear A70
          by_cases c8 : x5_1.length < 17592186044416
          · rw [if_pos c8] at H
            have LMc8 := Aside0.mk c8
            clear c8
            obtain ⟨y570, hy570⟩ : ∃ y_ : List Int, y_ = (x5_1 ++ [t569]) := ⟨_, rfl⟩
            replace H : (spec_nuNumbers.l0 k1 a1 y570 (wrap64 (x6_1 + 1)) a0_0 a0_1) = some r := by first | (rw [hy570]; with_reducible exact H) | (have H2_ := (Option.bind_some _ _).symm.trans H; rw [hy570]; with_reducible exact H2_) | (have H2_ := (Option.bind_some _ _).symm.trans H; with_reducible exact H2_) | with_reducible exact H | (rw [hy570]; exact H) | exact H
            have Ny570 := Aside0.mk hy570
            clear hy570
            have H' := Aside0.mk H
            clear H
            have hcz9_0 : wr.cell? ⟨gb567, 0, none⟩ = some (.int .i64 a0_0) := (blk_cell BK567.out 0).trans rfl
            have hcz9_1 : wr.cell? ⟨gb567, 1, none⟩ = some (.int .i64 a0_1) := (blk_cell BK567.out 1).trans rfl
            have hfz9_0 := blk_frozen BK567.out 0
            have hfz9_1 := blk_frozen BK567.out 1
            go_wp2_with (first | (go_at_call 59; (with_reducible refine (spec_nuSide.calls a0_0 a0_1 a1 true _ A5.out).mono ?_); rintro e w10 ⟨rfl, hb⟩; have n0_ := Aside0.mk (Kd.R_below (by (with_reducible repeat (first | apply Kd.R_alloc | apply Kd.R_drewN | apply Kd.R_drew)); exact HO_5.out) hb); have n1_ := Aside0.mk (blk_below (g := gb567) (o := .cells #[.int .i64 a0_0, .int .i64 a0_1] 25 (0, 0)) (by exact BK567.out) hb); have n2_ := Aside0.mk (below_step HB.out hb); clear HO_5; clear BK567; clear HB; have HO_5 := n0_; have BK567 := n1_; have HB := n2_; clear n0_ n1_ n2_; (try clear hb); (try clear hb2); (try clear hk); (try clear hi); have hcz11_0 : w10.cell? ⟨gb567, 0, none⟩ = some (.int .i64 a0_0) := (blk_cell BK567.out 0).trans rfl; have hcz11_1 : w10.cell? ⟨gb567, 1, none⟩ = some (.int .i64 a0_1) := (blk_cell BK567.out 1).trans rfl; have hfz11_0 := blk_frozen BK567.out 0; have hfz11_1 := blk_frozen BK567.out 1) | ((with_reducible refine gate_callee (f := 42) rfl ?_); refine goesL_ (some 22) rfl rfl Tryz.func42 (by kernel_rfl) rfl #[.agg #[.int .i64 a0_0, .int .i64 a0_1], .int .i64 a1, .int .i64 x6_1] rfl (by (try simp only [List.map_toArray, List.map_cons, List.map_nil]); try rfl) ?_; (with_reducible refine (spec_nuNumber.calls a0_0 a0_1 a1 x6_1 t569 _ A7.out).mono ?_); rintro e w12 ⟨rfl, hb⟩; refine ⟨_, rfl, ?_⟩; have n0_ := Aside0.mk (Kd.R_below (by (with_reducible repeat (first | apply Kd.R_alloc | apply Kd.R_drewN | apply Kd.R_drew)); exact HO_5.out) hb); have n1_ := Aside0.mk (blk_below (g := gb567) (o := .cells #[.int .i64 a0_0, .int .i64 a0_1] 25 (0, 0)) (by exact BK567.out) hb); have n2_ := Aside0.mk (below_step HB.out hb); clear HO_5; clear BK567; clear HB; have HO_5 := n0_; have BK567 := n1_; have HB := n2_; clear n0_ n1_ n2_; (try clear hb); (try clear hb2); (try clear hk); (try clear hi)) | ((with_reducible refine gate_builtin (b := .append) (xs := #[.tmp 18, .tmp 23]) rfl ?_); at_builtin; refine Kd.R_append (Kd.int .i64) (w0 := w) w.heap.size rfl (.tmp 18) (.tmp 23) 32 3 (.int .i64 0) 8 rfl Tryz.underlying32 info3 rfl (by decide) (by omega) u5 x5_1 t569 [.int .i64 t569] (fun _ => True) (fun _ => False) rfl rfl ?aP (fun _ hk => hk.elim) ?aF ?aO ?aB ?aS ?aL ?_; (case aP => exact rfl); (case aB => exact HB.out); (case aF => exact (fun _ _ => trivial)); (case aO => exact (by (with_reducible repeat (first | apply Kd.R_alloc | apply Kd.R_drewN | apply Kd.R_drew)); exact HO_5.out)); (case aS => exact (below_size HB.out)); (case aL => have := LMc8.out; omega); intro v571 w13 ho hb hg hat; rw [← Ny570.out] at ho; have n0_ := Aside0.mk (blk_grown (g := gb567) (o := .cells #[.int .i64 a0_0, .int .i64 a0_1] 25 (0, 0)) (by exact BK567.out) hg (Kd.R_ne HO_5.out BK567.out (by decide))); have n1_ := Aside0.mk (hb); have n2_ := Aside0.mk (ho); clear BK567; clear HB; clear HO_5; have BK567 := n0_; have HB := n1_; have HO572 := n2_; clear n0_ n1_ n2_; clear ho hb hg hat))
            go_roundg k1
            case measure => have := HK1.out; omega
            case rel => exact ⟨(y570), (wrap64 (x6_1 + 1)), (by first | rfl | (simp; done) | (simp [*]; done)), H', ⟨by have := HK1.out; omega⟩, ⟨by (with_reducible repeat (first | apply Kd.R_alloc | apply Kd.R_drewN | apply Kd.R_drew)); exact HO572.out⟩, ⟨by exact BK567.out⟩, ⟨HB.out⟩⟩
          · rw [if_neg c8] at H
            exact absurd H (by simp)
        · replace c6 := Bool.eq_false_iff.mpr c6
          subst c6
          have H1 : (some x5_1) = some r := by rw [if_neg (show ¬ (false = true) by decide)] at H; exact H
          clear H
          have H := H1
          clear H1
          obtain rfl := Option.some.inj H
          have hcz14_0 : wr.cell? ⟨gb567, 0, none⟩ = some (.int .i64 a0_0) := (blk_cell BK567.out 0).trans rfl
          have hcz14_1 : wr.cell? ⟨gb567, 1, none⟩ = some (.int .i64 a0_1) := (blk_cell BK567.out 1).trans rfl
          have hfz14_0 := blk_frozen BK567.out 0
          have hfz14_1 := blk_frozen BK567.out 1
          go_wp2_with (first | (go_at_call 59; (with_reducible refine (spec_nuSide.calls a0_0 a0_1 a1 false _ A5.out).mono ?_); rintro e w15 ⟨rfl, hb⟩; have n0_ := Aside0.mk (Kd.R_below (by (with_reducible repeat (first | apply Kd.R_alloc | apply Kd.R_drewN | apply Kd.R_drew)); exact HO_5.out) hb); have n1_ := Aside0.mk (blk_below (g := gb567) (o := .cells #[.int .i64 a0_0, .int .i64 a0_1] 25 (0, 0)) (by exact BK567.out) hb); have n2_ := Aside0.mk (below_step HB.out hb); clear HO_5; clear BK567; clear HB; have HO_5 := n0_; have BK567 := n1_; have HB := n2_; clear n0_ n1_ n2_; (try clear hb); (try clear hb2); (try clear hk); (try clear hi)))
          go_ret
          exact ⟨_, rfl, by (with_reducible repeat (first | apply Kd.R_alloc | apply Kd.R_drewN | apply Kd.R_drew)); exact HO_5.out, HB.out⟩
      · rw [if_neg c4] at H
        have c4b0 : decide (x6_1 < a0_1) = false := decide_eq_false c4
        clear c4
        obtain rfl := Option.some.inj H
        have hcz16_0 : wr.cell? ⟨gb567, 0, none⟩ = some (.int .i64 a0_0) := (blk_cell BK567.out 0).trans rfl
        have hcz16_1 : wr.cell? ⟨gb567, 1, none⟩ = some (.int .i64 a0_1) := (blk_cell BK567.out 1).trans rfl
        have hfz16_0 := blk_frozen BK567.out 0
        have hfz16_1 := blk_frozen BK567.out 1
        go_wp2
        go_ret
        exact ⟨_, rfl, by (with_reducible repeat (first | apply Kd.R_alloc | apply Kd.R_drewN | apply Kd.R_drew)); exact HO_5.out, HB.out⟩

end Go.Proofs.YtihmjhchiomgbaaGreatDoor.PFnHousesNumbered
