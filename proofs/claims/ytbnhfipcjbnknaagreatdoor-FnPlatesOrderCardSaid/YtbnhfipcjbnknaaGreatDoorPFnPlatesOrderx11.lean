/- Functions that the law FnPlatesOrder reaches, each as a Lean function, and that the Go code comes to just these answers (written by programs). -/
import Derived.Test.YtbnhfipcjbnknaaGreatDoorPFnPlatesOrderx0
import Derived.Test.YtbnhfipcjbnknaaGreatDoorPFnPlatesOrderx1
import Derived.Test.YtbnhfipcjbnknaaGreatDoorPFnPlatesOrderx3
namespace Go.Proofs.YtbnhfipcjbnknaaGreatDoor.PFnPlatesOrder
open Go.RowKit Go.Proofs.YtbnhfipcjbnknaaGreatDoorW.PrintWords Go.Proofs.YtbnhfipcjbnknaaGreatDoorW.PrintLast Go.Proofs.YtbnhfipcjbnknaaGreatDoorW.PrintMore
attribute [local go_sem] max2_int min2_int max_two min_two max_three min_three max_four min_four   -- for this text's walks alone
set_option linter.unusedVariables false
set_option linter.unusedSimpArgs false

attribute [local go_sem high] eqA25
abbrev M11_0 : Array Bool := #[false, false, false, false, false, false, false, false, false, false, false, false, false, false]
abbrev M11_1 : Array Bool := #[true, false, false, false, false, false, false, false, false, false, false, false, false, false]
abbrev M11_2 : Array Bool := #[true, true, false, false, false, false, false, false, false, false, false, false, false, false]
abbrev M11_3 : Array Bool := #[true, true, true, false, false, false, false, false, false, false, false, false, false, false]
abbrev M11_4 : Array Bool := #[true, true, true, true, false, false, false, false, false, false, false, false, false, false]
abbrev M11_5 : Array Bool := #[true, true, true, true, true, false, false, false, false, false, false, false, false, false]
abbrev M11_6 : Array Bool := #[true, true, true, true, true, true, false, false, false, false, false, false, false, false]
abbrev M11_7 : Array Bool := #[true, true, true, true, true, true, true, false, false, false, false, false, false, false]
abbrev M11_8 : Array Bool := #[true, true, true, true, true, true, true, true, false, false, false, false, false, false]
abbrev M11_9 : Array Bool := #[true, true, true, true, true, true, true, true, true, false, false, false, false, false]
abbrev M11_10 : Array Bool := #[true, true, true, true, true, true, true, true, true, false, true, false, false, false]
abbrev M11_11 : Array Bool := #[true, true, true, true, true, true, true, true, true, true, true, false, false, false]
abbrev M11_12 : Array Bool := #[true, true, true, true, true, true, true, true, true, true, true, true, false, false]
abbrev M11_13 : Array Bool := #[true, true, true, true, true, true, true, true, true, true, true, true, true, false]
abbrev M11_14 : Array Bool := #[true, true, true, true, true, true, true, true, true, true, true, true, true, true]
abbrev M11_15 : Array Bool := #[false, false, false, false, false, false, false, false, false, false, false, false, false, false, false]
abbrev M11_16 : Array Bool := #[true, false, false, false, false, false, false, false, false, false, false, false, false, false, false]
abbrev M11_17 : Array Bool := #[true, true, false, false, false, false, false, false, false, false, false, false, false, false, false]
abbrev M11_18 : Array Bool := #[true, true, true, false, false, false, false, false, false, false, false, false, false, false, false]
abbrev M11_19 : Array Bool := #[true, true, true, true, false, false, false, false, false, false, false, false, false, false, false]
abbrev M11_20 : Array Bool := #[true, true, true, true, true, false, false, false, false, false, false, false, false, false, false]
abbrev M11_21 : Array Bool := #[true, true, true, true, true, true, false, false, false, false, false, false, false, false, false]
abbrev M11_22 : Array Bool := #[true, true, true, true, true, true, true, false, false, false, false, false, false, false, false]
abbrev M11_23 : Array Bool := #[true, true, true, true, true, true, true, true, false, false, false, false, false, false, false]
abbrev M11_24 : Array Bool := #[true, true, true, true, true, true, true, true, true, false, false, false, false, false, false]
abbrev M11_25 : Array Bool := #[true, true, true, true, true, true, true, true, true, false, false, false, false, true, false]
abbrev M11_26 : Array Bool := #[true, true, true, true, true, true, true, true, true, true, false, false, false, true, false]
abbrev M11_27 : Array Bool := #[true, true, true, true, true, true, true, true, true, true, true, false, false, true, false]
abbrev M11_28 : Array Bool := #[true, true, true, true, true, true, true, true, true, true, true, true, false, true, false]
abbrev M11_29 : Array Bool := #[true, true, true, true, true, true, true, true, true, true, true, true, true, true, false]
abbrev M11_30 : Array Bool := #[true, true, true, true, true, true, true, true, true, true, true, true, true, true, true]
abbrev M11_31 : Array Bool := #[true, true, true, true, true, true, true, true, true, true, false, false, false, false]
abbrev M11_32 : Array Bool := #[true, true, true, true, true, true, true, true, true, true, false, false, false, false, false]
abbrev M11_33 : Array Bool := #[true, true, true, true, true, true, true, true, true, true, true, false, false, false, false]
abbrev M11_34 : Array Bool := #[true, true, true, true, true, true, true, true, true, true, true, true, false, false, false]
abbrev M11_35 : Array Bool := #[true, true, true, true, true, true, true, true, true, true, true, true, true, false, false]
/-! ### spec_isPlace: function 81 -/
def spec_isPlace.l0 : Nat → List (S25) → Int → Int → Int → Option (Int × Bool)
 | 0, _, _, _, _ => none
 | k + 1, x0, x6, x332000, x332001 => if x6 < (x0.length : Int) then (if 0 ≤ x6 then ((spec_isRank.f ((rd_T25 x0 x6).f0) ((rd_T25 x0 x6).f1)).bind fun t333 => ((spec_isRank.f x332000 x332001).bind fun t334 => (if t333 < t334 then (spec_isPlace.l0 k x0 (wrap64 (x6 + 1)) x332000 x332001) else (some (x6, (((rd_T25 x0 x6).f0) == x332000 && (((rd_T25 x0 x6).f1) == x332001))))))) else (none)) else (some (x6, false))
def spec_isPlace.f (k : Nat) (l0 : List (S25)) (a1_0 : Int) (a1_1 : Int) : Option (Int × Bool) := spec_isPlace.l0 k l0 0 a1_0 a1_1
def spec_isPlace.T2 : Bool × List (List Nat × List Nat) := (true, [([], []), ([], []), ([1], [1]), ([0, 2], [0, 2]), ([3], [3]), ([4], [4]), ([4], [4]), ([5, 6, 4], [4, 5, 6]), ([7, 4], [4, 7]), ([8, 4, 4], [4, 8]), ([4], [4]), ([10, 9, 4], [4, 10]), ([9, 11, 4], [4, 9, 11]), ([4, 12], [4, 12])])
def spec_isPlace.B2 : List Nat := [0, 0, 2, 7, 15, 31, 31, 127, 255, 511, 31, 2047, 4095, 8191]
theorem spec_isPlace.tab2 : rtab .any (opsOf Tryz.f81 2) = spec_isPlace.T2 := by kernel_rfl
theorem spec_isPlace.bits2 : waitsOk spec_isPlace.T2.2 spec_isPlace.B2 = true := by kernel_rfl
def spec_isPlace.T4 : Bool × List (List Nat × List Nat) := (true, [([], []), ([], []), ([], []), ([2], [2]), ([1, 3], [1, 3]), ([4], [4]), ([5], [5]), ([5], [5]), ([6, 7, 5], [5, 6, 7]), ([8, 5], [5, 8]), ([5], [5]), ([9, 10, 5], [5, 9, 10]), ([5, 11], [5, 11]), ([0, 5, 0], [0]), ([12, 13, 0, 1, 2, 3, 4, 5, 6, 7, 8, 9, 10, 11, 12, 13], [12])])
def spec_isPlace.B4 : List Nat := [0, 0, 0, 4, 14, 30, 62, 62, 254, 510, 62, 2046, 4094, 63, 16383]
theorem spec_isPlace.tab4 : rtab .any (opsOf Tryz.f81 4) = spec_isPlace.T4 := by kernel_rfl
theorem spec_isPlace.bits4 : waitsOk spec_isPlace.T4.2 spec_isPlace.B4 = true := by kernel_rfl
set_option maxHeartbeats 8000000 in
set_option maxRecDepth 100000 in
theorem spec_isPlace.calls (k : Nat) (A0 : Option Addr) (c0 : Nat) (l0 : List (S25)) (a1_0 : Int) (a1_1 : Int) (r1 : Int) (r2 : Bool) (w : World) (hr0 : Kd.C k25 w A0 l0.length l0) (hc0 : l0.length ≤ c0) (h : spec_isPlace.f k l0 a1_0 a1_1 = some (r1, r2)) :
  Calls Tryz.prog 81 #[.slice A0 l0.length c0, .agg #[.int .i64 a1_0, .int .i64 a1_1]] w fun e w' => e = .returned (.tuple #[.int .i64 r1, .bool r2]) ∧ Below w.heap.size w w' := by
 have hu25 := Tryz.underlying25
 have HR0 := Aside0.mk hr0
 have HC0 := Aside0.mk hc0
 clear hr0 hc0
 have HB := Aside0.mk (Below.refl w.heap.size w)
 have H : (spec_isPlace.l0 k l0 0 a1_0 a1_1) = some (r1, r2) := h
 clear h
 have H' := Aside0.mk H
 clear H
 go_enter Tryz.func81, Tryz.ntmps81
 go_wp2_with (first | (refine bx_ 3 #[.int .i64 a1_0, .int .i64 a1_1] 25 ?_; intro gb331 hg w3 BK331 hb; have GW331 := gW_ (w := w) hg; replace HB := bT_ hb; clear hb hg))
 go_loopg [6] k (fun kq v6 w' => ∃ (x6_1 : Int), v6 = .int .i64 x6_1 ∧ Aside0 (spec_isPlace.l0 kq l0 x6_1 a1_0 a1_1 = some (r1, r2)) ∧ Aside0 (kq ≤ k) ∧ Aside0 (w'.heap[gb331]? = some (.cells #[.int .i64 a1_0, .int .i64 a1_1] 25 (0, 0))) ∧ Aside0 (Below w.heap.size w w'))
 case atStart => exact ⟨(0), rfl, H', ⟨Nat.le_refl _⟩, ⟨by exact BK331.out⟩, ⟨bO_⟩⟩
 case round =>
  clear H'
  try clear p2
  obtain ⟨x6_1, rfl, HA, HK1, BK331, HB⟩ := hrel
  cases gk with
  | zero => exact absurd HA.out (by simp [spec_isPlace.l0])
  | succ k1 =>
   have H := HA.out
   clear HA
   simp only [spec_isPlace.l0] at H
   by_cases c4 : x6_1 < (l0.length : Int)
   ·rw [if_pos c4] at H
    replace c4 := decide_eq_true c4
    by_cases c5 : 0 ≤ x6_1
    ·rw [if_pos c5] at H
     replace c5 := decide_eq_true c5
     obtain ⟨t333, A6, H⟩ := obA H
     obtain ⟨t334, A7, H⟩ := obA H
     by_cases c8 : t333 < t334
     ·rw [if_pos c8] at H
      replace c8 := decide_eq_true c8
      have H' := Aside0.mk H
      clear H
      try go_wp2
      replace BK331 := Aside0.mk (blk_drew BK331.out)
      replace HB := Aside0.mk (below_drew1 HB.out)
      have p332 : 0 ≤ (x6_1 : Int) := od_
      have q332 : x6_1 < (l0.length : Int) := od_
      obtain ⟨ad332, e332, hx332_0, hx332_1⟩ := at_T25 HR0.out x6_1 p332 q332
      have hw332_1 := hx332_1
      have hw332_0 := hx332_0
      cases e332
      replace hx332_0 := (HB.out.cell (World.block_lt_of_cell? w _ hx332_0)).trans hx332_0
      replace hx332_1 := (HB.out.cell (World.block_lt_of_cell? w _ hx332_1)).trans hx332_1
      replace p332 := eq_true p332
      replace q332 := eq_true q332
      refine start_ (n := 14) (S := fun w' => w'.cell? ⟨gb331, 0, none⟩ = some (.int .i64 a1_0) ∧ w'.cell? ⟨gb331, 1, none⟩ = some (.int .i64 a1_1) ∧ w'.cell? (ad332.add ((x6_1).toNat * 2)) = some (.int .i64 ((rd_T25 l0 x6_1).f0)) ∧ w'.cell? ⟨(ad332.add ((x6_1).toNat * 2)).block, (ad332.add ((x6_1).toNat * 2)).off + 1, none⟩ = some (.int .i64 ((rd_T25 l0 x6_1).f1))) (ds := []) M11_0 (by kernel_rfl) rfl rfl ⟨(blk_cell BK331.out 0).trans rfl, (blk_cell BK331.out 1).trans rfl, ((HB.out.cell (World.block_lt_of_cell? w _ hw332_0)).trans hw332_0), ((HB.out.cell (World.block_lt_of_cell? w _ hw332_1)).trans hw332_1)⟩ (fun hHeld => ?_); refine with_tabW spec_isPlace.tab2 spec_isPlace.bits2 (fun HT_ HW_ => ?_)
      generalize wr.drew = w9 at BK331 HB hx332_0 hx332_1 hHeld ⊢
      refine pu_ 0 7 M11_1 ?_
      refine pu_ 1 8 M11_2 ?_
      refine pu_ 2 9 M11_3 ?_
      refine pu_ 3 10 M11_4 ?_
      refine pu_ 4 11 M11_5 ?_
      refine pu_ 5 12 M11_6 ?_
      refine pu_ 6 13 M11_7 ?_
      refine pu_ 7 14 M11_8 ?_
      refine ta_ 8 15 M11_9 ?_
      refine ta_ 10 17 M11_10 ?_
      refine on_ 9 (some 16) M11_11 fun K hK => ?_
      refine gS_ Tryz.func40 #[.agg #[.int .i64 ((rd_T25 l0 x6_1).f0), .int .i64 ((rd_T25 l0 x6_1).f1)]] ?_
      with_reducible refine (spec_isRank.calls ((rd_T25 l0 x6_1).f0) ((rd_T25 l0 x6_1).f1) t333 _ A6.out).mono ?_
      rintro e w10 ⟨rfl, hb⟩
      refine ⟨_, rfl, ?_⟩
      replace BK331 := bB_ (g := gb331) hb
      replace HB := bT_ hb
      refine hS_ hK fun hHeld => ?_
      clear hK K
      refine nm_ ?_
      refine on_ 11 (some 18) M11_12 fun K hK => ?_
      refine gS_ Tryz.func40 #[.agg #[.int .i64 a1_0, .int .i64 a1_1]] ?_
      with_reducible refine (spec_isRank.calls a1_0 a1_1 t334 _ A7.out).mono ?_
      rintro e w11 ⟨rfl, hb⟩
      refine ⟨_, rfl, ?_⟩
      replace BK331 := bB_ (g := gb331) hb
      replace HB := bT_ hb
      refine hS_ hK fun hHeld => ?_
      clear hK K
      refine nm_ ?_
      refine pu_ 12 19 M11_13 ?_
      refine pu_ 13 20 M11_14 ?_
      refine done_ (done_of HT_.out (by kernel_rfl)) ?_
      try go_wp2
      go_roundg k1
      case measure => have := HK1.out; omega
      case rel => exact ⟨(wrap64 (x6_1 + 1)), rfl, H', ⟨by have := HK1.out; omega⟩, ⟨by exact BK331.out⟩, ⟨bO_⟩⟩
     ·rw [if_neg c8] at H
      replace c8 := decide_eq_false c8
      simp only [Option.some.injEq, Prod.mk.injEq] at H
      obtain ⟨rfl, rfl⟩ := H
      try go_wp2
      replace BK331 := Aside0.mk (blk_drew BK331.out)
      replace HB := Aside0.mk (below_drew1 HB.out)
      have p332 : 0 ≤ (x6_1 : Int) := od_
      have q332 : x6_1 < (l0.length : Int) := od_
      obtain ⟨ad332, e332, hx332_0, hx332_1⟩ := at_T25 HR0.out x6_1 p332 q332
      have hw332_1 := hx332_1
      have hw332_0 := hx332_0
      cases e332
      replace hx332_0 := (HB.out.cell (World.block_lt_of_cell? w _ hx332_0)).trans hx332_0
      replace hx332_1 := (HB.out.cell (World.block_lt_of_cell? w _ hx332_1)).trans hx332_1
      replace p332 := eq_true p332
      replace q332 := eq_true q332
      refine start_ (n := 14) (S := fun w' => w'.cell? ⟨gb331, 0, none⟩ = some (.int .i64 a1_0) ∧ w'.cell? ⟨gb331, 1, none⟩ = some (.int .i64 a1_1) ∧ w'.cell? (ad332.add ((x6_1).toNat * 2)) = some (.int .i64 ((rd_T25 l0 x6_1).f0)) ∧ w'.cell? ⟨(ad332.add ((x6_1).toNat * 2)).block, (ad332.add ((x6_1).toNat * 2)).off + 1, none⟩ = some (.int .i64 ((rd_T25 l0 x6_1).f1))) (ds := []) M11_0 (by kernel_rfl) rfl rfl ⟨(blk_cell BK331.out 0).trans rfl, (blk_cell BK331.out 1).trans rfl, ((HB.out.cell (World.block_lt_of_cell? w _ hw332_0)).trans hw332_0), ((HB.out.cell (World.block_lt_of_cell? w _ hw332_1)).trans hw332_1)⟩ (fun hHeld => ?_); refine with_tabW spec_isPlace.tab2 spec_isPlace.bits2 (fun HT_ HW_ => ?_)
      generalize wr.drew = w12 at BK331 HB hx332_0 hx332_1 hHeld ⊢
      refine pu_ 0 7 M11_1 ?_
      refine pu_ 1 8 M11_2 ?_
      refine pu_ 2 9 M11_3 ?_
      refine pu_ 3 10 M11_4 ?_
      refine pu_ 4 11 M11_5 ?_
      refine pu_ 5 12 M11_6 ?_
      refine pu_ 6 13 M11_7 ?_
      refine pu_ 7 14 M11_8 ?_
      refine ta_ 8 15 M11_9 ?_
      refine ta_ 10 17 M11_10 ?_
      refine on_ 9 (some 16) M11_11 fun K hK => ?_
      refine gS_ Tryz.func40 #[.agg #[.int .i64 ((rd_T25 l0 x6_1).f0), .int .i64 ((rd_T25 l0 x6_1).f1)]] ?_
      with_reducible refine (spec_isRank.calls ((rd_T25 l0 x6_1).f0) ((rd_T25 l0 x6_1).f1) t333 _ A6.out).mono ?_
      rintro e w13 ⟨rfl, hb⟩
      refine ⟨_, rfl, ?_⟩
      replace BK331 := bB_ (g := gb331) hb
      replace HB := bT_ hb
      refine hS_ hK fun hHeld => ?_
      clear hK K
      refine nm_ ?_
      refine on_ 11 (some 18) M11_12 fun K hK => ?_
      refine gS_ Tryz.func40 #[.agg #[.int .i64 a1_0, .int .i64 a1_1]] ?_
      with_reducible refine (spec_isRank.calls a1_0 a1_1 t334 _ A7.out).mono ?_
      rintro e w14 ⟨rfl, hb⟩
      refine ⟨_, rfl, ?_⟩
      replace BK331 := bB_ (g := gb331) hb
      replace HB := bT_ hb
      refine hS_ hK fun hHeld => ?_
      clear hK K
      refine nm_ ?_
      refine pu_ 12 19 M11_13 ?_
      refine pu_ 13 20 M11_14 ?_
      refine done_ (done_of HT_.out (by kernel_rfl)) ?_
      try go_wp2
      replace BK331 := Aside0.mk (blk_drew BK331.out)
      replace HB := Aside0.mk (below_drew1 HB.out)
      have p335 : 0 ≤ (x6_1 : Int) := od_
      have q335 : x6_1 < (l0.length : Int) := od_
      obtain ⟨ad335, e335, hx335_0, hx335_1⟩ := at_T25 HR0.out x6_1 p335 q335
      have hw335_1 := hx335_1
      have hw335_0 := hx335_0
      obtain rfl : ad332 = ad335 := (by injection e335)
      replace hx335_0 := (HB.out.cell (World.block_lt_of_cell? w _ hx335_0)).trans hx335_0
      replace hx335_1 := (HB.out.cell (World.block_lt_of_cell? w _ hx335_1)).trans hx335_1
      replace p335 := eq_true p335
      replace q335 := eq_true q335
      refine start_ (n := 15) (S := fun w' => w'.cell? ⟨gb331, 0, none⟩ = some (.int .i64 a1_0) ∧ w'.cell? ⟨gb331, 1, none⟩ = some (.int .i64 a1_1) ∧ w'.cell? (ad332.add ((x6_1).toNat * 2)) = some (.int .i64 ((rd_T25 l0 x6_1).f0)) ∧ w'.cell? ⟨(ad332.add ((x6_1).toNat * 2)).block, (ad332.add ((x6_1).toNat * 2)).off + 1, none⟩ = some (.int .i64 ((rd_T25 l0 x6_1).f1))) (ds := []) M11_15 (by kernel_rfl) rfl rfl ⟨(blk_cell BK331.out 0).trans rfl, (blk_cell BK331.out 1).trans rfl, ((HB.out.cell (World.block_lt_of_cell? w _ hw335_0)).trans hw335_0), ((HB.out.cell (World.block_lt_of_cell? w _ hw335_1)).trans hw335_1)⟩ (fun hHeld => ?_); refine with_tabW spec_isPlace.tab4 spec_isPlace.bits4 (fun HT_ HW_ => ?_)
      generalize w14.drew = w15 at BK331 HB hx335_0 hx335_1 hHeld ⊢
      refine pu_ 0 23 M11_16 ?_
      refine pu_ 1 24 M11_17 ?_
      refine pu_ 2 25 M11_18 ?_
      refine pu_ 3 26 M11_19 ?_
      refine pu_ 4 27 M11_20 ?_
      refine pu_ 5 28 M11_21 ?_
      refine pu_ 6 29 M11_22 ?_
      refine pu_ 7 30 M11_23 ?_
      refine pu_ 8 31 M11_24 ?_
      refine pu_ 13 4 M11_25 ?_
      refine ta_ 9 32 M11_26 ?_
      refine ta_ 10 33 M11_27 ?_
      refine pu_ 11 34 M11_28 ?_
      refine pu_ 12 35 M11_29 ?_
      refine pu_ 14 5 M11_30 ?_
      refine done_ (done_of HT_.out (by kernel_rfl)) ?_
      try go_wp2
      go_ret2
      exact ⟨rfl, bO_⟩
    ·rw [if_neg c5] at H
     exact absurd H (by simp)
   ·rw [if_neg c4] at H
    replace c4 := decide_eq_false c4
    simp only [Option.some.injEq, Prod.mk.injEq] at H
    obtain ⟨rfl, rfl⟩ := H
    try go_wp2
    replace BK331 := Aside0.mk (blk_drew BK331.out)
    replace HB := Aside0.mk (below_drew1 HB.out)
    refine start_ (n := 14) (S := fun w' => True) (ds := []) M11_0 (by kernel_rfl) rfl rfl trivial (fun hHeld => ?_); refine with_tabW spec_isPlace.tab2 spec_isPlace.bits2 (fun HT_ HW_ => ?_)
    generalize wr.drew = w16 at BK331 HB hHeld ⊢
    refine pu_ 0 7 M11_1 ?_
    refine pu_ 1 8 M11_2 ?_
    refine pu_ 2 9 M11_3 ?_
    refine pu_ 3 10 M11_4 ?_
    refine pu_ 4 11 M11_5 ?_
    refine pure_ (i := 5) (N := some 12) (v := undef) (a' := ?_) M11_6 rfl rfl (any_of HT_.out (by kernel_rfl)) (fun _ _ _ h => h) (Or.inr ⟨by rfl, rfl⟩) ?_ ?_
    rotate_left
    ·simp only [sp_]
     rfl
    refine pure_ (i := 6) (N := some 13) (v := undef) (a' := ?_) M11_7 rfl rfl (any_of HT_.out (by kernel_rfl)) (fun _ _ _ h => h) (Or.inr ⟨by rfl, rfl⟩) ?_ ?_
    rotate_left
    ·simp only [sp_]
     rfl
    refine pure_ (i := 7) (N := some 14) (v := undef) (a' := ?_) M11_8 rfl rfl (any_of HT_.out (by kernel_rfl)) (fun _ _ _ h => h) (Or.inr ⟨by rfl, rfl⟩) ?_ ?_
    rotate_left
    ·simp only [sp_]
     rfl
    refine pure_ (i := 8) (N := some 15) (v := undef) (a' := ?_) M11_9 rfl rfl (any_of HT_.out (by kernel_rfl)) (fun _ _ _ h => h) (Or.inr ⟨by rfl, rfl⟩) ?_ ?_
    rotate_left
    ·simp only [sp_]
     rfl
    refine pure_ (i := 9) (N := some 16) (v := undef) (a' := ?_) M11_31 rfl rfl (any_of HT_.out (by kernel_rfl)) (fun _ _ _ h => h) (Or.inr ⟨by rfl, rfl⟩) ?_ ?_
    rotate_left
    ·simp only [sp_]
     rfl
    refine pure_ (i := 10) (N := some 17) (v := undef) (a' := ?_) M11_11 rfl rfl (any_of HT_.out (by kernel_rfl)) (fun _ _ _ h => h) (Or.inr ⟨by rfl, rfl⟩) ?_ ?_
    rotate_left
    ·simp only [sp_]
     rfl
    refine pure_ (i := 11) (N := some 18) (v := undef) (a' := ?_) M11_12 rfl rfl (any_of HT_.out (by kernel_rfl)) (fun _ _ _ h => h) (Or.inr ⟨by rfl, rfl⟩) ?_ ?_
    rotate_left
    ·simp only [sp_]
     rfl
    refine pure_ (i := 12) (N := some 19) (v := undef) (a' := ?_) M11_13 rfl rfl (any_of HT_.out (by kernel_rfl)) (fun _ _ _ h => h) (Or.inr ⟨by rfl, rfl⟩) ?_ ?_
    rotate_left
    ·simp only [sp_]
     rfl
    refine pu_ 13 20 M11_14 ?_
    refine done_ (done_of HT_.out (by kernel_rfl)) ?_
    try go_wp2
    replace BK331 := Aside0.mk (blk_drew BK331.out)
    replace HB := Aside0.mk (below_drew1 HB.out)
    refine start_ (n := 15) (S := fun w' => True) (ds := []) M11_15 (by kernel_rfl) rfl rfl trivial (fun hHeld => ?_); refine with_tabW spec_isPlace.tab4 spec_isPlace.bits4 (fun HT_ HW_ => ?_)
    generalize w16.drew = w17 at BK331 HB hHeld ⊢
    refine pu_ 0 23 M11_16 ?_
    refine pu_ 1 24 M11_17 ?_
    refine pu_ 2 25 M11_18 ?_
    refine pu_ 3 26 M11_19 ?_
    refine pu_ 4 27 M11_20 ?_
    refine pu_ 5 28 M11_21 ?_
    refine pure_ (i := 6) (N := some 29) (v := undef) (a' := ?_) M11_22 rfl rfl (any_of HT_.out (by kernel_rfl)) (fun _ _ _ h => h) (Or.inr ⟨by rfl, rfl⟩) ?_ ?_
    rotate_left
    ·simp only [sp_]
     rfl
    refine pure_ (i := 7) (N := some 30) (v := undef) (a' := ?_) M11_23 rfl rfl (any_of HT_.out (by kernel_rfl)) (fun _ _ _ h => h) (Or.inr ⟨by rfl, rfl⟩) ?_ ?_
    rotate_left
    ·simp only [sp_]
     rfl
    refine pure_ (i := 8) (N := some 31) (v := undef) (a' := ?_) M11_24 rfl rfl (any_of HT_.out (by kernel_rfl)) (fun _ _ _ h => h) (Or.inr ⟨by rfl, rfl⟩) ?_ ?_
    rotate_left
    ·simp only [sp_]
     rfl
    refine pure_ (i := 9) (N := some 32) (v := undef) (a' := ?_) M11_32 rfl rfl (any_of HT_.out (by kernel_rfl)) (fun _ _ _ h => h) (Or.inr ⟨by rfl, rfl⟩) ?_ ?_
    rotate_left
    ·simp only [sp_]
     rfl
    refine pure_ (i := 10) (N := some 33) (v := undef) (a' := ?_) M11_33 rfl rfl (any_of HT_.out (by kernel_rfl)) (fun _ _ _ h => h) (Or.inr ⟨by rfl, rfl⟩) ?_ ?_
    rotate_left
    ·simp only [sp_]
     rfl
    refine pure_ (i := 11) (N := some 34) (v := undef) (a' := ?_) M11_34 rfl rfl (any_of HT_.out (by kernel_rfl)) (fun _ _ _ h => h) (Or.inr ⟨by rfl, rfl⟩) ?_ ?_
    rotate_left
    ·simp only [sp_]
     rfl
    refine pu_ 12 35 M11_35 ?_
    refine pu_ 13 4 M11_29 ?_
    refine pu_ 14 5 M11_30 ?_
    refine done_ (done_of HT_.out (by kernel_rfl)) ?_
    try go_wp2
    go_ret2
    exact ⟨rfl, bO_⟩

end Go.Proofs.YtbnhfipcjbnknaaGreatDoor.PFnPlatesOrder
