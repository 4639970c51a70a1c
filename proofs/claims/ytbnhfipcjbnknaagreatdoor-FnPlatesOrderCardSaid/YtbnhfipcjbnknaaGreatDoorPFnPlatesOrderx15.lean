/- Functions that the law FnPlatesOrder reaches, each as a Lean function, and that the Go code comes to just these answers (written by programs). -/
import Derived.Test.YtbnhfipcjbnknaaGreatDoorPFnPlatesOrderx0
import Derived.Test.YtbnhfipcjbnknaaGreatDoorPFnPlatesOrderx3
namespace Go.Proofs.YtbnhfipcjbnknaaGreatDoor.PFnPlatesOrder
open Go.RowKit Go.Proofs.YtbnhfipcjbnknaaGreatDoorW.PrintWords Go.Proofs.YtbnhfipcjbnknaaGreatDoorW.PrintLast Go.Proofs.YtbnhfipcjbnknaaGreatDoorW.PrintMore
attribute [local go_sem] max2_int min2_int max_two min_two max_three min_three max_four min_four   -- for this text's walks alone
set_option linter.unusedVariables false
set_option linter.unusedSimpArgs false

theorem setCell_drewN_spec_isGood (w : World) (a : Addr) (v : Value) (n : Nat) : (w.drewN n).setCell a v = (w.setCell a v).drewN n := rfl
theorem drewN_drewN_spec_isGood (w : World) (m n : Nat) : (w.drewN m).drewN n = w.drewN (m + n) := by simp [World.drewN, Nat.add_assoc]
abbrev M15_0 : Array Bool := #[false, false, false, false, false, false, false, false, false, false, false, false, false, false, false, false, false, false]
abbrev M15_1 : Array Bool := #[true, false, false, false, false, false, false, false, false, false, false, false, false, false, false, false, false, false]
abbrev M15_2 : Array Bool := #[true, true, false, false, false, false, false, false, false, false, false, false, false, false, false, false, false, false]
abbrev M15_3 : Array Bool := #[true, true, true, false, false, false, false, false, false, false, false, false, false, false, false, false, false, false]
abbrev M15_4 : Array Bool := #[true, true, true, true, false, false, false, false, false, false, false, false, false, false, false, false, false, false]
abbrev M15_5 : Array Bool := #[true, true, true, true, true, false, false, false, false, false, false, false, false, false, false, false, false, false]
abbrev M15_6 : Array Bool := #[true, true, true, true, true, true, false, false, false, false, false, false, false, false, false, false, false, false]
abbrev M15_7 : Array Bool := #[true, true, true, true, true, true, true, false, false, false, false, false, false, false, false, false, false, false]
abbrev M15_8 : Array Bool := #[true, true, true, true, true, true, true, true, false, false, false, false, false, false, false, false, false, false]
abbrev M15_9 : Array Bool := #[true, true, true, true, true, true, true, true, true, false, false, false, false, false, false, false, false, false]
abbrev M15_10 : Array Bool := #[true, true, true, true, true, true, true, true, true, true, false, false, false, false, false, false, false, false]
abbrev M15_11 : Array Bool := #[true, true, true, true, true, true, true, true, true, true, true, false, false, false, false, false, false, false]
abbrev M15_12 : Array Bool := #[true, true, true, true, true, true, true, true, true, true, true, true, false, false, false, false, false, false]
abbrev M15_13 : Array Bool := #[true, true, true, true, true, true, true, true, true, true, true, true, false, true, false, false, false, false]
abbrev M15_14 : Array Bool := #[true, true, true, true, true, true, true, true, true, true, true, true, true, true, false, false, false, false]
abbrev M15_15 : Array Bool := #[true, true, true, true, true, true, true, true, true, true, true, true, true, true, true, false, false, false]
abbrev M15_16 : Array Bool := #[true, true, true, true, true, true, true, true, true, true, true, true, true, true, true, true, false, false]
abbrev M15_17 : Array Bool := #[true, true, true, true, true, true, true, true, true, true, true, true, true, true, true, true, true, false]
abbrev M15_18 : Array Bool := #[true, true, true, true, true, true, true, true, true, true, true, true, true, true, true, true, true, true]
abbrev M15_19 : Array Bool := #[true, true, true, true, true, true, true, true, true, true, true, true, true, false, false, false, false, false]
/-! ### spec_isGood: function 51 -/
def spec_isGood.l0 : Nat → List (S25) → List (S25) → Int → Int → Option (Bool)
 | 0, _, _, _, _ => none
 | k + 1, x0, x9, x10, x11 => if x11 < x10 then (if 0 ≤ x11 then (if x11 < (x9.length : Int) then ((spec_isPlate.f ((rd_T25 x9 x11).f0) ((rd_T25 x9 x11).f1)).bind fun t433 => (if t433 = true then (if x11 > 0 then (if 0 ≤ (wrap64 (x11 - 1)) then (if (wrap64 (x11 - 1)) < (x0.length : Int) then ((spec_isRank.f ((rd_T25 x0 (wrap64 (x11 - 1))).f0) ((rd_T25 x0 (wrap64 (x11 - 1))).f1)).bind fun t435 => ((spec_isRank.f ((rd_T25 x9 x11).f0) ((rd_T25 x9 x11).f1)).bind fun t436 => (if t435 ≥ t436 then (some false) else (spec_isGood.l0 k x0 x9 x10 (wrap64 (x11 + 1)))))) else (none)) else (none)) else (spec_isGood.l0 k x0 x9 x10 (wrap64 (x11 + 1)))) else (some false))) else (none)) else (none)) else (some true)
def spec_isGood.f (k : Nat) (l0 : List (S25)) : Option (Bool) := (spec_l1In.f (l0.length : Int) 1 60).bind fun t430 => (if t430 = true then (spec_isGood.l0 k l0 l0 (l0.length : Int) 0) else (some false))
def spec_isGood.T6 : Bool × List (List Nat × List Nat) := (true, [([], []), ([0], [0]), ([1], [1]), ([2, 1], [2]), ([3], [3]), ([4, 3], [3, 4]), ([5, 3, 3], [3, 5]), ([6], [6]), ([6], [6]), ([8, 6], [6, 8]), ([7, 9, 6], [6, 7, 9]), ([10, 6], [6, 10]), ([11, 6, 6], [6, 11]), ([6], [6]), ([13, 12, 6], [6, 13]), ([12, 14, 6], [6, 12, 14]), ([6, 15, 3], [3, 6, 15]), ([3, 16], [3, 16])])
def spec_isGood.B6 : List Nat := [0, 1, 3, 7, 15, 31, 63, 127, 127, 383, 1023, 2047, 4095, 127, 16383, 32767, 65535, 131071]
theorem spec_isGood.tab6 : rtab .any (opsOf Tryz.f51 6) = spec_isGood.T6 := by kernel_rfl
theorem spec_isGood.bits6 : waitsOk spec_isGood.T6.2 spec_isGood.B6 = true := by kernel_rfl
set_option maxHeartbeats 8000000 in
set_option maxRecDepth 100000 in
theorem spec_isGood.calls (k : Nat) (A0 : Option Addr) (c0 : Nat) (l0 : List (S25)) (r : Bool) (w : World) (hr0 : Kd.C k25 w A0 l0.length l0) (hc0 : l0.length ≤ c0) (h : spec_isGood.f k l0 = some r) :
  Calls Tryz.prog 51 #[.slice A0 l0.length c0] w fun e w' => e = .returned (.bool r) ∧ Below w.heap.size w w' := by
 have hu25 := Tryz.underlying25
 have HR0 := Aside0.mk hr0
 have HC0 := Aside0.mk hc0
 clear hr0 hc0
 have HB := Aside0.mk (Below.refl w.heap.size w)
 have H : ((spec_l1In.f (l0.length : Int) 1 60).bind fun t430 => (if t430 = true then (spec_isGood.l0 k l0 l0 (l0.length : Int) 0) else (some false))) = some r := h
 clear h
 obtain ⟨t430, A2, H⟩ := obA H
 by_cases c3 : t430 = true
 ·subst c3
  rw [if_pos rfl] at H
  have H' := Aside0.mk H
  clear H
  go_enter Tryz.func51, Tryz.ntmps51
  go_wp2_with (first | (refine gL_ Tryz.func61 (some 7) #[.int .i64 (l0.length : Int), .int .i64 1, .int .i64 60] ?_; (with_reducible refine (spec_l1In.calls (l0.length : Int) 1 60 true _ A2.out).mono ?_); rintro e w' ⟨rfl, ⟨nd, rfl⟩⟩; refine ⟨_, rfl, ?_⟩))
  go_loopg [11] k (fun kq v11 w' => ∃ (x11_1 : Int), v11 = .int .i64 x11_1 ∧ Aside0 (spec_isGood.l0 kq l0 l0 (l0.length : Int) x11_1 = some r) ∧ Aside0 (kq ≤ k) ∧ Aside0 (Below w.heap.size w w'))
  case atStart => exact ⟨(0), rfl, H', ⟨Nat.le_refl _⟩, ⟨bO_⟩⟩
  case round =>
   clear H'
   try clear p2
   try clear c3
   obtain ⟨x11_1, rfl, HA, HK1, HB⟩ := hrel
   cases gk with
   | zero => exact absurd HA.out (by simp [spec_isGood.l0])
   | succ k1 =>
    have H := HA.out
    clear HA
    simp only [spec_isGood.l0] at H
    by_cases c4 : x11_1 < (l0.length : Int)
    ·rw [if_pos c4] at H
     replace c4 := decide_eq_true c4
     by_cases c5 : 0 ≤ x11_1
     ·rw [if_pos c5] at H
      replace c5 := decide_eq_true c5
      by_cases c6 : x11_1 < (l0.length : Int)
      ·rw [if_pos c6] at H
       replace c6 := decide_eq_true c6
       obtain ⟨t433, A7, H⟩ := obA H
       by_cases c8 : t433 = true
       ·subst c8
        rw [if_pos rfl] at H
        by_cases c9 : x11_1 > 0
        ·rw [if_pos c9] at H
         replace c9 := decide_eq_true c9
         obtain ⟨ji10, hji10⟩ : ∃ j_ : Int, (wrap64 (x11_1 - 1)) = j_ := ⟨_, rfl⟩
         replace H : (if 0 ≤ (ji10) then (if (ji10) < (l0.length : Int) then ((spec_isRank.f ((rd_T25 l0 (ji10)).f0) ((rd_T25 l0 (ji10)).f1)).bind fun t435 => ((spec_isRank.f ((rd_T25 l0 x11_1).f0) ((rd_T25 l0 x11_1).f1)).bind fun t436 => (if t435 ≥ t436 then (some false) else (spec_isGood.l0 k1 l0 l0 (l0.length : Int) (wrap64 (x11_1 + 1)))))) else (none)) else (none)) = some r := by first | (rw [hji10] at H; exact H) | (simp only [hji10] at H ⊢; exact H)
         (try rw [hji10] at A7)
         have hji10w : (IntKind.i64.wrap (x11_1 - 1)) = ji10 := (i64_w _).trans hji10
         by_cases c11 : 0 ≤ (ji10)
         ·rw [if_pos c11] at H
          replace c11 := decide_eq_true c11
          by_cases c12 : (ji10) < (l0.length : Int)
          ·rw [if_pos c12] at H
           replace c12 := decide_eq_true c12
           obtain ⟨t435, A13, H⟩ := obA H
           obtain ⟨t436, A14, H⟩ := obA H
           by_cases c15 : t435 ≥ t436
           ·rw [if_pos c15] at H
            replace c15 := decide_eq_true c15
            obtain rfl := Option.some.inj H
            have p431 : 0 ≤ (x11_1 : Int) := od_
            have q431 : x11_1 < (l0.length : Int) := od_
            obtain ⟨ad431, e431, hx431_0, hx431_1⟩ := at_T25 HR0.out x11_1 p431 q431
            cases e431
            replace hx431_0 := (HB.out.cell (World.block_lt_of_cell? w _ hx431_0)).trans hx431_0
            replace hx431_1 := (HB.out.cell (World.block_lt_of_cell? w _ hx431_1)).trans hx431_1
            replace p431 := eq_true p431
            replace q431 := eq_true q431
            try go_wp2_with (first | (refine bx_ 4 #[.int .i64 0, .int .i64 0] 25 ?_; intro gb432 hg w16 BK432 hb; have GW432 := gW_ (w := w) hg; replace HB := bT_ hb; clear hb hg; have hcz17_0 : w16.cell? ⟨gb432, 0, none⟩ = some (.int .i64 0) := (blk_cell BK432.out 0).trans rfl; have hcz17_1 : w16.cell? ⟨gb432, 1, none⟩ = some (.int .i64 0) := (blk_cell BK432.out 1).trans rfl; have hfz17_0 := blk_frozen BK432.out 0; have hfz17_1 := blk_frozen BK432.out 1))
            have n0_ : Aside0 (((w16.setCell ⟨gb432, 0, none⟩ (.int .i64 ((rd_T25 l0 x11_1).f0))).setCell ⟨gb432, 1, none⟩ (.int .i64 ((rd_T25 l0 x11_1).f1))).heap[gb432]? = some (.cells #[.int .i64 ((rd_T25 l0 x11_1).f0), .int .i64 ((rd_T25 l0 x11_1).f1)] 25 (0, 0))) := ⟨by refine blk_put (cs := #[.int .i64 ((rd_T25 l0 x11_1).f0), .int .i64 0]) ?_ 1 _ rfl; refine blk_put (cs := #[.int .i64 0, .int .i64 0]) ?_ 0 _ rfl; exact BK432.out⟩
            have n1_ : Aside0 (Below w.heap.size w ((w16.setCell ⟨gb432, 0, none⟩ (.int .i64 ((rd_T25 l0 x11_1).f0))).setCell ⟨gb432, 1, none⟩ (.int .i64 ((rd_T25 l0 x11_1).f1)))) := ⟨bO_⟩
            (try clear BK432)
            (try clear HB)
            (try simp only [setCell_drewN_spec_isGood, drewN_drewN_spec_isGood])
            generalize ((w16.setCell ⟨gb432, 0, none⟩ (.int .i64 ((rd_T25 l0 x11_1).f0))).setCell ⟨gb432, 1, none⟩ (.int .i64 ((rd_T25 l0 x11_1).f1))) = w18 at n0_ n1_ ⊢
            have BK432 := n0_
            have HB := n1_
            clear n0_ n1_
            replace BK432 := Aside0.mk (blk_drew BK432.out)
            replace HB := Aside0.mk (below_drew1 HB.out)
            have p434 : 0 ≤ ((ji10) : Int) := od_
            have q434 : (ji10) < (l0.length : Int) := od_
            obtain ⟨ad434, e434, hx434_0, hx434_1⟩ := at_T25 HR0.out (ji10) p434 q434
            have hw434_1 := hx434_1
            have hw434_0 := hx434_0
            obtain rfl : ad431 = ad434 := (by injection e434)
            replace hx434_0 := (HB.out.cell (World.block_lt_of_cell? w _ hx434_0)).trans hx434_0
            replace hx434_1 := (HB.out.cell (World.block_lt_of_cell? w _ hx434_1)).trans hx434_1
            replace p434 := eq_true p434
            replace q434 := eq_true q434
            refine start_ (n := 18) (S := fun w' => w'.cell? ⟨gb432, 0, none⟩ = some (.int .i64 ((rd_T25 l0 x11_1).f0)) ∧ w'.cell? ⟨gb432, 1, none⟩ = some (.int .i64 ((rd_T25 l0 x11_1).f1)) ∧ w'.cell? (ad431.add (((ji10)).toNat * 2)) = some (.int .i64 ((rd_T25 l0 (ji10)).f0)) ∧ w'.cell? ⟨(ad431.add (((ji10)).toNat * 2)).block, (ad431.add (((ji10)).toNat * 2)).off + 1, none⟩ = some (.int .i64 ((rd_T25 l0 (ji10)).f1))) (ds := []) M15_0 (by kernel_rfl) rfl rfl ⟨(blk_cell BK432.out 0).trans rfl, (blk_cell BK432.out 1).trans rfl, ((HB.out.cell (World.block_lt_of_cell? w _ hw434_0)).trans hw434_0), ((HB.out.cell (World.block_lt_of_cell? w _ hw434_1)).trans hw434_1)⟩ (fun hHeld => ?_); refine with_tabW spec_isGood.tab6 spec_isGood.bits6 (fun HT_ HW_ => ?_)
            generalize w18.drew = w19 at BK432 HB hx434_0 hx434_1 hHeld ⊢
            refine ta_ 0 16 M15_1 ?_
            refine on_ 1 (some 17) M15_2 fun K hK => ?_
            refine gS_ Tryz.func39 #[.agg #[.int .i64 ((rd_T25 l0 x11_1).f0), .int .i64 ((rd_T25 l0 x11_1).f1)]] ?_
            with_reducible refine (spec_isPlate.calls ((rd_T25 l0 x11_1).f0) ((rd_T25 l0 x11_1).f1) true _ A7.out).mono ?_
            rintro e w20 ⟨rfl, hb⟩
            refine ⟨_, rfl, ?_⟩
            replace BK432 := bB_ (g := gb432) hb
            replace HB := bT_ hb
            refine hS_ hK fun hHeld => ?_
            clear hK K
            refine nm_ ?_
            refine pu_ 2 18 M15_3 ?_
            refine pu_ 3 19 M15_4 ?_
            refine pu_ 4 20 M15_5 ?_
            refine pu_ 5 21 M15_6 ?_
            refine pu_ 6 22 M15_7 ?_
            refine pu_ 7 23 M15_8 ?_
            refine pu_ 8 24 M15_9 ?_
            refine pu_ 9 25 M15_10 ?_
            refine pu_ 10 26 M15_11 ?_
            refine ta_ 11 27 M15_12 ?_
            refine ta_ 13 29 M15_13 ?_
            refine on_ 12 (some 28) M15_14 fun K hK => ?_
            refine goes_ Tryz.func40 (by kernel_rfl) rfl #[.agg #[.int .i64 ((rd_T25 l0 (ji10)).f0), .int .i64 ((rd_T25 l0 (ji10)).f1)]] (by rfl) rfl rfl (by (try simp only [List.map_toArray, List.map_cons, List.map_nil]); first | done | (simp only [hji10]; rfl) | rfl | (simp only [List.length_drop, List.length_take]; rfl)) ?_
            with_reducible refine (spec_isRank.calls ((rd_T25 l0 (ji10)).f0) ((rd_T25 l0 (ji10)).f1) t435 _ A13.out).mono ?_
            rintro e w21 ⟨rfl, hb⟩
            refine ⟨_, rfl, ?_⟩
            replace BK432 := bB_ (g := gb432) hb
            replace HB := bT_ hb
            refine hS_ hK fun hHeld => ?_
            clear hK K
            refine nm_ ?_
            refine on_ 14 (some 30) M15_15 fun K hK => ?_
            refine gS_ Tryz.func40 #[.agg #[.int .i64 ((rd_T25 l0 x11_1).f0), .int .i64 ((rd_T25 l0 x11_1).f1)]] ?_
            with_reducible refine (spec_isRank.calls ((rd_T25 l0 x11_1).f0) ((rd_T25 l0 x11_1).f1) t436 _ A14.out).mono ?_
            rintro e w22 ⟨rfl, hb⟩
            refine ⟨_, rfl, ?_⟩
            replace BK432 := bB_ (g := gb432) hb
            replace HB := bT_ hb
            refine hS_ hK fun hHeld => ?_
            clear hK K
            refine nm_ ?_
            refine pu_ 15 31 M15_16 ?_
            refine pu_ 16 32 M15_17 ?_
            refine pu_ 17 33 M15_18 ?_
            refine done_ (done_of HT_.out (by kernel_rfl)) ?_
            try go_wp2
            go_ret
            exact ⟨by first | rfl | (simp [errW_none, errW_some] <;> rfl) | (simp only [← hji10]; first | rfl | (simp [errW_none, errW_some] <;> rfl)) | (simp [*, errW_none, errW_some] <;> rfl), bO_⟩
           ·rw [if_neg c15] at H
            replace c15 := decide_eq_false c15
            have H' := Aside0.mk H
            clear H
            have p431 : 0 ≤ (x11_1 : Int) := od_
            have q431 : x11_1 < (l0.length : Int) := od_
            obtain ⟨ad431, e431, hx431_0, hx431_1⟩ := at_T25 HR0.out x11_1 p431 q431
            cases e431
            replace hx431_0 := (HB.out.cell (World.block_lt_of_cell? w _ hx431_0)).trans hx431_0
            replace hx431_1 := (HB.out.cell (World.block_lt_of_cell? w _ hx431_1)).trans hx431_1
            replace p431 := eq_true p431
            replace q431 := eq_true q431
            try go_wp2_with (first | (refine bx_ 4 #[.int .i64 0, .int .i64 0] 25 ?_; intro gb432 hg w23 BK432 hb; have GW432 := gW_ (w := w) hg; replace HB := bT_ hb; clear hb hg; have hcz24_0 : w23.cell? ⟨gb432, 0, none⟩ = some (.int .i64 0) := (blk_cell BK432.out 0).trans rfl; have hcz24_1 : w23.cell? ⟨gb432, 1, none⟩ = some (.int .i64 0) := (blk_cell BK432.out 1).trans rfl; have hfz24_0 := blk_frozen BK432.out 0; have hfz24_1 := blk_frozen BK432.out 1))
            have n0_ : Aside0 (((w23.setCell ⟨gb432, 0, none⟩ (.int .i64 ((rd_T25 l0 x11_1).f0))).setCell ⟨gb432, 1, none⟩ (.int .i64 ((rd_T25 l0 x11_1).f1))).heap[gb432]? = some (.cells #[.int .i64 ((rd_T25 l0 x11_1).f0), .int .i64 ((rd_T25 l0 x11_1).f1)] 25 (0, 0))) := ⟨by refine blk_put (cs := #[.int .i64 ((rd_T25 l0 x11_1).f0), .int .i64 0]) ?_ 1 _ rfl; refine blk_put (cs := #[.int .i64 0, .int .i64 0]) ?_ 0 _ rfl; exact BK432.out⟩
            have n1_ : Aside0 (Below w.heap.size w ((w23.setCell ⟨gb432, 0, none⟩ (.int .i64 ((rd_T25 l0 x11_1).f0))).setCell ⟨gb432, 1, none⟩ (.int .i64 ((rd_T25 l0 x11_1).f1)))) := ⟨bO_⟩
            (try clear BK432)
            (try clear HB)
            (try simp only [setCell_drewN_spec_isGood, drewN_drewN_spec_isGood])
            generalize ((w23.setCell ⟨gb432, 0, none⟩ (.int .i64 ((rd_T25 l0 x11_1).f0))).setCell ⟨gb432, 1, none⟩ (.int .i64 ((rd_T25 l0 x11_1).f1))) = w25 at n0_ n1_ ⊢
            have BK432 := n0_
            have HB := n1_
            clear n0_ n1_
            replace BK432 := Aside0.mk (blk_drew BK432.out)
            replace HB := Aside0.mk (below_drew1 HB.out)
            have p434 : 0 ≤ ((ji10) : Int) := od_
            have q434 : (ji10) < (l0.length : Int) := od_
            obtain ⟨ad434, e434, hx434_0, hx434_1⟩ := at_T25 HR0.out (ji10) p434 q434
            have hw434_1 := hx434_1
            have hw434_0 := hx434_0
            obtain rfl : ad431 = ad434 := (by injection e434)
            replace hx434_0 := (HB.out.cell (World.block_lt_of_cell? w _ hx434_0)).trans hx434_0
            replace hx434_1 := (HB.out.cell (World.block_lt_of_cell? w _ hx434_1)).trans hx434_1
            replace p434 := eq_true p434
            replace q434 := eq_true q434
            refine start_ (n := 18) (S := fun w' => w'.cell? ⟨gb432, 0, none⟩ = some (.int .i64 ((rd_T25 l0 x11_1).f0)) ∧ w'.cell? ⟨gb432, 1, none⟩ = some (.int .i64 ((rd_T25 l0 x11_1).f1)) ∧ w'.cell? (ad431.add (((ji10)).toNat * 2)) = some (.int .i64 ((rd_T25 l0 (ji10)).f0)) ∧ w'.cell? ⟨(ad431.add (((ji10)).toNat * 2)).block, (ad431.add (((ji10)).toNat * 2)).off + 1, none⟩ = some (.int .i64 ((rd_T25 l0 (ji10)).f1))) (ds := []) M15_0 (by kernel_rfl) rfl rfl ⟨(blk_cell BK432.out 0).trans rfl, (blk_cell BK432.out 1).trans rfl, ((HB.out.cell (World.block_lt_of_cell? w _ hw434_0)).trans hw434_0), ((HB.out.cell (World.block_lt_of_cell? w _ hw434_1)).trans hw434_1)⟩ (fun hHeld => ?_); refine with_tabW spec_isGood.tab6 spec_isGood.bits6 (fun HT_ HW_ => ?_)
            generalize w25.drew = w26 at BK432 HB hx434_0 hx434_1 hHeld ⊢
            refine ta_ 0 16 M15_1 ?_
            refine on_ 1 (some 17) M15_2 fun K hK => ?_
            refine gS_ Tryz.func39 #[.agg #[.int .i64 ((rd_T25 l0 x11_1).f0), .int .i64 ((rd_T25 l0 x11_1).f1)]] ?_
            with_reducible refine (spec_isPlate.calls ((rd_T25 l0 x11_1).f0) ((rd_T25 l0 x11_1).f1) true _ A7.out).mono ?_
            rintro e w27 ⟨rfl, hb⟩
            refine ⟨_, rfl, ?_⟩
            replace BK432 := bB_ (g := gb432) hb
            replace HB := bT_ hb
            refine hS_ hK fun hHeld => ?_
            clear hK K
            refine nm_ ?_
            refine pu_ 2 18 M15_3 ?_
            refine pu_ 3 19 M15_4 ?_
            refine pu_ 4 20 M15_5 ?_
            refine pu_ 5 21 M15_6 ?_
            refine pu_ 6 22 M15_7 ?_
            refine pu_ 7 23 M15_8 ?_
            refine pu_ 8 24 M15_9 ?_
            refine pu_ 9 25 M15_10 ?_
            refine pu_ 10 26 M15_11 ?_
            refine ta_ 11 27 M15_12 ?_
            refine ta_ 13 29 M15_13 ?_
            refine on_ 12 (some 28) M15_14 fun K hK => ?_
            refine goes_ Tryz.func40 (by kernel_rfl) rfl #[.agg #[.int .i64 ((rd_T25 l0 (ji10)).f0), .int .i64 ((rd_T25 l0 (ji10)).f1)]] (by rfl) rfl rfl (by (try simp only [List.map_toArray, List.map_cons, List.map_nil]); first | done | (simp only [hji10]; rfl) | rfl | (simp only [List.length_drop, List.length_take]; rfl)) ?_
            with_reducible refine (spec_isRank.calls ((rd_T25 l0 (ji10)).f0) ((rd_T25 l0 (ji10)).f1) t435 _ A13.out).mono ?_
            rintro e w28 ⟨rfl, hb⟩
            refine ⟨_, rfl, ?_⟩
            replace BK432 := bB_ (g := gb432) hb
            replace HB := bT_ hb
            refine hS_ hK fun hHeld => ?_
            clear hK K
            refine nm_ ?_
            refine on_ 14 (some 30) M15_15 fun K hK => ?_
            refine gS_ Tryz.func40 #[.agg #[.int .i64 ((rd_T25 l0 x11_1).f0), .int .i64 ((rd_T25 l0 x11_1).f1)]] ?_
            with_reducible refine (spec_isRank.calls ((rd_T25 l0 x11_1).f0) ((rd_T25 l0 x11_1).f1) t436 _ A14.out).mono ?_
            rintro e w29 ⟨rfl, hb⟩
            refine ⟨_, rfl, ?_⟩
            replace BK432 := bB_ (g := gb432) hb
            replace HB := bT_ hb
            refine hS_ hK fun hHeld => ?_
            clear hK K
            refine nm_ ?_
            refine pu_ 15 31 M15_16 ?_
            refine pu_ 16 32 M15_17 ?_
            refine pu_ 17 33 M15_18 ?_
            refine done_ (done_of HT_.out (by kernel_rfl)) ?_
            try go_wp2
            go_roundg k1
            case measure => have := HK1.out; omega
            case rel => exact ⟨(wrap64 (x11_1 + 1)), rfl, H', ⟨by have := HK1.out; omega⟩, ⟨bO_⟩⟩
          ·rw [if_neg c12] at H
           exact absurd H (by simp)
         ·rw [if_neg c11] at H
          exact absurd H (by simp)
        ·rw [if_neg c9] at H
         replace c9 := decide_eq_false c9
         have H' := Aside0.mk H
         clear H
         have p431 : 0 ≤ (x11_1 : Int) := od_
         have q431 : x11_1 < (l0.length : Int) := od_
         obtain ⟨ad431, e431, hx431_0, hx431_1⟩ := at_T25 HR0.out x11_1 p431 q431
         cases e431
         replace hx431_0 := (HB.out.cell (World.block_lt_of_cell? w _ hx431_0)).trans hx431_0
         replace hx431_1 := (HB.out.cell (World.block_lt_of_cell? w _ hx431_1)).trans hx431_1
         replace p431 := eq_true p431
         replace q431 := eq_true q431
         try go_wp2_with (first | (refine bx_ 4 #[.int .i64 0, .int .i64 0] 25 ?_; intro gb432 hg w30 BK432 hb; have GW432 := gW_ (w := w) hg; replace HB := bT_ hb; clear hb hg; have hcz31_0 : w30.cell? ⟨gb432, 0, none⟩ = some (.int .i64 0) := (blk_cell BK432.out 0).trans rfl; have hcz31_1 : w30.cell? ⟨gb432, 1, none⟩ = some (.int .i64 0) := (blk_cell BK432.out 1).trans rfl; have hfz31_0 := blk_frozen BK432.out 0; have hfz31_1 := blk_frozen BK432.out 1))
         have n0_ : Aside0 (((w30.setCell ⟨gb432, 0, none⟩ (.int .i64 ((rd_T25 l0 x11_1).f0))).setCell ⟨gb432, 1, none⟩ (.int .i64 ((rd_T25 l0 x11_1).f1))).heap[gb432]? = some (.cells #[.int .i64 ((rd_T25 l0 x11_1).f0), .int .i64 ((rd_T25 l0 x11_1).f1)] 25 (0, 0))) := ⟨by refine blk_put (cs := #[.int .i64 ((rd_T25 l0 x11_1).f0), .int .i64 0]) ?_ 1 _ rfl; refine blk_put (cs := #[.int .i64 0, .int .i64 0]) ?_ 0 _ rfl; exact BK432.out⟩
         have n1_ : Aside0 (Below w.heap.size w ((w30.setCell ⟨gb432, 0, none⟩ (.int .i64 ((rd_T25 l0 x11_1).f0))).setCell ⟨gb432, 1, none⟩ (.int .i64 ((rd_T25 l0 x11_1).f1)))) := ⟨bO_⟩
         (try clear BK432)
         (try clear HB)
         (try simp only [setCell_drewN_spec_isGood, drewN_drewN_spec_isGood])
         generalize ((w30.setCell ⟨gb432, 0, none⟩ (.int .i64 ((rd_T25 l0 x11_1).f0))).setCell ⟨gb432, 1, none⟩ (.int .i64 ((rd_T25 l0 x11_1).f1))) = w32 at n0_ n1_ ⊢
         have BK432 := n0_
         have HB := n1_
         clear n0_ n1_
         replace BK432 := Aside0.mk (blk_drew BK432.out)
         replace HB := Aside0.mk (below_drew1 HB.out)
         refine start_ (n := 18) (S := fun w' => w'.cell? ⟨gb432, 0, none⟩ = some (.int .i64 ((rd_T25 l0 x11_1).f0)) ∧ w'.cell? ⟨gb432, 1, none⟩ = some (.int .i64 ((rd_T25 l0 x11_1).f1))) (ds := []) M15_0 (by kernel_rfl) rfl rfl ⟨(blk_cell BK432.out 0).trans rfl, (blk_cell BK432.out 1).trans rfl⟩ (fun hHeld => ?_); refine with_tabW spec_isGood.tab6 spec_isGood.bits6 (fun HT_ HW_ => ?_)
         generalize w32.drew = w33 at BK432 HB hHeld ⊢
         refine ta_ 0 16 M15_1 ?_
         refine on_ 1 (some 17) M15_2 fun K hK => ?_
         refine gS_ Tryz.func39 #[.agg #[.int .i64 ((rd_T25 l0 x11_1).f0), .int .i64 ((rd_T25 l0 x11_1).f1)]] ?_
         with_reducible refine (spec_isPlate.calls ((rd_T25 l0 x11_1).f0) ((rd_T25 l0 x11_1).f1) true _ A7.out).mono ?_
         rintro e w34 ⟨rfl, hb⟩
         refine ⟨_, rfl, ?_⟩
         replace BK432 := bB_ (g := gb432) hb
         replace HB := bT_ hb
         refine hS_ hK fun hHeld => ?_
         clear hK K
         refine nm_ ?_
         refine pu_ 2 18 M15_3 ?_
         refine pu_ 3 19 M15_4 ?_
         refine pu_ 4 20 M15_5 ?_
         refine pu_ 5 21 M15_6 ?_
         refine pu_ 6 22 M15_7 ?_
         refine pure_ (i := 7) (N := some 23) (v := undef) (a' := ?_) M15_8 rfl rfl (any_of HT_.out (by kernel_rfl)) (fun _ _ _ h => h) (Or.inr ⟨by rfl, rfl⟩) ?_ ?_
         rotate_left
         ·simp only [sp_]
          rfl
         refine pure_ (i := 8) (N := some 24) (v := undef) (a' := ?_) M15_9 rfl rfl (any_of HT_.out (by kernel_rfl)) (fun _ _ _ h => h) (Or.inr ⟨by rfl, rfl⟩) ?_ ?_
         rotate_left
         ·simp only [sp_]
          rfl
         refine pure_ (i := 9) (N := some 25) (v := undef) (a' := ?_) M15_10 rfl rfl (any_of HT_.out (by kernel_rfl)) (fun _ _ _ h => h) (Or.inr ⟨by rfl, rfl⟩) ?_ ?_
         rotate_left
         ·simp only [sp_]
          rfl
         refine pure_ (i := 10) (N := some 26) (v := undef) (a' := ?_) M15_11 rfl rfl (any_of HT_.out (by kernel_rfl)) (fun _ _ _ h => h) (Or.inr ⟨by rfl, rfl⟩) ?_ ?_
         rotate_left
         ·simp only [sp_]
          rfl
         refine pure_ (i := 11) (N := some 27) (v := undef) (a' := ?_) M15_12 rfl rfl (any_of HT_.out (by kernel_rfl)) (fun _ _ _ h => h) (Or.inr ⟨by rfl, rfl⟩) ?_ ?_
         rotate_left
         ·simp only [sp_]
          rfl
         refine pure_ (i := 12) (N := some 28) (v := undef) (a' := ?_) M15_19 rfl rfl (any_of HT_.out (by kernel_rfl)) (fun _ _ _ h => h) (Or.inr ⟨by rfl, rfl⟩) ?_ ?_
         rotate_left
         ·simp only [sp_]
          rfl
         refine pure_ (i := 13) (N := some 29) (v := undef) (a' := ?_) M15_14 rfl rfl (any_of HT_.out (by kernel_rfl)) (fun _ _ _ h => h) (Or.inr ⟨by rfl, rfl⟩) ?_ ?_
         rotate_left
         ·simp only [sp_]
          rfl
         refine pure_ (i := 14) (N := some 30) (v := undef) (a' := ?_) M15_15 rfl rfl (any_of HT_.out (by kernel_rfl)) (fun _ _ _ h => h) (Or.inr ⟨by rfl, rfl⟩) ?_ ?_
         rotate_left
         ·simp only [sp_]
          rfl
         refine pure_ (i := 15) (N := some 31) (v := undef) (a' := ?_) M15_16 rfl rfl (any_of HT_.out (by kernel_rfl)) (fun _ _ _ h => h) (Or.inr ⟨by rfl, rfl⟩) ?_ ?_
         rotate_left
         ·simp only [sp_]
          rfl
         refine pu_ 16 32 M15_17 ?_
         refine pu_ 17 33 M15_18 ?_
         refine done_ (done_of HT_.out (by kernel_rfl)) ?_
         try go_wp2
         go_roundg k1
         case measure => have := HK1.out; omega
         case rel => exact ⟨(wrap64 (x11_1 + 1)), rfl, H', ⟨by have := HK1.out; omega⟩, ⟨bO_⟩⟩
       ·replace c8 := Bool.eq_false_iff.mpr c8
        subst c8
        rw [if_neg (show ¬ (false = true) by decide)] at H
        obtain rfl := Option.some.inj H
        have p431 : 0 ≤ (x11_1 : Int) := od_
        have q431 : x11_1 < (l0.length : Int) := od_
        obtain ⟨ad431, e431, hx431_0, hx431_1⟩ := at_T25 HR0.out x11_1 p431 q431
        cases e431
        replace hx431_0 := (HB.out.cell (World.block_lt_of_cell? w _ hx431_0)).trans hx431_0
        replace hx431_1 := (HB.out.cell (World.block_lt_of_cell? w _ hx431_1)).trans hx431_1
        replace p431 := eq_true p431
        replace q431 := eq_true q431
        try go_wp2_with (first | (refine bx_ 4 #[.int .i64 0, .int .i64 0] 25 ?_; intro gb432 hg w35 BK432 hb; have GW432 := gW_ (w := w) hg; replace HB := bT_ hb; clear hb hg; have hcz36_0 : w35.cell? ⟨gb432, 0, none⟩ = some (.int .i64 0) := (blk_cell BK432.out 0).trans rfl; have hcz36_1 : w35.cell? ⟨gb432, 1, none⟩ = some (.int .i64 0) := (blk_cell BK432.out 1).trans rfl; have hfz36_0 := blk_frozen BK432.out 0; have hfz36_1 := blk_frozen BK432.out 1))
        have n0_ : Aside0 (((w35.setCell ⟨gb432, 0, none⟩ (.int .i64 ((rd_T25 l0 x11_1).f0))).setCell ⟨gb432, 1, none⟩ (.int .i64 ((rd_T25 l0 x11_1).f1))).heap[gb432]? = some (.cells #[.int .i64 ((rd_T25 l0 x11_1).f0), .int .i64 ((rd_T25 l0 x11_1).f1)] 25 (0, 0))) := ⟨by refine blk_put (cs := #[.int .i64 ((rd_T25 l0 x11_1).f0), .int .i64 0]) ?_ 1 _ rfl; refine blk_put (cs := #[.int .i64 0, .int .i64 0]) ?_ 0 _ rfl; exact BK432.out⟩
        have n1_ : Aside0 (Below w.heap.size w ((w35.setCell ⟨gb432, 0, none⟩ (.int .i64 ((rd_T25 l0 x11_1).f0))).setCell ⟨gb432, 1, none⟩ (.int .i64 ((rd_T25 l0 x11_1).f1)))) := ⟨bO_⟩
        (try clear BK432)
        (try clear HB)
        (try simp only [setCell_drewN_spec_isGood, drewN_drewN_spec_isGood])
        generalize ((w35.setCell ⟨gb432, 0, none⟩ (.int .i64 ((rd_T25 l0 x11_1).f0))).setCell ⟨gb432, 1, none⟩ (.int .i64 ((rd_T25 l0 x11_1).f1))) = w37 at n0_ n1_ ⊢
        have BK432 := n0_
        have HB := n1_
        clear n0_ n1_
        replace BK432 := Aside0.mk (blk_drew BK432.out)
        replace HB := Aside0.mk (below_drew1 HB.out)
        refine start_ (n := 18) (S := fun w' => w'.cell? ⟨gb432, 0, none⟩ = some (.int .i64 ((rd_T25 l0 x11_1).f0)) ∧ w'.cell? ⟨gb432, 1, none⟩ = some (.int .i64 ((rd_T25 l0 x11_1).f1))) (ds := []) M15_0 (by kernel_rfl) rfl rfl ⟨(blk_cell BK432.out 0).trans rfl, (blk_cell BK432.out 1).trans rfl⟩ (fun hHeld => ?_); refine with_tabW spec_isGood.tab6 spec_isGood.bits6 (fun HT_ HW_ => ?_)
        generalize w37.drew = w38 at BK432 HB hHeld ⊢
        refine ta_ 0 16 M15_1 ?_
        refine on_ 1 (some 17) M15_2 fun K hK => ?_
        refine gS_ Tryz.func39 #[.agg #[.int .i64 ((rd_T25 l0 x11_1).f0), .int .i64 ((rd_T25 l0 x11_1).f1)]] ?_
        with_reducible refine (spec_isPlate.calls ((rd_T25 l0 x11_1).f0) ((rd_T25 l0 x11_1).f1) false _ A7.out).mono ?_
        rintro e w39 ⟨rfl, hb⟩
        refine ⟨_, rfl, ?_⟩
        replace BK432 := bB_ (g := gb432) hb
        replace HB := bT_ hb
        refine hS_ hK fun hHeld => ?_
        clear hK K
        refine nm_ ?_
        refine pu_ 2 18 M15_3 ?_
        refine pu_ 3 19 M15_4 ?_
        refine pure_ (i := 4) (N := some 20) (v := undef) (a' := ?_) M15_5 rfl rfl (any_of HT_.out (by kernel_rfl)) (fun _ _ _ h => h) (Or.inr ⟨by rfl, rfl⟩) ?_ ?_
        rotate_left
        ·simp only [sp_]
         rfl
        refine pure_ (i := 5) (N := some 21) (v := undef) (a' := ?_) M15_6 rfl rfl (any_of HT_.out (by kernel_rfl)) (fun _ _ _ h => h) (Or.inr ⟨by rfl, rfl⟩) ?_ ?_
        rotate_left
        ·simp only [sp_]
         rfl
        refine pure_ (i := 6) (N := some 22) (v := undef) (a' := ?_) M15_7 rfl rfl (any_of HT_.out (by kernel_rfl)) (fun _ _ _ h => h) (Or.inr ⟨by rfl, rfl⟩) ?_ ?_
        rotate_left
        ·simp only [sp_]
         rfl
        refine pure_ (i := 7) (N := some 23) (v := undef) (a' := ?_) M15_8 rfl rfl (any_of HT_.out (by kernel_rfl)) (fun _ _ _ h => h) (Or.inr ⟨by rfl, rfl⟩) ?_ ?_
        rotate_left
        ·simp only [sp_]
         rfl
        refine pure_ (i := 8) (N := some 24) (v := undef) (a' := ?_) M15_9 rfl rfl (any_of HT_.out (by kernel_rfl)) (fun _ _ _ h => h) (Or.inr ⟨by rfl, rfl⟩) ?_ ?_
        rotate_left
        ·simp only [sp_]
         rfl
        refine pure_ (i := 9) (N := some 25) (v := undef) (a' := ?_) M15_10 rfl rfl (any_of HT_.out (by kernel_rfl)) (fun _ _ _ h => h) (Or.inr ⟨by rfl, rfl⟩) ?_ ?_
        rotate_left
        ·simp only [sp_]
         rfl
        refine pure_ (i := 10) (N := some 26) (v := undef) (a' := ?_) M15_11 rfl rfl (any_of HT_.out (by kernel_rfl)) (fun _ _ _ h => h) (Or.inr ⟨by rfl, rfl⟩) ?_ ?_
        rotate_left
        ·simp only [sp_]
         rfl
        refine pure_ (i := 11) (N := some 27) (v := undef) (a' := ?_) M15_12 rfl rfl (any_of HT_.out (by kernel_rfl)) (fun _ _ _ h => h) (Or.inr ⟨by rfl, rfl⟩) ?_ ?_
        rotate_left
        ·simp only [sp_]
         rfl
        refine pure_ (i := 12) (N := some 28) (v := undef) (a' := ?_) M15_19 rfl rfl (any_of HT_.out (by kernel_rfl)) (fun _ _ _ h => h) (Or.inr ⟨by rfl, rfl⟩) ?_ ?_
        rotate_left
        ·simp only [sp_]
         rfl
        refine pure_ (i := 13) (N := some 29) (v := undef) (a' := ?_) M15_14 rfl rfl (any_of HT_.out (by kernel_rfl)) (fun _ _ _ h => h) (Or.inr ⟨by rfl, rfl⟩) ?_ ?_
        rotate_left
        ·simp only [sp_]
         rfl
        refine pure_ (i := 14) (N := some 30) (v := undef) (a' := ?_) M15_15 rfl rfl (any_of HT_.out (by kernel_rfl)) (fun _ _ _ h => h) (Or.inr ⟨by rfl, rfl⟩) ?_ ?_
        rotate_left
        ·simp only [sp_]
         rfl
        refine pure_ (i := 15) (N := some 31) (v := undef) (a' := ?_) M15_16 rfl rfl (any_of HT_.out (by kernel_rfl)) (fun _ _ _ h => h) (Or.inr ⟨by rfl, rfl⟩) ?_ ?_
        rotate_left
        ·simp only [sp_]
         rfl
        refine pure_ (i := 16) (N := some 32) (v := undef) (a' := ?_) M15_17 rfl rfl (any_of HT_.out (by kernel_rfl)) (fun _ _ _ h => h) (Or.inr ⟨by rfl, rfl⟩) ?_ ?_
        rotate_left
        ·simp only [sp_]
         rfl
        refine pu_ 17 33 M15_18 ?_
        refine done_ (done_of HT_.out (by kernel_rfl)) ?_
        try go_wp2
        go_ret
        exact ⟨rfl, bO_⟩
      ·rw [if_neg c6] at H
       exact absurd H (by simp)
     ·rw [if_neg c5] at H
      exact absurd H (by simp)
    ·rw [if_neg c4] at H
     replace c4 := decide_eq_false c4
     obtain rfl := Option.some.inj H
     go_wp2
     go_ret
     exact ⟨rfl, bO_⟩
 ·replace c3 := Bool.eq_false_iff.mpr c3
  subst c3
  rw [if_neg (show ¬ (false = true) by decide)] at H
  obtain rfl := Option.some.inj H
  go_enter Tryz.func51, Tryz.ntmps51
  go_wp2_with (first | (refine gL_ Tryz.func61 (some 7) #[.int .i64 (l0.length : Int), .int .i64 1, .int .i64 60] ?_; (with_reducible refine (spec_l1In.calls (l0.length : Int) 1 60 false _ A2.out).mono ?_); rintro e w' ⟨rfl, ⟨nd, rfl⟩⟩; refine ⟨_, rfl, ?_⟩))
  go_ret
  exact ⟨rfl, bO_⟩

end Go.Proofs.YtbnhfipcjbnknaaGreatDoor.PFnPlatesOrder
