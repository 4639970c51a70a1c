/- Functions that the law FnPlatesOrder reaches, each as a Lean function, and that the Go code comes to just these answers (written by programs). -/
import Derived.Test.YtbnhfipcjbnknaaGreatDoorPFnPlatesOrderx0
import Derived.Test.YtbnhfipcjbnknaaGreatDoorPFnPlatesOrderx2
namespace Go.Proofs.YtbnhfipcjbnknaaGreatDoor.PFnPlatesOrder
open Go.RowKit Go.Proofs.YtbnhfipcjbnknaaGreatDoorW.PrintWords Go.Proofs.YtbnhfipcjbnknaaGreatDoorW.PrintLast Go.Proofs.YtbnhfipcjbnknaaGreatDoorW.PrintMore
attribute [local go_sem] max2_int min2_int max_two min_two max_three min_three max_four min_four   -- for this text's walks alone
set_option linter.unusedVariables false
set_option linter.unusedSimpArgs false

theorem setCell_drewN_impl_ArePlates (w : World) (a : Addr) (v : Value) (n : Nat) : (w.drewN n).setCell a v = (w.setCell a v).drewN n := rfl
theorem drewN_drewN_impl_ArePlates (w : World) (m n : Nat) : (w.drewN m).drewN n = w.drewN (m + n) := by simp [World.drewN, Nat.add_assoc]
abbrev M13_0 : Array Bool := #[false, false, false, false, false, false, false, false, false, false, false, false, false, false, false, false, false, false]
abbrev M13_1 : Array Bool := #[true, false, false, false, false, false, false, false, false, false, false, false, false, false, false, false, false, false]
abbrev M13_2 : Array Bool := #[true, true, false, false, false, false, false, false, false, false, false, false, false, false, false, false, false, false]
abbrev M13_3 : Array Bool := #[true, true, true, false, false, false, false, false, false, false, false, false, false, false, false, false, false, false]
abbrev M13_4 : Array Bool := #[true, true, true, true, false, false, false, false, false, false, false, false, false, false, false, false, false, false]
abbrev M13_5 : Array Bool := #[true, true, true, true, true, false, false, false, false, false, false, false, false, false, false, false, false, false]
abbrev M13_6 : Array Bool := #[true, true, true, true, true, true, false, false, false, false, false, false, false, false, false, false, false, false]
abbrev M13_7 : Array Bool := #[true, true, true, true, true, true, true, false, false, false, false, false, false, false, false, false, false, false]
abbrev M13_8 : Array Bool := #[true, true, true, true, true, true, true, true, false, false, false, false, false, false, false, false, false, false]
abbrev M13_9 : Array Bool := #[true, true, true, true, true, true, true, true, true, false, false, false, false, false, false, false, false, false]
abbrev M13_10 : Array Bool := #[true, true, true, true, true, true, true, true, true, true, false, false, false, false, false, false, false, false]
abbrev M13_11 : Array Bool := #[true, true, true, true, true, true, true, true, true, true, true, false, false, false, false, false, false, false]
abbrev M13_12 : Array Bool := #[true, true, true, true, true, true, true, true, true, true, true, true, false, false, false, false, false, false]
abbrev M13_13 : Array Bool := #[true, true, true, true, true, true, true, true, true, true, true, true, false, true, false, false, false, false]
abbrev M13_14 : Array Bool := #[true, true, true, true, true, true, true, true, true, true, true, true, true, true, false, false, false, false]
abbrev M13_15 : Array Bool := #[true, true, true, true, true, true, true, true, true, true, true, true, true, true, true, false, false, false]
abbrev M13_16 : Array Bool := #[true, true, true, true, true, true, true, true, true, true, true, true, true, true, true, true, false, false]
abbrev M13_17 : Array Bool := #[true, true, true, true, true, true, true, true, true, true, true, true, true, true, true, true, true, false]
abbrev M13_18 : Array Bool := #[true, true, true, true, true, true, true, true, true, true, true, true, true, true, true, true, true, true]
abbrev M13_19 : Array Bool := #[true, true, true, true, true, true, true, true, true, true, true, true, true, false, false, false, false, false]
/-! ### impl_ArePlates: function 33 -/
def impl_ArePlates.l0 : Nat → List (S25) → List (S25) → Int → Int → Option (Bool)
 | 0, _, _, _, _ => none
 | k + 1, x0, x5, x6, x7 => if x7 < x6 then (if 0 ≤ x7 then (if x7 < (x5.length : Int) then ((impl_IsPlate.f ((rd_T25 x5 x7).f0) ((rd_T25 x5 x7).f1)).bind fun t413 => (if t413 = true then (if x7 > 0 then (if 0 ≤ (wrap64 (x7 - 1)) then (if (wrap64 (x7 - 1)) < (x0.length : Int) then ((impl_rankOf.f ((rd_T25 x0 (wrap64 (x7 - 1))).f0) ((rd_T25 x0 (wrap64 (x7 - 1))).f1)).bind fun t415 => ((impl_rankOf.f ((rd_T25 x5 x7).f0) ((rd_T25 x5 x7).f1)).bind fun t416 => (if t415 ≥ t416 then (some false) else (impl_ArePlates.l0 k x0 x5 x6 (wrap64 (x7 + 1)))))) else (none)) else (none)) else (impl_ArePlates.l0 k x0 x5 x6 (wrap64 (x7 + 1)))) else (some false))) else (none)) else (none)) else ((impl_within.f (x0.length : Int) 1 60).bind fun t410 => (some t410))
def impl_ArePlates.f (k : Nat) (l0 : List (S25)) : Option (Bool) := impl_ArePlates.l0 k l0 l0 (l0.length : Int) 0
def impl_ArePlates.T4 : Bool × List (List Nat × List Nat) := (true, [([], []), ([0], [0]), ([1], [1]), ([2, 1], [2]), ([3], [3]), ([4, 3], [3, 4]), ([5, 3, 3], [3, 5]), ([6], [6]), ([6], [6]), ([8, 6], [6, 8]), ([7, 9, 6], [6, 7, 9]), ([10, 6], [6, 10]), ([11, 6, 6], [6, 11]), ([6], [6]), ([13, 12, 6], [6, 13]), ([12, 14, 6], [6, 12, 14]), ([6, 15, 3], [3, 6, 15]), ([3, 16], [3, 16])])
def impl_ArePlates.B4 : List Nat := [0, 1, 3, 7, 15, 31, 63, 127, 127, 383, 1023, 2047, 4095, 127, 16383, 32767, 65535, 131071]
theorem impl_ArePlates.tab4 : rtab .any (opsOf Tryz.f33 4) = impl_ArePlates.T4 := by kernel_rfl
theorem impl_ArePlates.bits4 : waitsOk impl_ArePlates.T4.2 impl_ArePlates.B4 = true := by kernel_rfl
set_option maxHeartbeats 8000000 in
set_option maxRecDepth 100000 in
theorem impl_ArePlates.calls (k : Nat) (A0 : Option Addr) (c0 : Nat) (l0 : List (S25)) (r : Bool) (w : World) (hr0 : Kd.C k25 w A0 l0.length l0) (hc0 : l0.length ≤ c0) (h : impl_ArePlates.f k l0 = some r) :
  Calls Tryz.prog 33 #[.slice A0 l0.length c0] w fun e w' => e = .returned (.bool r) ∧ Below w.heap.size w w' := by
 have hu25 := Tryz.underlying25
 have HR0 := Aside0.mk hr0
 have HC0 := Aside0.mk hc0
 clear hr0 hc0
 have HB := Aside0.mk (Below.refl w.heap.size w)
 have H : (impl_ArePlates.l0 k l0 l0 (l0.length : Int) 0) = some r := h
 clear h
 have H' := Aside0.mk H
 clear H
 go_enter Tryz.func33, Tryz.ntmps33
 go_wp2
 go_loopg [7] k (fun kq v7 w' => ∃ (x7_1 : Int), v7 = .int .i64 x7_1 ∧ Aside0 (impl_ArePlates.l0 kq l0 l0 (l0.length : Int) x7_1 = some r) ∧ Aside0 (kq ≤ k) ∧ Aside0 (Below w.heap.size w w'))
 case atStart => exact ⟨(0), rfl, H', ⟨Nat.le_refl _⟩, ⟨bO_⟩⟩
 case round =>
  clear H'
  obtain ⟨x7_1, rfl, HA, HK1, HB⟩ := hrel
  cases gk with
  | zero => exact absurd HA.out (by simp [impl_ArePlates.l0])
  | succ k1 =>
   have H := HA.out
   clear HA
   simp only [impl_ArePlates.l0] at H
   by_cases c2 : x7_1 < (l0.length : Int)
   ·rw [if_pos c2] at H
    replace c2 := decide_eq_true c2
    by_cases c3 : 0 ≤ x7_1
    ·rw [if_pos c3] at H
     replace c3 := decide_eq_true c3
     by_cases c4 : x7_1 < (l0.length : Int)
     ·rw [if_pos c4] at H
      replace c4 := decide_eq_true c4
      obtain ⟨t413, A5, H⟩ := obA H
      by_cases c6 : t413 = true
      ·subst c6
       rw [if_pos rfl] at H
       by_cases c7 : x7_1 > 0
       ·rw [if_pos c7] at H
        replace c7 := decide_eq_true c7
        obtain ⟨ji8, hji8⟩ : ∃ j_ : Int, (wrap64 (x7_1 - 1)) = j_ := ⟨_, rfl⟩
        replace H : (if 0 ≤ (ji8) then (if (ji8) < (l0.length : Int) then ((impl_rankOf.f ((rd_T25 l0 (ji8)).f0) ((rd_T25 l0 (ji8)).f1)).bind fun t415 => ((impl_rankOf.f ((rd_T25 l0 x7_1).f0) ((rd_T25 l0 x7_1).f1)).bind fun t416 => (if t415 ≥ t416 then (some false) else (impl_ArePlates.l0 k1 l0 l0 (l0.length : Int) (wrap64 (x7_1 + 1)))))) else (none)) else (none)) = some r := by first | (rw [hji8] at H; exact H) | (simp only [hji8] at H ⊢; exact H)
        (try rw [hji8] at A5)
        have hji8w : (IntKind.i64.wrap (x7_1 - 1)) = ji8 := (i64_w _).trans hji8
        by_cases c9 : 0 ≤ (ji8)
        ·rw [if_pos c9] at H
         replace c9 := decide_eq_true c9
         by_cases c10 : (ji8) < (l0.length : Int)
         ·rw [if_pos c10] at H
          replace c10 := decide_eq_true c10
          obtain ⟨t415, A11, H⟩ := obA H
          obtain ⟨t416, A12, H⟩ := obA H
          by_cases c13 : t415 ≥ t416
          ·rw [if_pos c13] at H
           replace c13 := decide_eq_true c13
           obtain rfl := Option.some.inj H
           have p411 : 0 ≤ (x7_1 : Int) := od_
           have q411 : x7_1 < (l0.length : Int) := od_
           obtain ⟨ad411, e411, hx411_0, hx411_1⟩ := at_T25 HR0.out x7_1 p411 q411
           cases e411
           replace hx411_0 := (HB.out.cell (World.block_lt_of_cell? w _ hx411_0)).trans hx411_0
           replace hx411_1 := (HB.out.cell (World.block_lt_of_cell? w _ hx411_1)).trans hx411_1
           replace p411 := eq_true p411
           replace q411 := eq_true q411
           try go_wp2_with (first | (refine bx_ 4 #[.int .i64 0, .int .i64 0] 25 ?_; intro gb412 hg w14 BK412 hb; have GW412 := gW_ (w := w) hg; replace HB := bT_ hb; clear hb hg; have hcz15_0 : w14.cell? ⟨gb412, 0, none⟩ = some (.int .i64 0) := (blk_cell BK412.out 0).trans rfl; have hcz15_1 : w14.cell? ⟨gb412, 1, none⟩ = some (.int .i64 0) := (blk_cell BK412.out 1).trans rfl; have hfz15_0 := blk_frozen BK412.out 0; have hfz15_1 := blk_frozen BK412.out 1))
           have n0_ : Aside0 (((w14.setCell ⟨gb412, 0, none⟩ (.int .i64 ((rd_T25 l0 x7_1).f0))).setCell ⟨gb412, 1, none⟩ (.int .i64 ((rd_T25 l0 x7_1).f1))).heap[gb412]? = some (.cells #[.int .i64 ((rd_T25 l0 x7_1).f0), .int .i64 ((rd_T25 l0 x7_1).f1)] 25 (0, 0))) := ⟨by refine blk_put (cs := #[.int .i64 ((rd_T25 l0 x7_1).f0), .int .i64 0]) ?_ 1 _ rfl; refine blk_put (cs := #[.int .i64 0, .int .i64 0]) ?_ 0 _ rfl; exact BK412.out⟩
           have n1_ : Aside0 (Below w.heap.size w ((w14.setCell ⟨gb412, 0, none⟩ (.int .i64 ((rd_T25 l0 x7_1).f0))).setCell ⟨gb412, 1, none⟩ (.int .i64 ((rd_T25 l0 x7_1).f1)))) := ⟨bO_⟩
           (try clear BK412)
           (try clear HB)
           (try simp only [setCell_drewN_impl_ArePlates, drewN_drewN_impl_ArePlates])
           generalize ((w14.setCell ⟨gb412, 0, none⟩ (.int .i64 ((rd_T25 l0 x7_1).f0))).setCell ⟨gb412, 1, none⟩ (.int .i64 ((rd_T25 l0 x7_1).f1))) = w16 at n0_ n1_ ⊢
           have BK412 := n0_
           have HB := n1_
           clear n0_ n1_
           replace BK412 := Aside0.mk (blk_drew BK412.out)
           replace HB := Aside0.mk (below_drew1 HB.out)
           have p414 : 0 ≤ ((ji8) : Int) := od_
           have q414 : (ji8) < (l0.length : Int) := od_
           obtain ⟨ad414, e414, hx414_0, hx414_1⟩ := at_T25 HR0.out (ji8) p414 q414
           have hw414_1 := hx414_1
           have hw414_0 := hx414_0
           obtain rfl : ad411 = ad414 := (by injection e414)
           replace hx414_0 := (HB.out.cell (World.block_lt_of_cell? w _ hx414_0)).trans hx414_0
           replace hx414_1 := (HB.out.cell (World.block_lt_of_cell? w _ hx414_1)).trans hx414_1
           replace p414 := eq_true p414
           replace q414 := eq_true q414
           refine start_ (n := 18) (S := fun w' => w'.cell? ⟨gb412, 0, none⟩ = some (.int .i64 ((rd_T25 l0 x7_1).f0)) ∧ w'.cell? ⟨gb412, 1, none⟩ = some (.int .i64 ((rd_T25 l0 x7_1).f1)) ∧ w'.cell? (ad411.add (((ji8)).toNat * 2)) = some (.int .i64 ((rd_T25 l0 (ji8)).f0)) ∧ w'.cell? ⟨(ad411.add (((ji8)).toNat * 2)).block, (ad411.add (((ji8)).toNat * 2)).off + 1, none⟩ = some (.int .i64 ((rd_T25 l0 (ji8)).f1))) (ds := []) M13_0 (by kernel_rfl) rfl rfl ⟨(blk_cell BK412.out 0).trans rfl, (blk_cell BK412.out 1).trans rfl, ((HB.out.cell (World.block_lt_of_cell? w _ hw414_0)).trans hw414_0), ((HB.out.cell (World.block_lt_of_cell? w _ hw414_1)).trans hw414_1)⟩ (fun hHeld => ?_); refine with_tabW impl_ArePlates.tab4 impl_ArePlates.bits4 (fun HT_ HW_ => ?_)
           generalize w16.drew = w17 at BK412 HB hx414_0 hx414_1 hHeld ⊢
           refine ta_ 0 12 M13_1 ?_
           refine on_ 1 (some 13) M13_2 fun K hK => ?_
           refine gS_ Tryz.func16 #[.agg #[.int .i64 ((rd_T25 l0 x7_1).f0), .int .i64 ((rd_T25 l0 x7_1).f1)]] ?_
           with_reducible refine (impl_IsPlate.calls ((rd_T25 l0 x7_1).f0) ((rd_T25 l0 x7_1).f1) true _ A5.out).mono ?_
           rintro e w18 ⟨rfl, hb⟩
           refine ⟨_, rfl, ?_⟩
           replace BK412 := bB_ (g := gb412) hb
           replace HB := bT_ hb
           refine hS_ hK fun hHeld => ?_
           clear hK K
           refine nm_ ?_
           refine pu_ 2 14 M13_3 ?_
           refine pu_ 3 15 M13_4 ?_
           refine pu_ 4 16 M13_5 ?_
           refine pu_ 5 17 M13_6 ?_
           refine pu_ 6 18 M13_7 ?_
           refine pu_ 7 19 M13_8 ?_
           refine pu_ 8 20 M13_9 ?_
           refine pu_ 9 21 M13_10 ?_
           refine pu_ 10 22 M13_11 ?_
           refine ta_ 11 23 M13_12 ?_
           refine ta_ 13 25 M13_13 ?_
           refine on_ 12 (some 24) M13_14 fun K hK => ?_
           refine goes_ Tryz.func38 (by kernel_rfl) rfl #[.agg #[.int .i64 ((rd_T25 l0 (ji8)).f0), .int .i64 ((rd_T25 l0 (ji8)).f1)]] (by rfl) rfl rfl (by (try simp only [List.map_toArray, List.map_cons, List.map_nil]); first | done | (simp only [hji8]; rfl) | rfl | (simp only [List.length_drop, List.length_take]; rfl)) ?_
           with_reducible refine (impl_rankOf.calls ((rd_T25 l0 (ji8)).f0) ((rd_T25 l0 (ji8)).f1) t415 _ A11.out).mono ?_
           rintro e w19 ⟨rfl, hb⟩
           refine ⟨_, rfl, ?_⟩
           replace BK412 := bB_ (g := gb412) hb
           replace HB := bT_ hb
           refine hS_ hK fun hHeld => ?_
           clear hK K
           refine nm_ ?_
           refine on_ 14 (some 26) M13_15 fun K hK => ?_
           refine gS_ Tryz.func38 #[.agg #[.int .i64 ((rd_T25 l0 x7_1).f0), .int .i64 ((rd_T25 l0 x7_1).f1)]] ?_
           with_reducible refine (impl_rankOf.calls ((rd_T25 l0 x7_1).f0) ((rd_T25 l0 x7_1).f1) t416 _ A12.out).mono ?_
           rintro e w20 ⟨rfl, hb⟩
           refine ⟨_, rfl, ?_⟩
           replace BK412 := bB_ (g := gb412) hb
           replace HB := bT_ hb
           refine hS_ hK fun hHeld => ?_
           clear hK K
           refine nm_ ?_
           refine pu_ 15 27 M13_16 ?_
           refine pu_ 16 28 M13_17 ?_
           refine pu_ 17 29 M13_18 ?_
           refine done_ (done_of HT_.out (by kernel_rfl)) ?_
           try go_wp2
           go_ret
           exact ⟨by first | rfl | (simp [errW_none, errW_some] <;> rfl) | (simp only [← hji8]; first | rfl | (simp [errW_none, errW_some] <;> rfl)) | (simp [*, errW_none, errW_some] <;> rfl), bO_⟩
          ·rw [if_neg c13] at H
           replace c13 := decide_eq_false c13
           have H' := Aside0.mk H
           clear H
           have p411 : 0 ≤ (x7_1 : Int) := od_
           have q411 : x7_1 < (l0.length : Int) := od_
           obtain ⟨ad411, e411, hx411_0, hx411_1⟩ := at_T25 HR0.out x7_1 p411 q411
           cases e411
           replace hx411_0 := (HB.out.cell (World.block_lt_of_cell? w _ hx411_0)).trans hx411_0
           replace hx411_1 := (HB.out.cell (World.block_lt_of_cell? w _ hx411_1)).trans hx411_1
           replace p411 := eq_true p411
           replace q411 := eq_true q411
           try go_wp2_with (first | (refine bx_ 4 #[.int .i64 0, .int .i64 0] 25 ?_; intro gb412 hg w21 BK412 hb; have GW412 := gW_ (w := w) hg; replace HB := bT_ hb; clear hb hg; have hcz22_0 : w21.cell? ⟨gb412, 0, none⟩ = some (.int .i64 0) := (blk_cell BK412.out 0).trans rfl; have hcz22_1 : w21.cell? ⟨gb412, 1, none⟩ = some (.int .i64 0) := (blk_cell BK412.out 1).trans rfl; have hfz22_0 := blk_frozen BK412.out 0; have hfz22_1 := blk_frozen BK412.out 1))
           have n0_ : Aside0 (((w21.setCell ⟨gb412, 0, none⟩ (.int .i64 ((rd_T25 l0 x7_1).f0))).setCell ⟨gb412, 1, none⟩ (.int .i64 ((rd_T25 l0 x7_1).f1))).heap[gb412]? = some (.cells #[.int .i64 ((rd_T25 l0 x7_1).f0), .int .i64 ((rd_T25 l0 x7_1).f1)] 25 (0, 0))) := ⟨by refine blk_put (cs := #[.int .i64 ((rd_T25 l0 x7_1).f0), .int .i64 0]) ?_ 1 _ rfl; refine blk_put (cs := #[.int .i64 0, .int .i64 0]) ?_ 0 _ rfl; exact BK412.out⟩
           have n1_ : Aside0 (Below w.heap.size w ((w21.setCell ⟨gb412, 0, none⟩ (.int .i64 ((rd_T25 l0 x7_1).f0))).setCell ⟨gb412, 1, none⟩ (.int .i64 ((rd_T25 l0 x7_1).f1)))) := ⟨bO_⟩
           (try clear BK412)
           (try clear HB)
           (try simp only [setCell_drewN_impl_ArePlates, drewN_drewN_impl_ArePlates])
           generalize ((w21.setCell ⟨gb412, 0, none⟩ (.int .i64 ((rd_T25 l0 x7_1).f0))).setCell ⟨gb412, 1, none⟩ (.int .i64 ((rd_T25 l0 x7_1).f1))) = w23 at n0_ n1_ ⊢
           have BK412 := n0_
           have HB := n1_
           clear n0_ n1_
           replace BK412 := Aside0.mk (blk_drew BK412.out)
           replace HB := Aside0.mk (below_drew1 HB.out)
           have p414 : 0 ≤ ((ji8) : Int) := od_
           have q414 : (ji8) < (l0.length : Int) := od_
           obtain ⟨ad414, e414, hx414_0, hx414_1⟩ := at_T25 HR0.out (ji8) p414 q414
           have hw414_1 := hx414_1
           have hw414_0 := hx414_0
           obtain rfl : ad411 = ad414 := (by injection e414)
           replace hx414_0 := (HB.out.cell (World.block_lt_of_cell? w _ hx414_0)).trans hx414_0
           replace hx414_1 := (HB.out.cell (World.block_lt_of_cell? w _ hx414_1)).trans hx414_1
           replace p414 := eq_true p414
           replace q414 := eq_true q414
           refine start_ (n := 18) (S := fun w' => w'.cell? ⟨gb412, 0, none⟩ = some (.int .i64 ((rd_T25 l0 x7_1).f0)) ∧ w'.cell? ⟨gb412, 1, none⟩ = some (.int .i64 ((rd_T25 l0 x7_1).f1)) ∧ w'.cell? (ad411.add (((ji8)).toNat * 2)) = some (.int .i64 ((rd_T25 l0 (ji8)).f0)) ∧ w'.cell? ⟨(ad411.add (((ji8)).toNat * 2)).block, (ad411.add (((ji8)).toNat * 2)).off + 1, none⟩ = some (.int .i64 ((rd_T25 l0 (ji8)).f1))) (ds := []) M13_0 (by kernel_rfl) rfl rfl ⟨(blk_cell BK412.out 0).trans rfl, (blk_cell BK412.out 1).trans rfl, ((HB.out.cell (World.block_lt_of_cell? w _ hw414_0)).trans hw414_0), ((HB.out.cell (World.block_lt_of_cell? w _ hw414_1)).trans hw414_1)⟩ (fun hHeld => ?_); refine with_tabW impl_ArePlates.tab4 impl_ArePlates.bits4 (fun HT_ HW_ => ?_)
           generalize w23.drew = w24 at BK412 HB hx414_0 hx414_1 hHeld ⊢
           refine ta_ 0 12 M13_1 ?_
           refine on_ 1 (some 13) M13_2 fun K hK => ?_
           refine gS_ Tryz.func16 #[.agg #[.int .i64 ((rd_T25 l0 x7_1).f0), .int .i64 ((rd_T25 l0 x7_1).f1)]] ?_
           with_reducible refine (impl_IsPlate.calls ((rd_T25 l0 x7_1).f0) ((rd_T25 l0 x7_1).f1) true _ A5.out).mono ?_
           rintro e w25 ⟨rfl, hb⟩
           refine ⟨_, rfl, ?_⟩
           replace BK412 := bB_ (g := gb412) hb
           replace HB := bT_ hb
           refine hS_ hK fun hHeld => ?_
           clear hK K
           refine nm_ ?_
           refine pu_ 2 14 M13_3 ?_
           refine pu_ 3 15 M13_4 ?_
           refine pu_ 4 16 M13_5 ?_
           refine pu_ 5 17 M13_6 ?_
           refine pu_ 6 18 M13_7 ?_
           refine pu_ 7 19 M13_8 ?_
           refine pu_ 8 20 M13_9 ?_
           refine pu_ 9 21 M13_10 ?_
           refine pu_ 10 22 M13_11 ?_
           refine ta_ 11 23 M13_12 ?_
           refine ta_ 13 25 M13_13 ?_
           refine on_ 12 (some 24) M13_14 fun K hK => ?_
           refine goes_ Tryz.func38 (by kernel_rfl) rfl #[.agg #[.int .i64 ((rd_T25 l0 (ji8)).f0), .int .i64 ((rd_T25 l0 (ji8)).f1)]] (by rfl) rfl rfl (by (try simp only [List.map_toArray, List.map_cons, List.map_nil]); first | done | (simp only [hji8]; rfl) | rfl | (simp only [List.length_drop, List.length_take]; rfl)) ?_
           with_reducible refine (impl_rankOf.calls ((rd_T25 l0 (ji8)).f0) ((rd_T25 l0 (ji8)).f1) t415 _ A11.out).mono ?_
           rintro e w26 ⟨rfl, hb⟩
           refine ⟨_, rfl, ?_⟩
           replace BK412 := bB_ (g := gb412) hb
           replace HB := bT_ hb
           refine hS_ hK fun hHeld => ?_
           clear hK K
           refine nm_ ?_
           refine on_ 14 (some 26) M13_15 fun K hK => ?_
           refine gS_ Tryz.func38 #[.agg #[.int .i64 ((rd_T25 l0 x7_1).f0), .int .i64 ((rd_T25 l0 x7_1).f1)]] ?_
           with_reducible refine (impl_rankOf.calls ((rd_T25 l0 x7_1).f0) ((rd_T25 l0 x7_1).f1) t416 _ A12.out).mono ?_
           rintro e w27 ⟨rfl, hb⟩
           refine ⟨_, rfl, ?_⟩
           replace BK412 := bB_ (g := gb412) hb
           replace HB := bT_ hb
           refine hS_ hK fun hHeld => ?_
           clear hK K
           refine nm_ ?_
           refine pu_ 15 27 M13_16 ?_
           refine pu_ 16 28 M13_17 ?_
           refine pu_ 17 29 M13_18 ?_
           refine done_ (done_of HT_.out (by kernel_rfl)) ?_
           try go_wp2
           go_roundg k1
           case measure => have := HK1.out; omega
           case rel => exact ⟨(wrap64 (x7_1 + 1)), rfl, H', ⟨by have := HK1.out; omega⟩, ⟨bO_⟩⟩
         ·rw [if_neg c10] at H
          exact absurd H (by simp)
        ·rw [if_neg c9] at H
         exact absurd H (by simp)
       ·rw [if_neg c7] at H
        replace c7 := decide_eq_false c7
        have H' := Aside0.mk H
        clear H
        have p411 : 0 ≤ (x7_1 : Int) := od_
        have q411 : x7_1 < (l0.length : Int) := od_
        obtain ⟨ad411, e411, hx411_0, hx411_1⟩ := at_T25 HR0.out x7_1 p411 q411
        cases e411
        replace hx411_0 := (HB.out.cell (World.block_lt_of_cell? w _ hx411_0)).trans hx411_0
        replace hx411_1 := (HB.out.cell (World.block_lt_of_cell? w _ hx411_1)).trans hx411_1
        replace p411 := eq_true p411
        replace q411 := eq_true q411
        try go_wp2_with (first | (refine bx_ 4 #[.int .i64 0, .int .i64 0] 25 ?_; intro gb412 hg w28 BK412 hb; have GW412 := gW_ (w := w) hg; replace HB := bT_ hb; clear hb hg; have hcz29_0 : w28.cell? ⟨gb412, 0, none⟩ = some (.int .i64 0) := (blk_cell BK412.out 0).trans rfl; have hcz29_1 : w28.cell? ⟨gb412, 1, none⟩ = some (.int .i64 0) := (blk_cell BK412.out 1).trans rfl; have hfz29_0 := blk_frozen BK412.out 0; have hfz29_1 := blk_frozen BK412.out 1))
        have n0_ : Aside0 (((w28.setCell ⟨gb412, 0, none⟩ (.int .i64 ((rd_T25 l0 x7_1).f0))).setCell ⟨gb412, 1, none⟩ (.int .i64 ((rd_T25 l0 x7_1).f1))).heap[gb412]? = some (.cells #[.int .i64 ((rd_T25 l0 x7_1).f0), .int .i64 ((rd_T25 l0 x7_1).f1)] 25 (0, 0))) := ⟨by refine blk_put (cs := #[.int .i64 ((rd_T25 l0 x7_1).f0), .int .i64 0]) ?_ 1 _ rfl; refine blk_put (cs := #[.int .i64 0, .int .i64 0]) ?_ 0 _ rfl; exact BK412.out⟩
        have n1_ : Aside0 (Below w.heap.size w ((w28.setCell ⟨gb412, 0, none⟩ (.int .i64 ((rd_T25 l0 x7_1).f0))).setCell ⟨gb412, 1, none⟩ (.int .i64 ((rd_T25 l0 x7_1).f1)))) := ⟨bO_⟩
        (try clear BK412)
        (try clear HB)
        (try simp only [setCell_drewN_impl_ArePlates, drewN_drewN_impl_ArePlates])
        generalize ((w28.setCell ⟨gb412, 0, none⟩ (.int .i64 ((rd_T25 l0 x7_1).f0))).setCell ⟨gb412, 1, none⟩ (.int .i64 ((rd_T25 l0 x7_1).f1))) = w30 at n0_ n1_ ⊢
        have BK412 := n0_
        have HB := n1_
        clear n0_ n1_
        replace BK412 := Aside0.mk (blk_drew BK412.out)
        replace HB := Aside0.mk (below_drew1 HB.out)
        refine start_ (n := 18) (S := fun w' => w'.cell? ⟨gb412, 0, none⟩ = some (.int .i64 ((rd_T25 l0 x7_1).f0)) ∧ w'.cell? ⟨gb412, 1, none⟩ = some (.int .i64 ((rd_T25 l0 x7_1).f1))) (ds := []) M13_0 (by kernel_rfl) rfl rfl ⟨(blk_cell BK412.out 0).trans rfl, (blk_cell BK412.out 1).trans rfl⟩ (fun hHeld => ?_); refine with_tabW impl_ArePlates.tab4 impl_ArePlates.bits4 (fun HT_ HW_ => ?_)
        generalize w30.drew = w31 at BK412 HB hHeld ⊢
        refine ta_ 0 12 M13_1 ?_
        refine on_ 1 (some 13) M13_2 fun K hK => ?_
        refine gS_ Tryz.func16 #[.agg #[.int .i64 ((rd_T25 l0 x7_1).f0), .int .i64 ((rd_T25 l0 x7_1).f1)]] ?_
        with_reducible refine (impl_IsPlate.calls ((rd_T25 l0 x7_1).f0) ((rd_T25 l0 x7_1).f1) true _ A5.out).mono ?_
        rintro e w32 ⟨rfl, hb⟩
        refine ⟨_, rfl, ?_⟩
        replace BK412 := bB_ (g := gb412) hb
        replace HB := bT_ hb
        refine hS_ hK fun hHeld => ?_
        clear hK K
        refine nm_ ?_
        refine pu_ 2 14 M13_3 ?_
        refine pu_ 3 15 M13_4 ?_
        refine pu_ 4 16 M13_5 ?_
        refine pu_ 5 17 M13_6 ?_
        refine pu_ 6 18 M13_7 ?_
        refine pure_ (i := 7) (N := some 19) (v := undef) (a' := ?_) M13_8 rfl rfl (any_of HT_.out (by kernel_rfl)) (fun _ _ _ h => h) (Or.inr ⟨by rfl, rfl⟩) ?_ ?_
        rotate_left
        ·simp only [sp_]
         rfl
        refine pure_ (i := 8) (N := some 20) (v := undef) (a' := ?_) M13_9 rfl rfl (any_of HT_.out (by kernel_rfl)) (fun _ _ _ h => h) (Or.inr ⟨by rfl, rfl⟩) ?_ ?_
        rotate_left
        ·simp only [sp_]
         rfl
        refine pure_ (i := 9) (N := some 21) (v := undef) (a' := ?_) M13_10 rfl rfl (any_of HT_.out (by kernel_rfl)) (fun _ _ _ h => h) (Or.inr ⟨by rfl, rfl⟩) ?_ ?_
        rotate_left
        ·simp only [sp_]
         rfl
        refine pure_ (i := 10) (N := some 22) (v := undef) (a' := ?_) M13_11 rfl rfl (any_of HT_.out (by kernel_rfl)) (fun _ _ _ h => h) (Or.inr ⟨by rfl, rfl⟩) ?_ ?_
        rotate_left
        ·simp only [sp_]
         rfl
        refine pure_ (i := 11) (N := some 23) (v := undef) (a' := ?_) M13_12 rfl rfl (any_of HT_.out (by kernel_rfl)) (fun _ _ _ h => h) (Or.inr ⟨by rfl, rfl⟩) ?_ ?_
        rotate_left
        ·simp only [sp_]
         rfl
        refine pure_ (i := 12) (N := some 24) (v := undef) (a' := ?_) M13_19 rfl rfl (any_of HT_.out (by kernel_rfl)) (fun _ _ _ h => h) (Or.inr ⟨by rfl, rfl⟩) ?_ ?_
        rotate_left
        ·simp only [sp_]
         rfl
        refine pure_ (i := 13) (N := some 25) (v := undef) (a' := ?_) M13_14 rfl rfl (any_of HT_.out (by kernel_rfl)) (fun _ _ _ h => h) (Or.inr ⟨by rfl, rfl⟩) ?_ ?_
        rotate_left
        ·simp only [sp_]
         rfl
        refine pure_ (i := 14) (N := some 26) (v := undef) (a' := ?_) M13_15 rfl rfl (any_of HT_.out (by kernel_rfl)) (fun _ _ _ h => h) (Or.inr ⟨by rfl, rfl⟩) ?_ ?_
        rotate_left
        ·simp only [sp_]
         rfl
        refine pure_ (i := 15) (N := some 27) (v := undef) (a' := ?_) M13_16 rfl rfl (any_of HT_.out (by kernel_rfl)) (fun _ _ _ h => h) (Or.inr ⟨by rfl, rfl⟩) ?_ ?_
        rotate_left
        ·simp only [sp_]
         rfl
        refine pu_ 16 28 M13_17 ?_
        refine pu_ 17 29 M13_18 ?_
        refine done_ (done_of HT_.out (by kernel_rfl)) ?_
        try go_wp2
        go_roundg k1
        case measure => have := HK1.out; omega
        case rel => exact ⟨(wrap64 (x7_1 + 1)), rfl, H', ⟨by have := HK1.out; omega⟩, ⟨bO_⟩⟩
      ·replace c6 := Bool.eq_false_iff.mpr c6
       subst c6
       rw [if_neg (show ¬ (false = true) by decide)] at H
       obtain rfl := Option.some.inj H
       have p411 : 0 ≤ (x7_1 : Int) := od_
       have q411 : x7_1 < (l0.length : Int) := od_
       obtain ⟨ad411, e411, hx411_0, hx411_1⟩ := at_T25 HR0.out x7_1 p411 q411
       cases e411
       replace hx411_0 := (HB.out.cell (World.block_lt_of_cell? w _ hx411_0)).trans hx411_0
       replace hx411_1 := (HB.out.cell (World.block_lt_of_cell? w _ hx411_1)).trans hx411_1
       replace p411 := eq_true p411
       replace q411 := eq_true q411
       try go_wp2_with (first | (refine bx_ 4 #[.int .i64 0, .int .i64 0] 25 ?_; intro gb412 hg w33 BK412 hb; have GW412 := gW_ (w := w) hg; replace HB := bT_ hb; clear hb hg; have hcz34_0 : w33.cell? ⟨gb412, 0, none⟩ = some (.int .i64 0) := (blk_cell BK412.out 0).trans rfl; have hcz34_1 : w33.cell? ⟨gb412, 1, none⟩ = some (.int .i64 0) := (blk_cell BK412.out 1).trans rfl; have hfz34_0 := blk_frozen BK412.out 0; have hfz34_1 := blk_frozen BK412.out 1))
       have n0_ : Aside0 (((w33.setCell ⟨gb412, 0, none⟩ (.int .i64 ((rd_T25 l0 x7_1).f0))).setCell ⟨gb412, 1, none⟩ (.int .i64 ((rd_T25 l0 x7_1).f1))).heap[gb412]? = some (.cells #[.int .i64 ((rd_T25 l0 x7_1).f0), .int .i64 ((rd_T25 l0 x7_1).f1)] 25 (0, 0))) := ⟨by refine blk_put (cs := #[.int .i64 ((rd_T25 l0 x7_1).f0), .int .i64 0]) ?_ 1 _ rfl; refine blk_put (cs := #[.int .i64 0, .int .i64 0]) ?_ 0 _ rfl; exact BK412.out⟩
       have n1_ : Aside0 (Below w.heap.size w ((w33.setCell ⟨gb412, 0, none⟩ (.int .i64 ((rd_T25 l0 x7_1).f0))).setCell ⟨gb412, 1, none⟩ (.int .i64 ((rd_T25 l0 x7_1).f1)))) := ⟨bO_⟩
       (try clear BK412)
       (try clear HB)
       (try simp only [setCell_drewN_impl_ArePlates, drewN_drewN_impl_ArePlates])
       generalize ((w33.setCell ⟨gb412, 0, none⟩ (.int .i64 ((rd_T25 l0 x7_1).f0))).setCell ⟨gb412, 1, none⟩ (.int .i64 ((rd_T25 l0 x7_1).f1))) = w35 at n0_ n1_ ⊢
       have BK412 := n0_
       have HB := n1_
       clear n0_ n1_
       replace BK412 := Aside0.mk (blk_drew BK412.out)
       replace HB := Aside0.mk (below_drew1 HB.out)
       refine start_ (n := 18) (S := fun w' => w'.cell? ⟨gb412, 0, none⟩ = some (.int .i64 ((rd_T25 l0 x7_1).f0)) ∧ w'.cell? ⟨gb412, 1, none⟩ = some (.int .i64 ((rd_T25 l0 x7_1).f1))) (ds := []) M13_0 (by kernel_rfl) rfl rfl ⟨(blk_cell BK412.out 0).trans rfl, (blk_cell BK412.out 1).trans rfl⟩ (fun hHeld => ?_); refine with_tabW impl_ArePlates.tab4 impl_ArePlates.bits4 (fun HT_ HW_ => ?_)
       generalize w35.drew = w36 at BK412 HB hHeld ⊢
       refine ta_ 0 12 M13_1 ?_
       refine on_ 1 (some 13) M13_2 fun K hK => ?_
       refine gS_ Tryz.func16 #[.agg #[.int .i64 ((rd_T25 l0 x7_1).f0), .int .i64 ((rd_T25 l0 x7_1).f1)]] ?_
       with_reducible refine (impl_IsPlate.calls ((rd_T25 l0 x7_1).f0) ((rd_T25 l0 x7_1).f1) false _ A5.out).mono ?_
       rintro e w37 ⟨rfl, hb⟩
       refine ⟨_, rfl, ?_⟩
       replace BK412 := bB_ (g := gb412) hb
       replace HB := bT_ hb
       refine hS_ hK fun hHeld => ?_
       clear hK K
       refine nm_ ?_
       refine pu_ 2 14 M13_3 ?_
       refine pu_ 3 15 M13_4 ?_
       refine pure_ (i := 4) (N := some 16) (v := undef) (a' := ?_) M13_5 rfl rfl (any_of HT_.out (by kernel_rfl)) (fun _ _ _ h => h) (Or.inr ⟨by rfl, rfl⟩) ?_ ?_
       rotate_left
       ·simp only [sp_]
        rfl
       refine pure_ (i := 5) (N := some 17) (v := undef) (a' := ?_) M13_6 rfl rfl (any_of HT_.out (by kernel_rfl)) (fun _ _ _ h => h) (Or.inr ⟨by rfl, rfl⟩) ?_ ?_
       rotate_left
       ·simp only [sp_]
        rfl
       refine pure_ (i := 6) (N := some 18) (v := undef) (a' := ?_) M13_7 rfl rfl (any_of HT_.out (by kernel_rfl)) (fun _ _ _ h => h) (Or.inr ⟨by rfl, rfl⟩) ?_ ?_
       rotate_left
       ·simp only [sp_]
        rfl
       refine pure_ (i := 7) (N := some 19) (v := undef) (a' := ?_) M13_8 rfl rfl (any_of HT_.out (by kernel_rfl)) (fun _ _ _ h => h) (Or.inr ⟨by rfl, rfl⟩) ?_ ?_
       rotate_left
       ·simp only [sp_]
        rfl
       refine pure_ (i := 8) (N := some 20) (v := undef) (a' := ?_) M13_9 rfl rfl (any_of HT_.out (by kernel_rfl)) (fun _ _ _ h => h) (Or.inr ⟨by rfl, rfl⟩) ?_ ?_
       rotate_left
       ·simp only [sp_]
        rfl
       refine pure_ (i := 9) (N := some 21) (v := undef) (a' := ?_) M13_10 rfl rfl (any_of HT_.out (by kernel_rfl)) (fun _ _ _ h => h) (Or.inr ⟨by rfl, rfl⟩) ?_ ?_
       rotate_left
       ·simp only [sp_]
        rfl
       refine pure_ (i := 10) (N := some 22) (v := undef) (a' := ?_) M13_11 rfl rfl (any_of HT_.out (by kernel_rfl)) (fun _ _ _ h => h) (Or.inr ⟨by rfl, rfl⟩) ?_ ?_
       rotate_left
       ·simp only [sp_]
        rfl
       refine pure_ (i := 11) (N := some 23) (v := undef) (a' := ?_) M13_12 rfl rfl (any_of HT_.out (by kernel_rfl)) (fun _ _ _ h => h) (Or.inr ⟨by rfl, rfl⟩) ?_ ?_
       rotate_left
       ·simp only [sp_]
        rfl
       refine pure_ (i := 12) (N := some 24) (v := undef) (a' := ?_) M13_19 rfl rfl (any_of HT_.out (by kernel_rfl)) (fun _ _ _ h => h) (Or.inr ⟨by rfl, rfl⟩) ?_ ?_
       rotate_left
       ·simp only [sp_]
        rfl
       refine pure_ (i := 13) (N := some 25) (v := undef) (a' := ?_) M13_14 rfl rfl (any_of HT_.out (by kernel_rfl)) (fun _ _ _ h => h) (Or.inr ⟨by rfl, rfl⟩) ?_ ?_
       rotate_left
       ·simp only [sp_]
        rfl
       refine pure_ (i := 14) (N := some 26) (v := undef) (a' := ?_) M13_15 rfl rfl (any_of HT_.out (by kernel_rfl)) (fun _ _ _ h => h) (Or.inr ⟨by rfl, rfl⟩) ?_ ?_
       rotate_left
       ·simp only [sp_]
        rfl
       refine pure_ (i := 15) (N := some 27) (v := undef) (a' := ?_) M13_16 rfl rfl (any_of HT_.out (by kernel_rfl)) (fun _ _ _ h => h) (Or.inr ⟨by rfl, rfl⟩) ?_ ?_
       rotate_left
       ·simp only [sp_]
        rfl
       refine pure_ (i := 16) (N := some 28) (v := undef) (a' := ?_) M13_17 rfl rfl (any_of HT_.out (by kernel_rfl)) (fun _ _ _ h => h) (Or.inr ⟨by rfl, rfl⟩) ?_ ?_
       rotate_left
       ·simp only [sp_]
        rfl
       refine pu_ 17 29 M13_18 ?_
       refine done_ (done_of HT_.out (by kernel_rfl)) ?_
       try go_wp2
       go_ret
       exact ⟨rfl, bO_⟩
     ·rw [if_neg c4] at H
      exact absurd H (by simp)
    ·rw [if_neg c3] at H
     exact absurd H (by simp)
   ·rw [if_neg c2] at H
    replace c2 := decide_eq_false c2
    obtain ⟨t410, A38, H⟩ := obA H
    obtain rfl := Option.some.inj H
    go_wp2_with (first | (refine gL_ Tryz.func47 (some 33) #[.int .i64 (l0.length : Int), .int .i64 1, .int .i64 60] ?_; (with_reducible refine (impl_within.calls (l0.length : Int) 1 60 t410 _ A38.out).mono ?_); rintro e w' ⟨rfl, ⟨nd, rfl⟩⟩; refine ⟨_, rfl, ?_⟩))
    go_ret
    exact ⟨rfl, bO_⟩

end Go.Proofs.YtbnhfipcjbnknaaGreatDoor.PFnPlatesOrder
