/- Functions that the law FnPlatesOrder reaches, each as a Lean function, and that the Go code comes to just these answers (written by programs). -/
import Derived.Test.YtbnhfipcjbnknaaGreatDoorPFnPlatesOrderx0
import Derived.Test.YtbnhfipcjbnknaaGreatDoorPFnPlatesOrderx3
import Derived.Test.YtbnhfipcjbnknaaGreatDoorPFnPlatesOrderx8
import Derived.Test.YtbnhfipcjbnknaaGreatDoorPFnPlatesOrderx19
namespace Go.Proofs.YtbnhfipcjbnknaaGreatDoor.PFnPlatesOrder
open Go.RowKit Go.Proofs.YtbnhfipcjbnknaaGreatDoorW.PrintWords Go.Proofs.YtbnhfipcjbnknaaGreatDoorW.PrintLast Go.Proofs.YtbnhfipcjbnknaaGreatDoorW.PrintMore
attribute [local go_sem] max2_int min2_int max_two min_two max_three min_three max_four min_four   -- for this text's walks alone
set_option linter.unusedVariables false
set_option linter.unusedSimpArgs false

theorem setCell_drewN_spec_isParse (w : World) (a : Addr) (v : Value) (n : Nat) : (w.drewN n).setCell a v = (w.setCell a v).drewN n := rfl
theorem drewN_drewN_spec_isParse (w : World) (m n : Nat) : (w.drewN m).drewN n = w.drewN (m + n) := by simp [World.drewN, Nat.add_assoc]
abbrev M20_0 : Array Bool := #[false, false, false, false, false, false, false, false, false, false, false]
abbrev M20_1 : Array Bool := #[true, false, false, false, false, false, false, false, false, false, false]
abbrev M20_2 : Array Bool := #[true, true, false, false, false, false, false, false, false, false, false]
abbrev M20_3 : Array Bool := #[true, true, true, false, false, false, false, false, false, false, false]
abbrev M20_4 : Array Bool := #[true, true, true, true, false, false, false, false, false, false, false]
abbrev M20_5 : Array Bool := #[true, true, true, true, false, false, true, false, false, false, false]
abbrev M20_6 : Array Bool := #[true, true, true, true, true, false, true, false, false, false, false]
abbrev M20_7 : Array Bool := #[true, true, true, true, true, true, true, false, false, false, false]
abbrev M20_8 : Array Bool := #[true, true, true, true, true, true, true, true, false, false, false]
abbrev M20_9 : Array Bool := #[true, true, true, true, true, true, true, true, true, false, false]
abbrev M20_10 : Array Bool := #[true, true, true, true, true, true, true, true, true, true, false]
abbrev M20_11 : Array Bool := #[true, true, true, true, true, true, true, true, true, true, true]
abbrev M20_12 : Array Bool := #[true, true, true, true, true, false, false, false, false, false, false]
abbrev M20_13 : Array Bool := #[true, true, true, true, true, true, false, false, false, false, false]
/-! ### spec_isParse: function 58 -/
def spec_isParse.f (k : Nat) (a0 : ByteArray) : Option (Int × Int × Bool) := (spec_l1In.f (a0.size : Int) 1 5).bind fun t517 => (if t517 = true then ((spec_l1Read.f k a0).bind fun t518 => (if 0 ≤ (wrap64 ((a0.size : Int) - 1)) then (if (wrap64 ((a0.size : Int) - 1)) < (a0.size : Int) then ((spec_l1In.f (wrap64 ((wrap64 ((wrap64 (bt a0 (wrap64 ((a0.size : Int) - 1)))) - 97)) + 1)) 1 26).bind fun t520 => (if t520 = true then (if (wrap64 ((a0.size : Int) - 1)) ≤ (a0.size : Int) then ((spec_l1Read.f k (a0.extract 0 ((wrap64 ((a0.size : Int) - 1)) : Int).toNat)).bind fun t521 => ((spec_isPlate.f t521 (wrap64 ((wrap64 ((wrap64 (bt a0 (wrap64 ((a0.size : Int) - 1)))) - 97)) + 1))).bind fun t522 => (if t522 = true then ((spec_isText.f k t521 (wrap64 ((wrap64 ((wrap64 (bt a0 (wrap64 ((a0.size : Int) - 1)))) - 97)) + 1))).bind fun t523 => (some (t521, wrap64 ((wrap64 ((wrap64 (bt a0 (wrap64 ((a0.size : Int) - 1)))) - 97)) + 1), (t523.toList == a0.toList)))) else (some (t521, wrap64 ((wrap64 ((wrap64 (bt a0 (wrap64 ((a0.size : Int) - 1)))) - 97)) + 1), false))))) else (none)) else ((spec_isPlate.f t518 0).bind fun t524 => (if t524 = true then ((spec_isText.f k t518 0).bind fun t525 => (some (t518, 0, (t525.toList == a0.toList)))) else (some (t518, 0, false)))))) else (none)) else (none))) else (some (0, 0, false)))
def spec_isParse.T7 : Bool × List (List Nat × List Nat) := (true, [([], []), ([], []), ([1], [1]), ([2, 2], [2]), ([3], [3]), ([4, 3, 3], [3, 4]), ([3], [3]), ([5, 6, 3], [3, 5, 6]), ([3, 7], [3, 7]), ([0, 5, 0], [0]), ([8, 9, 0, 1, 2, 3, 4, 5, 6, 7, 8, 9], [8])])
def spec_isParse.B7 : List Nat := [0, 0, 2, 6, 14, 30, 14, 126, 254, 63, 1023]
theorem spec_isParse.tab7 : rtab .any (opsOf Tryz.f58 7) = spec_isParse.T7 := by kernel_rfl
theorem spec_isParse.bits7 : waitsOk spec_isParse.T7.2 spec_isParse.B7 = true := by kernel_rfl
set_option maxHeartbeats 8000000 in
set_option maxRecDepth 100000 in
theorem spec_isParse.calls (k : Nat) (a0 : ByteArray) (r1 : Int) (r2 : Int) (r3 : Bool) (w : World) (h : spec_isParse.f k a0 = some (r1, r2, r3)) :
  Calls Tryz.prog 58 #[.string a0] w fun e w' => e = .returned (.tuple #[.agg #[.int .i64 r1, .int .i64 r2], .bool r3]) ∧ Below w.heap.size w w' := by
 have hu25 := Tryz.underlying25
 have HB := Aside0.mk (Below.refl w.heap.size w)
 have H : ((spec_l1In.f (a0.size : Int) 1 5).bind fun t517 => (if t517 = true then ((spec_l1Read.f k a0).bind fun t518 => (if 0 ≤ (wrap64 ((a0.size : Int) - 1)) then (if (wrap64 ((a0.size : Int) - 1)) < (a0.size : Int) then ((spec_l1In.f (wrap64 ((wrap64 ((wrap64 (bt a0 (wrap64 ((a0.size : Int) - 1)))) - 97)) + 1)) 1 26).bind fun t520 => (if t520 = true then (if (wrap64 ((a0.size : Int) - 1)) ≤ (a0.size : Int) then ((spec_l1Read.f k (a0.extract 0 ((wrap64 ((a0.size : Int) - 1)) : Int).toNat)).bind fun t521 => ((spec_isPlate.f t521 (wrap64 ((wrap64 ((wrap64 (bt a0 (wrap64 ((a0.size : Int) - 1)))) - 97)) + 1))).bind fun t522 => (if t522 = true then ((spec_isText.f k t521 (wrap64 ((wrap64 ((wrap64 (bt a0 (wrap64 ((a0.size : Int) - 1)))) - 97)) + 1))).bind fun t523 => (some (t521, wrap64 ((wrap64 ((wrap64 (bt a0 (wrap64 ((a0.size : Int) - 1)))) - 97)) + 1), (t523.toList == a0.toList)))) else (some (t521, wrap64 ((wrap64 ((wrap64 (bt a0 (wrap64 ((a0.size : Int) - 1)))) - 97)) + 1), false))))) else (none)) else ((spec_isPlate.f t518 0).bind fun t524 => (if t524 = true then ((spec_isText.f k t518 0).bind fun t525 => (some (t518, 0, (t525.toList == a0.toList)))) else (some (t518, 0, false)))))) else (none)) else (none))) else (some (0, 0, false)))) = some (r1, r2, r3) := h
 clear h
 obtain ⟨t517, A2, H⟩ := obA H
 by_cases c3 : t517 = true
 ·subst c3
  rw [if_pos rfl] at H
  obtain ⟨t518, A4, H⟩ := obA H
  obtain ⟨ji5, hji5⟩ : ∃ j_ : Int, (wrap64 ((a0.size : Int) - 1)) = j_ := ⟨_, rfl⟩
  replace H : (if 0 ≤ (ji5) then (if (ji5) < (a0.size : Int) then ((spec_l1In.f (wrap64 ((wrap64 ((wrap64 (bt a0 (ji5))) - 97)) + 1)) 1 26).bind fun t520 => (if t520 = true then (if (ji5) ≤ (a0.size : Int) then ((spec_l1Read.f k (a0.extract 0 ((ji5) : Int).toNat)).bind fun t521 => ((spec_isPlate.f t521 (wrap64 ((wrap64 ((wrap64 (bt a0 (ji5))) - 97)) + 1))).bind fun t522 => (if t522 = true then ((spec_isText.f k t521 (wrap64 ((wrap64 ((wrap64 (bt a0 (ji5))) - 97)) + 1))).bind fun t523 => (some (t521, wrap64 ((wrap64 ((wrap64 (bt a0 (ji5))) - 97)) + 1), (t523.toList == a0.toList)))) else (some (t521, wrap64 ((wrap64 ((wrap64 (bt a0 (ji5))) - 97)) + 1), false))))) else (none)) else ((spec_isPlate.f t518 0).bind fun t524 => (if t524 = true then ((spec_isText.f k t518 0).bind fun t525 => (some (t518, 0, (t525.toList == a0.toList)))) else (some (t518, 0, false)))))) else (none)) else (none)) = some (r1, r2, r3) := by first | (rw [hji5] at H; exact H) | (simp only [hji5] at H ⊢; exact H)
  (try rw [hji5] at A2)
  (try rw [hji5] at A4)
  have hji5w : (IntKind.i64.wrap ((a0.size : Int) - 1)) = ji5 := (i64_w _).trans hji5
  by_cases c6 : 0 ≤ (ji5)
  ·rw [if_pos c6] at H
   replace c6 := decide_eq_true c6
   by_cases c7 : (ji5) < (a0.size : Int)
   ·rw [if_pos c7] at H
    replace c7 := decide_eq_true c7
    obtain ⟨t520, A9, H⟩ := obA H
    by_cases c10 : t520 = true
    ·subst c10
     rw [if_pos rfl] at H
     have c11b0 := eq_true (od_ : 0 ≤ (ji5))
     by_cases c12 : (ji5) ≤ (a0.size : Int)
     ·rw [if_pos c12] at H
      have c12b0 := eq_true c12
      have c12b1 : decide ((ji5) ≤ (a0.size : Int)) = true := decide_eq_true c12
      clear c12
      obtain ⟨t521, A13, H⟩ := obA H
      obtain ⟨t522, A14, H⟩ := obA H
      by_cases c15 : t522 = true
      ·subst c15
       rw [if_pos rfl] at H
       obtain ⟨t523, A16, H⟩ := obA H
       simp only [Option.some.injEq, Prod.mk.injEq] at H
       obtain ⟨rfl, rfl, rfl⟩ := H
       go_enter Tryz.func58, Tryz.ntmps58
       try go_wp2_with (first | (refine bx_ 2 #[.int .i64 0, .int .i64 0] 25 ?_; intro gb516 hg w17 BK516 hb; have GW516 := gW_ (w := w) hg; replace HB := bT_ hb; clear hb hg) | (refine gL_ Tryz.func61 (some 8) #[.int .i64 (a0.size : Int), .int .i64 1, .int .i64 5] ?_; (with_reducible refine (spec_l1In.calls (a0.size : Int) 1 5 true _ A2.out).mono ?_); rintro e w' ⟨rfl, ⟨nd, rfl⟩⟩; refine ⟨_, rfl, ?_⟩; (try (rw [drewN_self w17]; generalize hq_ : World.drewN w17 _ = w17; have n0_ : Aside0 (w17.heap[gb516]? = some (.cells #[.int .i64 0, .int .i64 0] 25 (0, 0))) := ⟨by rw [← hq_]; exact aO_⟩; have n1_ : Aside0 (Below w.heap.size w w17) := ⟨by rw [← hq_]; exact bO_⟩; clear BK516 HB hq_; have BK516 := n0_; have HB := n1_; clear n0_ n1_))) | (refine gL_ Tryz.func74 (some 12) #[.string a0] ?_; (with_reducible refine (spec_l1Read.calls k a0 t518 _ A4.out).mono ?_); rintro e w' ⟨rfl, ⟨nd, rfl⟩⟩; refine ⟨_, rfl, ?_⟩; (try (rw [drewN_self w17]; generalize hq_ : World.drewN w17 _ = w17; have n0_ : Aside0 (w17.heap[gb516]? = some (.cells #[.int .i64 0, .int .i64 0] 25 (0, 0))) := ⟨by rw [← hq_]; exact aO_⟩; have n1_ : Aside0 (Below w.heap.size w w17) := ⟨by rw [← hq_]; exact bO_⟩; clear BK516 HB hq_; have BK516 := n0_; have HB := n1_; clear n0_ n1_))) | (refine bx_ 4 #[.int .i64 0, .int .i64 0] 25 ?_; intro gb519 hg w18 BK519 hb; have GW519 := gW_ (w := w) hg; replace HB := bT_ hb; have NB516_519 := Aside0.mk ((by rw [hg]; exact Nat.ne_of_lt (blk_lt (g := gb516) aO_) : gb516 ≠ gb519)); have NB519_516 := Aside0.mk ((by rw [hg]; exact Nat.ne_of_gt (blk_lt (g := gb516) aO_) : gb519 ≠ gb516)); replace BK516 := bB_ (g := gb516) hb; clear hb hg; have hnb19 := NB519_516.out; have hnc19 := NB516_519.out; have hcz20_0 : w18.cell? ⟨gb519, 0, none⟩ = some (.int .i64 0) := (blk_cell BK519.out 0).trans rfl; have hcz20_1 : w18.cell? ⟨gb519, 1, none⟩ = some (.int .i64 0) := (blk_cell BK519.out 1).trans rfl; have hfz20_0 := blk_frozen BK519.out 0; have hfz20_1 := blk_frozen BK519.out 1; have p8 : 0 ≤ ((ji5) : Int) := od_; have q8 : (ji5) < (a0.size : Int) := od_; have hx8 := bt_at a0 (ji5); replace p8 := eq_true p8; replace q8 := eq_true q8) | ((with_reducible refine gate_callee (f := 61) rfl ?_); refine goesL_ (some 23) rfl rfl Tryz.func61 (by kernel_rfl) rfl #[.int .i64 (wrap64 ((wrap64 ((wrap64 (bt a0 (ji5))) - 97)) + 1)), .int .i64 1, .int .i64 26] rfl (by (try simp only [List.map_toArray, List.map_cons, List.map_nil]); first | done | (simp only [hji5]; rfl) | rfl | (simp only [List.length_drop, List.length_take]; rfl)) ?_; (with_reducible refine (spec_l1In.calls (wrap64 ((wrap64 ((wrap64 (bt a0 (ji5))) - 97)) + 1)) 1 26 true _ A9.out).mono ?_); rintro e w' ⟨rfl, ⟨nd, rfl⟩⟩; refine ⟨_, rfl, ?_⟩) | ((with_reducible refine gate_callee (f := 74) rfl ?_); refine goesL_ (some 29) rfl rfl Tryz.func74 (by kernel_rfl) rfl #[.string (a0.extract 0 ((ji5) : Int).toNat)] rfl (by (try simp only [List.map_toArray, List.map_cons, List.map_nil]); first | done | (simp only [hji5]; rfl) | rfl | (simp only [List.length_drop, List.length_take]; rfl)) ?_; (with_reducible refine (spec_l1Read.calls k (a0.extract 0 ((ji5) : Int).toNat) t521 _ A13.out).mono ?_); rintro e w' ⟨rfl, ⟨nd, rfl⟩⟩; refine ⟨_, rfl, ?_⟩))
       have n0_ : Aside0 (((((w18.setCell ⟨gb519, 0, none⟩ (.int .i64 t518)).setCell ⟨gb519, 1, none⟩ (.int .i64 0)).setCell ⟨gb519, 0, none⟩ (.int .i64 t521)).setCell ⟨gb519, 1, none⟩ (.int .i64 (wrap64 ((wrap64 ((wrap64 (bt a0 (ji5))) - 97)) + 1)))).heap[gb516]? = some (.cells #[.int .i64 0, .int .i64 0] 25 (0, 0))) := ⟨by refine blk_far ?_ NB516_519.out _; refine blk_far ?_ NB516_519.out _; refine blk_far ?_ NB516_519.out _; refine blk_far ?_ NB516_519.out _; exact BK516.out⟩
       have n1_ : Aside0 (((((w18.setCell ⟨gb519, 0, none⟩ (.int .i64 t518)).setCell ⟨gb519, 1, none⟩ (.int .i64 0)).setCell ⟨gb519, 0, none⟩ (.int .i64 t521)).setCell ⟨gb519, 1, none⟩ (.int .i64 (wrap64 ((wrap64 ((wrap64 (bt a0 (ji5))) - 97)) + 1)))).heap[gb519]? = some (.cells #[.int .i64 t521, .int .i64 (wrap64 ((wrap64 ((wrap64 (bt a0 (ji5))) - 97)) + 1))] 25 (0, 0))) := ⟨by refine blk_put (cs := #[.int .i64 t521, .int .i64 0]) ?_ 1 _ rfl; refine blk_put (cs := #[.int .i64 t518, .int .i64 0]) ?_ 0 _ rfl; refine blk_put (cs := #[.int .i64 t518, .int .i64 0]) ?_ 1 _ rfl; refine blk_put (cs := #[.int .i64 0, .int .i64 0]) ?_ 0 _ rfl; exact BK519.out⟩
       have n2_ : Aside0 (Below w.heap.size w ((((w18.setCell ⟨gb519, 0, none⟩ (.int .i64 t518)).setCell ⟨gb519, 1, none⟩ (.int .i64 0)).setCell ⟨gb519, 0, none⟩ (.int .i64 t521)).setCell ⟨gb519, 1, none⟩ (.int .i64 (wrap64 ((wrap64 ((wrap64 (bt a0 (ji5))) - 97)) + 1))))) := ⟨bO_⟩
       (try clear BK516)
       (try clear BK519)
       (try clear HB)
       (try simp only [setCell_drewN_spec_isParse, drewN_drewN_spec_isParse])
       generalize ((((w18.setCell ⟨gb519, 0, none⟩ (.int .i64 t518)).setCell ⟨gb519, 1, none⟩ (.int .i64 0)).setCell ⟨gb519, 0, none⟩ (.int .i64 t521)).setCell ⟨gb519, 1, none⟩ (.int .i64 (wrap64 ((wrap64 ((wrap64 (bt a0 (ji5))) - 97)) + 1)))) = w21 at n0_ n1_ n2_ ⊢
       have BK516 := n0_
       have BK519 := n1_
       have HB := n2_
       clear n0_ n1_ n2_
       (try (rw [drewN_self w21]; generalize hq_ : World.drewN w21 _ = w21; have n0_ : Aside0 (w21.heap[gb516]? = some (.cells #[.int .i64 0, .int .i64 0] 25 (0, 0))) := ⟨by rw [← hq_]; exact aO_⟩; have n1_ : Aside0 (w21.heap[gb519]? = some (.cells #[.int .i64 t521, .int .i64 (wrap64 ((wrap64 ((wrap64 (bt a0 (ji5))) - 97)) + 1))] 25 (0, 0))) := ⟨by rw [← hq_]; exact aO_⟩; have n2_ : Aside0 (Below w.heap.size w w21) := ⟨by rw [← hq_]; exact bO_⟩; clear BK516 BK519 HB hq_; have BK516 := n0_; have BK519 := n1_; have HB := n2_; clear n0_ n1_ n2_))
       replace BK516 := Aside0.mk (blk_drew BK516.out)
       replace BK519 := Aside0.mk (blk_drew BK519.out)
       replace HB := Aside0.mk (below_drew1 HB.out)
       refine start_ (n := 11) (S := fun w' => w'.cell? ⟨gb519, 0, none⟩ = some (.int .i64 t521) ∧ w'.cell? ⟨gb519, 1, none⟩ = some (.int .i64 (wrap64 ((wrap64 ((wrap64 (bt a0 (ji5))) - 97)) + 1)))) (ds := []) M20_0 (by kernel_rfl) rfl rfl ⟨(blk_cell BK519.out 0).trans rfl, (blk_cell BK519.out 1).trans rfl⟩ (fun hHeld => ?_); refine with_tabW spec_isParse.tab7 spec_isParse.bits7 (fun HT_ HW_ => ?_)
       generalize w21.drew = w22 at BK516 BK519 HB hHeld ⊢
       refine ta_ 0 32 M20_1 ?_
       refine ta_ 1 33 M20_2 ?_
       refine on_ 2 (some 34) M20_3 fun K hK => ?_
       refine goes_ Tryz.func39 (by kernel_rfl) rfl #[.agg #[.int .i64 t521, .int .i64 (wrap64 ((wrap64 ((wrap64 (bt a0 (ji5))) - 97)) + 1))]] (by rfl) rfl rfl (by (try simp only [List.map_toArray, List.map_cons, List.map_nil]); first | done | (simp only [hji5]; rfl) | rfl | (simp only [List.length_drop, List.length_take]; rfl)) ?_
       with_reducible refine (spec_isPlate.calls t521 (wrap64 ((wrap64 ((wrap64 (bt a0 (ji5))) - 97)) + 1)) true _ A14.out).mono ?_
       rintro e w23 ⟨rfl, hb⟩
       refine ⟨_, rfl, ?_⟩
       replace BK516 := bB_ (g := gb516) hb
       replace BK519 := bB_ (g := gb519) hb
       replace HB := bT_ hb
       refine hS_ hK fun hHeld => ?_
       clear hK K
       refine nm_ ?_
       refine pu_ 3 35 M20_4 ?_
       refine pu_ 6 38 M20_5 ?_
       refine ta_ 4 36 M20_6 ?_
       refine on_ 5 (some 37) M20_7 fun K hK => ?_
       refine goes_ Tryz.func46 (by kernel_rfl) rfl #[.agg #[.int .i64 t521, .int .i64 (wrap64 ((wrap64 ((wrap64 (bt a0 (ji5))) - 97)) + 1))]] (by rfl) rfl rfl (by (try simp only [List.map_toArray, List.map_cons, List.map_nil]); first | done | (simp only [hji5]; rfl) | rfl | (simp only [List.length_drop, List.length_take]; rfl)) ?_
       with_reducible refine (spec_isText.calls k t521 (wrap64 ((wrap64 ((wrap64 (bt a0 (ji5))) - 97)) + 1)) t523 _ A16.out).mono ?_
       rintro e w24 ⟨rfl, hb⟩
       refine ⟨_, rfl, ?_⟩
       replace BK516 := bB_ (g := gb516) hb
       replace BK519 := bB_ (g := gb519) hb
       replace HB := bT_ hb
       refine hS_ hK fun hHeld => ?_
       clear hK K
       refine nm_ ?_
       refine pu_ 7 39 M20_8 ?_
       refine pu_ 8 40 M20_9 ?_
       refine on_ 9 none M20_10 fun K hK => ?_
       have hs25 : w24.cell? ⟨gb516, 0, none⟩ = some (.int .i64 0) := (blk_cell BK516.out 0).trans rfl
       have hfs25 := blk_frozen BK516.out 0
       have hns25_1 := NB519_516.out
       have hms25_1 := NB516_519.out
       have hs26 : w24.cell? ⟨gb516, 1, none⟩ = some (.int .i64 0) := (blk_cell BK516.out 1).trans rfl
       have hfs26 := blk_frozen BK516.out 1
       have hns26_1 := NB519_516.out
       have hms26_1 := NB516_519.out
       refine skip_ (w1 := ?_) (by rfl) rfl ?_ ?_
       rotate_left
       ·go_simp
        rfl
       refine hK.out _ _ ⟨((cell_far (p := ⟨gb516, _, none⟩) NB519_516.out _).trans (((cell_far (p := ⟨gb516, _, none⟩) NB519_516.out _).trans (hHeld.1)))), ((cell_far (p := ⟨gb516, _, none⟩) NB519_516.out _).trans (((cell_far (p := ⟨gb516, _, none⟩) NB519_516.out _).trans (hHeld.2))))⟩ (fun hHeld => ?_)
       clear hK K
       refine pu_ 10 3 M20_11 ?_
       refine done_ (done_of HT_.out (by kernel_rfl)) ?_
       try go_wp2
       refine bodyPost_ret (results_ct rfl _ _ gb516 25 #[.int .i64 t521, .int .i64 (wrap64 ((wrap64 ((wrap64 (bt a0 (ji5))) - 97)) + 1))] (0, 0) _ rfl (by refine blk_put (cs := #[.int .i64 t521, .int .i64 0]) ?_ 1 _ rfl; refine blk_put (cs := #[.int .i64 0, .int .i64 0]) ?_ 0 _ rfl; exact BK516.out) Tryz.underlying25 rfl (by kernel_rfl)) rfl ?_
       exact ⟨by first | rfl | (simp [errW_none, errW_some] <;> rfl) | (simp only [← hji5]; first | rfl | (simp [errW_none, errW_some] <;> rfl)) | (simp [*, errW_none, errW_some] <;> rfl), bO_⟩
      ·replace c15 := Bool.eq_false_iff.mpr c15
       subst c15
       rw [if_neg (show ¬ (false = true) by decide)] at H
       simp only [Option.some.injEq, Prod.mk.injEq] at H
       obtain ⟨rfl, rfl, rfl⟩ := H
       go_enter Tryz.func58, Tryz.ntmps58
       try go_wp2_with (first | (refine bx_ 2 #[.int .i64 0, .int .i64 0] 25 ?_; intro gb516 hg w27 BK516 hb; have GW516 := gW_ (w := w) hg; replace HB := bT_ hb; clear hb hg) | (refine gL_ Tryz.func61 (some 8) #[.int .i64 (a0.size : Int), .int .i64 1, .int .i64 5] ?_; (with_reducible refine (spec_l1In.calls (a0.size : Int) 1 5 true _ A2.out).mono ?_); rintro e w' ⟨rfl, ⟨nd, rfl⟩⟩; refine ⟨_, rfl, ?_⟩; (try (rw [drewN_self w27]; generalize hq_ : World.drewN w27 _ = w27; have n0_ : Aside0 (w27.heap[gb516]? = some (.cells #[.int .i64 0, .int .i64 0] 25 (0, 0))) := ⟨by rw [← hq_]; exact aO_⟩; have n1_ : Aside0 (Below w.heap.size w w27) := ⟨by rw [← hq_]; exact bO_⟩; clear BK516 HB hq_; have BK516 := n0_; have HB := n1_; clear n0_ n1_))) | (refine gL_ Tryz.func74 (some 12) #[.string a0] ?_; (with_reducible refine (spec_l1Read.calls k a0 t518 _ A4.out).mono ?_); rintro e w' ⟨rfl, ⟨nd, rfl⟩⟩; refine ⟨_, rfl, ?_⟩; (try (rw [drewN_self w27]; generalize hq_ : World.drewN w27 _ = w27; have n0_ : Aside0 (w27.heap[gb516]? = some (.cells #[.int .i64 0, .int .i64 0] 25 (0, 0))) := ⟨by rw [← hq_]; exact aO_⟩; have n1_ : Aside0 (Below w.heap.size w w27) := ⟨by rw [← hq_]; exact bO_⟩; clear BK516 HB hq_; have BK516 := n0_; have HB := n1_; clear n0_ n1_))) | (refine bx_ 4 #[.int .i64 0, .int .i64 0] 25 ?_; intro gb519 hg w28 BK519 hb; have GW519 := gW_ (w := w) hg; replace HB := bT_ hb; have NB516_519 := Aside0.mk ((by rw [hg]; exact Nat.ne_of_lt (blk_lt (g := gb516) aO_) : gb516 ≠ gb519)); have NB519_516 := Aside0.mk ((by rw [hg]; exact Nat.ne_of_gt (blk_lt (g := gb516) aO_) : gb519 ≠ gb516)); replace BK516 := bB_ (g := gb516) hb; clear hb hg; have hnb29 := NB519_516.out; have hnc29 := NB516_519.out; have hcz30_0 : w28.cell? ⟨gb519, 0, none⟩ = some (.int .i64 0) := (blk_cell BK519.out 0).trans rfl; have hcz30_1 : w28.cell? ⟨gb519, 1, none⟩ = some (.int .i64 0) := (blk_cell BK519.out 1).trans rfl; have hfz30_0 := blk_frozen BK519.out 0; have hfz30_1 := blk_frozen BK519.out 1; have p8 : 0 ≤ ((ji5) : Int) := od_; have q8 : (ji5) < (a0.size : Int) := od_; have hx8 := bt_at a0 (ji5); replace p8 := eq_true p8; replace q8 := eq_true q8) | ((with_reducible refine gate_callee (f := 61) rfl ?_); refine goesL_ (some 23) rfl rfl Tryz.func61 (by kernel_rfl) rfl #[.int .i64 (wrap64 ((wrap64 ((wrap64 (bt a0 (ji5))) - 97)) + 1)), .int .i64 1, .int .i64 26] rfl (by (try simp only [List.map_toArray, List.map_cons, List.map_nil]); first | done | (simp only [hji5]; rfl) | rfl | (simp only [List.length_drop, List.length_take]; rfl)) ?_; (with_reducible refine (spec_l1In.calls (wrap64 ((wrap64 ((wrap64 (bt a0 (ji5))) - 97)) + 1)) 1 26 true _ A9.out).mono ?_); rintro e w' ⟨rfl, ⟨nd, rfl⟩⟩; refine ⟨_, rfl, ?_⟩) | ((with_reducible refine gate_callee (f := 74) rfl ?_); refine goesL_ (some 29) rfl rfl Tryz.func74 (by kernel_rfl) rfl #[.string (a0.extract 0 ((ji5) : Int).toNat)] rfl (by (try simp only [List.map_toArray, List.map_cons, List.map_nil]); first | done | (simp only [hji5]; rfl) | rfl | (simp only [List.length_drop, List.length_take]; rfl)) ?_; (with_reducible refine (spec_l1Read.calls k (a0.extract 0 ((ji5) : Int).toNat) t521 _ A13.out).mono ?_); rintro e w' ⟨rfl, ⟨nd, rfl⟩⟩; refine ⟨_, rfl, ?_⟩))
       have n0_ : Aside0 (((((w28.setCell ⟨gb519, 0, none⟩ (.int .i64 t518)).setCell ⟨gb519, 1, none⟩ (.int .i64 0)).setCell ⟨gb519, 0, none⟩ (.int .i64 t521)).setCell ⟨gb519, 1, none⟩ (.int .i64 (wrap64 ((wrap64 ((wrap64 (bt a0 (ji5))) - 97)) + 1)))).heap[gb516]? = some (.cells #[.int .i64 0, .int .i64 0] 25 (0, 0))) := ⟨by refine blk_far ?_ NB516_519.out _; refine blk_far ?_ NB516_519.out _; refine blk_far ?_ NB516_519.out _; refine blk_far ?_ NB516_519.out _; exact BK516.out⟩
       have n1_ : Aside0 (((((w28.setCell ⟨gb519, 0, none⟩ (.int .i64 t518)).setCell ⟨gb519, 1, none⟩ (.int .i64 0)).setCell ⟨gb519, 0, none⟩ (.int .i64 t521)).setCell ⟨gb519, 1, none⟩ (.int .i64 (wrap64 ((wrap64 ((wrap64 (bt a0 (ji5))) - 97)) + 1)))).heap[gb519]? = some (.cells #[.int .i64 t521, .int .i64 (wrap64 ((wrap64 ((wrap64 (bt a0 (ji5))) - 97)) + 1))] 25 (0, 0))) := ⟨by refine blk_put (cs := #[.int .i64 t521, .int .i64 0]) ?_ 1 _ rfl; refine blk_put (cs := #[.int .i64 t518, .int .i64 0]) ?_ 0 _ rfl; refine blk_put (cs := #[.int .i64 t518, .int .i64 0]) ?_ 1 _ rfl; refine blk_put (cs := #[.int .i64 0, .int .i64 0]) ?_ 0 _ rfl; exact BK519.out⟩
       have n2_ : Aside0 (Below w.heap.size w ((((w28.setCell ⟨gb519, 0, none⟩ (.int .i64 t518)).setCell ⟨gb519, 1, none⟩ (.int .i64 0)).setCell ⟨gb519, 0, none⟩ (.int .i64 t521)).setCell ⟨gb519, 1, none⟩ (.int .i64 (wrap64 ((wrap64 ((wrap64 (bt a0 (ji5))) - 97)) + 1))))) := ⟨bO_⟩
       (try clear BK516)
       (try clear BK519)
       (try clear HB)
       (try simp only [setCell_drewN_spec_isParse, drewN_drewN_spec_isParse])
       generalize ((((w28.setCell ⟨gb519, 0, none⟩ (.int .i64 t518)).setCell ⟨gb519, 1, none⟩ (.int .i64 0)).setCell ⟨gb519, 0, none⟩ (.int .i64 t521)).setCell ⟨gb519, 1, none⟩ (.int .i64 (wrap64 ((wrap64 ((wrap64 (bt a0 (ji5))) - 97)) + 1)))) = w31 at n0_ n1_ n2_ ⊢
       have BK516 := n0_
       have BK519 := n1_
       have HB := n2_
       clear n0_ n1_ n2_
       (try (rw [drewN_self w31]; generalize hq_ : World.drewN w31 _ = w31; have n0_ : Aside0 (w31.heap[gb516]? = some (.cells #[.int .i64 0, .int .i64 0] 25 (0, 0))) := ⟨by rw [← hq_]; exact aO_⟩; have n1_ : Aside0 (w31.heap[gb519]? = some (.cells #[.int .i64 t521, .int .i64 (wrap64 ((wrap64 ((wrap64 (bt a0 (ji5))) - 97)) + 1))] 25 (0, 0))) := ⟨by rw [← hq_]; exact aO_⟩; have n2_ : Aside0 (Below w.heap.size w w31) := ⟨by rw [← hq_]; exact bO_⟩; clear BK516 BK519 HB hq_; have BK516 := n0_; have BK519 := n1_; have HB := n2_; clear n0_ n1_ n2_))
       replace BK516 := Aside0.mk (blk_drew BK516.out)
       replace BK519 := Aside0.mk (blk_drew BK519.out)
       replace HB := Aside0.mk (below_drew1 HB.out)
       refine start_ (n := 11) (S := fun w' => w'.cell? ⟨gb519, 0, none⟩ = some (.int .i64 t521) ∧ w'.cell? ⟨gb519, 1, none⟩ = some (.int .i64 (wrap64 ((wrap64 ((wrap64 (bt a0 (ji5))) - 97)) + 1)))) (ds := []) M20_0 (by kernel_rfl) rfl rfl ⟨(blk_cell BK519.out 0).trans rfl, (blk_cell BK519.out 1).trans rfl⟩ (fun hHeld => ?_); refine with_tabW spec_isParse.tab7 spec_isParse.bits7 (fun HT_ HW_ => ?_)
       generalize w31.drew = w32 at BK516 BK519 HB hHeld ⊢
       refine ta_ 0 32 M20_1 ?_
       refine ta_ 1 33 M20_2 ?_
       refine on_ 2 (some 34) M20_3 fun K hK => ?_
       refine goes_ Tryz.func39 (by kernel_rfl) rfl #[.agg #[.int .i64 t521, .int .i64 (wrap64 ((wrap64 ((wrap64 (bt a0 (ji5))) - 97)) + 1))]] (by rfl) rfl rfl (by (try simp only [List.map_toArray, List.map_cons, List.map_nil]); first | done | (simp only [hji5]; rfl) | rfl | (simp only [List.length_drop, List.length_take]; rfl)) ?_
       with_reducible refine (spec_isPlate.calls t521 (wrap64 ((wrap64 ((wrap64 (bt a0 (ji5))) - 97)) + 1)) false _ A14.out).mono ?_
       rintro e w33 ⟨rfl, hb⟩
       refine ⟨_, rfl, ?_⟩
       replace BK516 := bB_ (g := gb516) hb
       replace BK519 := bB_ (g := gb519) hb
       replace HB := bT_ hb
       refine hS_ hK fun hHeld => ?_
       clear hK K
       refine nm_ ?_
       refine pu_ 3 35 M20_4 ?_
       refine pure_ (i := 4) (N := some 36) (v := undef) (a' := ?_) M20_12 rfl rfl (any_of HT_.out (by kernel_rfl)) (fun _ _ _ h => h) (Or.inr ⟨by rfl, rfl⟩) ?_ ?_
       rotate_left
       ·simp only [sp_]
        rfl
       refine pure_ (i := 5) (N := some 37) (v := undef) (a' := ?_) M20_13 rfl rfl (any_of HT_.out (by kernel_rfl)) (fun _ _ _ h => h) (Or.inr ⟨by rfl, rfl⟩) ?_ ?_
       rotate_left
       ·simp only [sp_]
        rfl
       refine pure_ (i := 6) (N := some 38) (v := undef) (a' := ?_) M20_7 rfl rfl (any_of HT_.out (by kernel_rfl)) (fun _ _ _ h => h) (Or.inr ⟨by rfl, rfl⟩) ?_ ?_
       rotate_left
       ·simp only [sp_]
        rfl
       refine pure_ (i := 7) (N := some 39) (v := undef) (a' := ?_) M20_8 rfl rfl (any_of HT_.out (by kernel_rfl)) (fun _ _ _ h => h) (Or.inr ⟨by rfl, rfl⟩) ?_ ?_
       rotate_left
       ·simp only [sp_]
        rfl
       refine pu_ 8 40 M20_9 ?_
       refine on_ 9 none M20_10 fun K hK => ?_
       have hs34 : w33.cell? ⟨gb516, 0, none⟩ = some (.int .i64 0) := (blk_cell BK516.out 0).trans rfl
       have hfs34 := blk_frozen BK516.out 0
       have hns34_1 := NB519_516.out
       have hms34_1 := NB516_519.out
       have hs35 : w33.cell? ⟨gb516, 1, none⟩ = some (.int .i64 0) := (blk_cell BK516.out 1).trans rfl
       have hfs35 := blk_frozen BK516.out 1
       have hns35_1 := NB519_516.out
       have hms35_1 := NB516_519.out
       refine skip_ (w1 := ?_) (by rfl) rfl ?_ ?_
       rotate_left
       ·go_simp
        rfl
       refine hK.out _ _ ⟨((cell_far (p := ⟨gb516, _, none⟩) NB519_516.out _).trans (((cell_far (p := ⟨gb516, _, none⟩) NB519_516.out _).trans (hHeld.1)))), ((cell_far (p := ⟨gb516, _, none⟩) NB519_516.out _).trans (((cell_far (p := ⟨gb516, _, none⟩) NB519_516.out _).trans (hHeld.2))))⟩ (fun hHeld => ?_)
       clear hK K
       refine pu_ 10 3 M20_11 ?_
       refine done_ (done_of HT_.out (by kernel_rfl)) ?_
       try go_wp2
       refine bodyPost_ret (results_ct rfl _ _ gb516 25 #[.int .i64 t521, .int .i64 (wrap64 ((wrap64 ((wrap64 (bt a0 (ji5))) - 97)) + 1))] (0, 0) _ rfl (by refine blk_put (cs := #[.int .i64 t521, .int .i64 0]) ?_ 1 _ rfl; refine blk_put (cs := #[.int .i64 0, .int .i64 0]) ?_ 0 _ rfl; exact BK516.out) Tryz.underlying25 rfl (by kernel_rfl)) rfl ?_
       exact ⟨by first | rfl | (simp [errW_none, errW_some] <;> rfl) | (simp only [← hji5]; first | rfl | (simp [errW_none, errW_some] <;> rfl)) | (simp [*, errW_none, errW_some] <;> rfl), bO_⟩
     ·rw [if_neg c12] at H
      exact absurd H (by simp)
    ·replace c10 := Bool.eq_false_iff.mpr c10
     subst c10
     rw [if_neg (show ¬ (false = true) by decide)] at H
     obtain ⟨t524, A36, H⟩ := obA H
     by_cases c37 : t524 = true
     ·subst c37
      rw [if_pos rfl] at H
      obtain ⟨t525, A38, H⟩ := obA H
      simp only [Option.some.injEq, Prod.mk.injEq] at H
      obtain ⟨rfl, rfl, rfl⟩ := H
      go_enter Tryz.func58, Tryz.ntmps58
      try go_wp2_with (first | (refine bx_ 2 #[.int .i64 0, .int .i64 0] 25 ?_; intro gb516 hg w39 BK516 hb; have GW516 := gW_ (w := w) hg; replace HB := bT_ hb; clear hb hg) | (refine gL_ Tryz.func61 (some 8) #[.int .i64 (a0.size : Int), .int .i64 1, .int .i64 5] ?_; (with_reducible refine (spec_l1In.calls (a0.size : Int) 1 5 true _ A2.out).mono ?_); rintro e w' ⟨rfl, ⟨nd, rfl⟩⟩; refine ⟨_, rfl, ?_⟩; (try (rw [drewN_self w39]; generalize hq_ : World.drewN w39 _ = w39; have n0_ : Aside0 (w39.heap[gb516]? = some (.cells #[.int .i64 0, .int .i64 0] 25 (0, 0))) := ⟨by rw [← hq_]; exact aO_⟩; have n1_ : Aside0 (Below w.heap.size w w39) := ⟨by rw [← hq_]; exact bO_⟩; clear BK516 HB hq_; have BK516 := n0_; have HB := n1_; clear n0_ n1_))) | (refine gL_ Tryz.func74 (some 12) #[.string a0] ?_; (with_reducible refine (spec_l1Read.calls k a0 t518 _ A4.out).mono ?_); rintro e w' ⟨rfl, ⟨nd, rfl⟩⟩; refine ⟨_, rfl, ?_⟩; (try (rw [drewN_self w39]; generalize hq_ : World.drewN w39 _ = w39; have n0_ : Aside0 (w39.heap[gb516]? = some (.cells #[.int .i64 0, .int .i64 0] 25 (0, 0))) := ⟨by rw [← hq_]; exact aO_⟩; have n1_ : Aside0 (Below w.heap.size w w39) := ⟨by rw [← hq_]; exact bO_⟩; clear BK516 HB hq_; have BK516 := n0_; have HB := n1_; clear n0_ n1_))) | (refine bx_ 4 #[.int .i64 0, .int .i64 0] 25 ?_; intro gb519 hg w40 BK519 hb; have GW519 := gW_ (w := w) hg; replace HB := bT_ hb; have NB516_519 := Aside0.mk ((by rw [hg]; exact Nat.ne_of_lt (blk_lt (g := gb516) aO_) : gb516 ≠ gb519)); have NB519_516 := Aside0.mk ((by rw [hg]; exact Nat.ne_of_gt (blk_lt (g := gb516) aO_) : gb519 ≠ gb516)); replace BK516 := bB_ (g := gb516) hb; clear hb hg; have hnb41 := NB519_516.out; have hnc41 := NB516_519.out; have hcz42_0 : w40.cell? ⟨gb519, 0, none⟩ = some (.int .i64 0) := (blk_cell BK519.out 0).trans rfl; have hcz42_1 : w40.cell? ⟨gb519, 1, none⟩ = some (.int .i64 0) := (blk_cell BK519.out 1).trans rfl; have hfz42_0 := blk_frozen BK519.out 0; have hfz42_1 := blk_frozen BK519.out 1; have p8 : 0 ≤ ((ji5) : Int) := od_; have q8 : (ji5) < (a0.size : Int) := od_; have hx8 := bt_at a0 (ji5); replace p8 := eq_true p8; replace q8 := eq_true q8) | ((with_reducible refine gate_callee (f := 61) rfl ?_); refine goesL_ (some 23) rfl rfl Tryz.func61 (by kernel_rfl) rfl #[.int .i64 (wrap64 ((wrap64 ((wrap64 (bt a0 (ji5))) - 97)) + 1)), .int .i64 1, .int .i64 26] rfl (by (try simp only [List.map_toArray, List.map_cons, List.map_nil]); first | done | (simp only [hji5]; rfl) | rfl | (simp only [List.length_drop, List.length_take]; rfl)) ?_; (with_reducible refine (spec_l1In.calls (wrap64 ((wrap64 ((wrap64 (bt a0 (ji5))) - 97)) + 1)) 1 26 false _ A9.out).mono ?_); rintro e w' ⟨rfl, ⟨nd, rfl⟩⟩; refine ⟨_, rfl, ?_⟩))
      have n0_ : Aside0 (((w40.setCell ⟨gb519, 0, none⟩ (.int .i64 t518)).setCell ⟨gb519, 1, none⟩ (.int .i64 0)).heap[gb516]? = some (.cells #[.int .i64 0, .int .i64 0] 25 (0, 0))) := ⟨by refine blk_far ?_ NB516_519.out _; refine blk_far ?_ NB516_519.out _; exact BK516.out⟩
      have n1_ : Aside0 (((w40.setCell ⟨gb519, 0, none⟩ (.int .i64 t518)).setCell ⟨gb519, 1, none⟩ (.int .i64 0)).heap[gb519]? = some (.cells #[.int .i64 t518, .int .i64 0] 25 (0, 0))) := ⟨by refine blk_put (cs := #[.int .i64 t518, .int .i64 0]) ?_ 1 _ rfl; refine blk_put (cs := #[.int .i64 0, .int .i64 0]) ?_ 0 _ rfl; exact BK519.out⟩
      have n2_ : Aside0 (Below w.heap.size w ((w40.setCell ⟨gb519, 0, none⟩ (.int .i64 t518)).setCell ⟨gb519, 1, none⟩ (.int .i64 0))) := ⟨bO_⟩
      (try clear BK516)
      (try clear BK519)
      (try clear HB)
      (try simp only [setCell_drewN_spec_isParse, drewN_drewN_spec_isParse])
      generalize ((w40.setCell ⟨gb519, 0, none⟩ (.int .i64 t518)).setCell ⟨gb519, 1, none⟩ (.int .i64 0)) = w43 at n0_ n1_ n2_ ⊢
      have BK516 := n0_
      have BK519 := n1_
      have HB := n2_
      clear n0_ n1_ n2_
      (try (rw [drewN_self w43]; generalize hq_ : World.drewN w43 _ = w43; have n0_ : Aside0 (w43.heap[gb516]? = some (.cells #[.int .i64 0, .int .i64 0] 25 (0, 0))) := ⟨by rw [← hq_]; exact aO_⟩; have n1_ : Aside0 (w43.heap[gb519]? = some (.cells #[.int .i64 t518, .int .i64 0] 25 (0, 0))) := ⟨by rw [← hq_]; exact aO_⟩; have n2_ : Aside0 (Below w.heap.size w w43) := ⟨by rw [← hq_]; exact bO_⟩; clear BK516 BK519 HB hq_; have BK516 := n0_; have BK519 := n1_; have HB := n2_; clear n0_ n1_ n2_))
      replace BK516 := Aside0.mk (blk_drew BK516.out)
      replace BK519 := Aside0.mk (blk_drew BK519.out)
      replace HB := Aside0.mk (below_drew1 HB.out)
      refine start_ (n := 11) (S := fun w' => w'.cell? ⟨gb519, 0, none⟩ = some (.int .i64 t518) ∧ w'.cell? ⟨gb519, 1, none⟩ = some (.int .i64 0)) (ds := []) M20_0 (by kernel_rfl) rfl rfl ⟨(blk_cell BK519.out 0).trans rfl, (blk_cell BK519.out 1).trans rfl⟩ (fun hHeld => ?_); refine with_tabW spec_isParse.tab7 spec_isParse.bits7 (fun HT_ HW_ => ?_)
      generalize w43.drew = w44 at BK516 BK519 HB hHeld ⊢
      refine ta_ 0 32 M20_1 ?_
      refine ta_ 1 33 M20_2 ?_
      refine on_ 2 (some 34) M20_3 fun K hK => ?_
      refine gS_ Tryz.func39 #[.agg #[.int .i64 t518, .int .i64 0]] ?_
      with_reducible refine (spec_isPlate.calls t518 0 true _ A36.out).mono ?_
      rintro e w45 ⟨rfl, hb⟩
      refine ⟨_, rfl, ?_⟩
      replace BK516 := bB_ (g := gb516) hb
      replace BK519 := bB_ (g := gb519) hb
      replace HB := bT_ hb
      refine hS_ hK fun hHeld => ?_
      clear hK K
      refine nm_ ?_
      refine pu_ 3 35 M20_4 ?_
      refine pu_ 6 38 M20_5 ?_
      refine ta_ 4 36 M20_6 ?_
      refine on_ 5 (some 37) M20_7 fun K hK => ?_
      refine gS_ Tryz.func46 #[.agg #[.int .i64 t518, .int .i64 0]] ?_
      with_reducible refine (spec_isText.calls k t518 0 t525 _ A38.out).mono ?_
      rintro e w46 ⟨rfl, hb⟩
      refine ⟨_, rfl, ?_⟩
      replace BK516 := bB_ (g := gb516) hb
      replace BK519 := bB_ (g := gb519) hb
      replace HB := bT_ hb
      refine hS_ hK fun hHeld => ?_
      clear hK K
      refine nm_ ?_
      refine pu_ 7 39 M20_8 ?_
      refine pu_ 8 40 M20_9 ?_
      refine on_ 9 none M20_10 fun K hK => ?_
      have hs47 : w46.cell? ⟨gb516, 0, none⟩ = some (.int .i64 0) := (blk_cell BK516.out 0).trans rfl
      have hfs47 := blk_frozen BK516.out 0
      have hns47_1 := NB519_516.out
      have hms47_1 := NB516_519.out
      have hs48 : w46.cell? ⟨gb516, 1, none⟩ = some (.int .i64 0) := (blk_cell BK516.out 1).trans rfl
      have hfs48 := blk_frozen BK516.out 1
      have hns48_1 := NB519_516.out
      have hms48_1 := NB516_519.out
      refine skip_ (w1 := ?_) (by rfl) rfl ?_ ?_
      rotate_left
      ·go_simp
       rfl
      refine hK.out _ _ ⟨((cell_far (p := ⟨gb516, _, none⟩) NB519_516.out _).trans (((cell_far (p := ⟨gb516, _, none⟩) NB519_516.out _).trans (hHeld.1)))), ((cell_far (p := ⟨gb516, _, none⟩) NB519_516.out _).trans (((cell_far (p := ⟨gb516, _, none⟩) NB519_516.out _).trans (hHeld.2))))⟩ (fun hHeld => ?_)
      clear hK K
      refine pu_ 10 3 M20_11 ?_
      refine done_ (done_of HT_.out (by kernel_rfl)) ?_
      try go_wp2
      refine bodyPost_ret (results_ct rfl _ _ gb516 25 #[.int .i64 t518, .int .i64 0] (0, 0) _ rfl (by refine blk_put (cs := #[.int .i64 t518, .int .i64 0]) ?_ 1 _ rfl; refine blk_put (cs := #[.int .i64 0, .int .i64 0]) ?_ 0 _ rfl; exact BK516.out) Tryz.underlying25 rfl (by kernel_rfl)) rfl ?_
      exact ⟨by first | rfl | (simp [errW_none, errW_some] <;> rfl) | (simp only [← hji5]; first | rfl | (simp [errW_none, errW_some] <;> rfl)) | (simp [*, errW_none, errW_some] <;> rfl), bO_⟩
     ·replace c37 := Bool.eq_false_iff.mpr c37
      subst c37
      rw [if_neg (show ¬ (false = true) by decide)] at H
      simp only [Option.some.injEq, Prod.mk.injEq] at H
      obtain ⟨rfl, rfl, rfl⟩ := H
      go_enter Tryz.func58, Tryz.ntmps58
      try go_wp2_with (first | (refine bx_ 2 #[.int .i64 0, .int .i64 0] 25 ?_; intro gb516 hg w49 BK516 hb; have GW516 := gW_ (w := w) hg; replace HB := bT_ hb; clear hb hg) | (refine gL_ Tryz.func61 (some 8) #[.int .i64 (a0.size : Int), .int .i64 1, .int .i64 5] ?_; (with_reducible refine (spec_l1In.calls (a0.size : Int) 1 5 true _ A2.out).mono ?_); rintro e w' ⟨rfl, ⟨nd, rfl⟩⟩; refine ⟨_, rfl, ?_⟩; (try (rw [drewN_self w49]; generalize hq_ : World.drewN w49 _ = w49; have n0_ : Aside0 (w49.heap[gb516]? = some (.cells #[.int .i64 0, .int .i64 0] 25 (0, 0))) := ⟨by rw [← hq_]; exact aO_⟩; have n1_ : Aside0 (Below w.heap.size w w49) := ⟨by rw [← hq_]; exact bO_⟩; clear BK516 HB hq_; have BK516 := n0_; have HB := n1_; clear n0_ n1_))) | (refine gL_ Tryz.func74 (some 12) #[.string a0] ?_; (with_reducible refine (spec_l1Read.calls k a0 t518 _ A4.out).mono ?_); rintro e w' ⟨rfl, ⟨nd, rfl⟩⟩; refine ⟨_, rfl, ?_⟩; (try (rw [drewN_self w49]; generalize hq_ : World.drewN w49 _ = w49; have n0_ : Aside0 (w49.heap[gb516]? = some (.cells #[.int .i64 0, .int .i64 0] 25 (0, 0))) := ⟨by rw [← hq_]; exact aO_⟩; have n1_ : Aside0 (Below w.heap.size w w49) := ⟨by rw [← hq_]; exact bO_⟩; clear BK516 HB hq_; have BK516 := n0_; have HB := n1_; clear n0_ n1_))) | (refine bx_ 4 #[.int .i64 0, .int .i64 0] 25 ?_; intro gb519 hg w50 BK519 hb; have GW519 := gW_ (w := w) hg; replace HB := bT_ hb; have NB516_519 := Aside0.mk ((by rw [hg]; exact Nat.ne_of_lt (blk_lt (g := gb516) aO_) : gb516 ≠ gb519)); have NB519_516 := Aside0.mk ((by rw [hg]; exact Nat.ne_of_gt (blk_lt (g := gb516) aO_) : gb519 ≠ gb516)); replace BK516 := bB_ (g := gb516) hb; clear hb hg; have hnb51 := NB519_516.out; have hnc51 := NB516_519.out; have hcz52_0 : w50.cell? ⟨gb519, 0, none⟩ = some (.int .i64 0) := (blk_cell BK519.out 0).trans rfl; have hcz52_1 : w50.cell? ⟨gb519, 1, none⟩ = some (.int .i64 0) := (blk_cell BK519.out 1).trans rfl; have hfz52_0 := blk_frozen BK519.out 0; have hfz52_1 := blk_frozen BK519.out 1; have p8 : 0 ≤ ((ji5) : Int) := od_; have q8 : (ji5) < (a0.size : Int) := od_; have hx8 := bt_at a0 (ji5); replace p8 := eq_true p8; replace q8 := eq_true q8) | ((with_reducible refine gate_callee (f := 61) rfl ?_); refine goesL_ (some 23) rfl rfl Tryz.func61 (by kernel_rfl) rfl #[.int .i64 (wrap64 ((wrap64 ((wrap64 (bt a0 (ji5))) - 97)) + 1)), .int .i64 1, .int .i64 26] rfl (by (try simp only [List.map_toArray, List.map_cons, List.map_nil]); first | done | (simp only [hji5]; rfl) | rfl | (simp only [List.length_drop, List.length_take]; rfl)) ?_; (with_reducible refine (spec_l1In.calls (wrap64 ((wrap64 ((wrap64 (bt a0 (ji5))) - 97)) + 1)) 1 26 false _ A9.out).mono ?_); rintro e w' ⟨rfl, ⟨nd, rfl⟩⟩; refine ⟨_, rfl, ?_⟩))
      have n0_ : Aside0 (((w50.setCell ⟨gb519, 0, none⟩ (.int .i64 t518)).setCell ⟨gb519, 1, none⟩ (.int .i64 0)).heap[gb516]? = some (.cells #[.int .i64 0, .int .i64 0] 25 (0, 0))) := ⟨by refine blk_far ?_ NB516_519.out _; refine blk_far ?_ NB516_519.out _; exact BK516.out⟩
      have n1_ : Aside0 (((w50.setCell ⟨gb519, 0, none⟩ (.int .i64 t518)).setCell ⟨gb519, 1, none⟩ (.int .i64 0)).heap[gb519]? = some (.cells #[.int .i64 t518, .int .i64 0] 25 (0, 0))) := ⟨by refine blk_put (cs := #[.int .i64 t518, .int .i64 0]) ?_ 1 _ rfl; refine blk_put (cs := #[.int .i64 0, .int .i64 0]) ?_ 0 _ rfl; exact BK519.out⟩
      have n2_ : Aside0 (Below w.heap.size w ((w50.setCell ⟨gb519, 0, none⟩ (.int .i64 t518)).setCell ⟨gb519, 1, none⟩ (.int .i64 0))) := ⟨bO_⟩
      (try clear BK516)
      (try clear BK519)
      (try clear HB)
      (try simp only [setCell_drewN_spec_isParse, drewN_drewN_spec_isParse])
      generalize ((w50.setCell ⟨gb519, 0, none⟩ (.int .i64 t518)).setCell ⟨gb519, 1, none⟩ (.int .i64 0)) = w53 at n0_ n1_ n2_ ⊢
      have BK516 := n0_
      have BK519 := n1_
      have HB := n2_
      clear n0_ n1_ n2_
      (try (rw [drewN_self w53]; generalize hq_ : World.drewN w53 _ = w53; have n0_ : Aside0 (w53.heap[gb516]? = some (.cells #[.int .i64 0, .int .i64 0] 25 (0, 0))) := ⟨by rw [← hq_]; exact aO_⟩; have n1_ : Aside0 (w53.heap[gb519]? = some (.cells #[.int .i64 t518, .int .i64 0] 25 (0, 0))) := ⟨by rw [← hq_]; exact aO_⟩; have n2_ : Aside0 (Below w.heap.size w w53) := ⟨by rw [← hq_]; exact bO_⟩; clear BK516 BK519 HB hq_; have BK516 := n0_; have BK519 := n1_; have HB := n2_; clear n0_ n1_ n2_))
      replace BK516 := Aside0.mk (blk_drew BK516.out)
      replace BK519 := Aside0.mk (blk_drew BK519.out)
      replace HB := Aside0.mk (below_drew1 HB.out)
      refine start_ (n := 11) (S := fun w' => w'.cell? ⟨gb519, 0, none⟩ = some (.int .i64 t518) ∧ w'.cell? ⟨gb519, 1, none⟩ = some (.int .i64 0)) (ds := []) M20_0 (by kernel_rfl) rfl rfl ⟨(blk_cell BK519.out 0).trans rfl, (blk_cell BK519.out 1).trans rfl⟩ (fun hHeld => ?_); refine with_tabW spec_isParse.tab7 spec_isParse.bits7 (fun HT_ HW_ => ?_)
      generalize w53.drew = w54 at BK516 BK519 HB hHeld ⊢
      refine ta_ 0 32 M20_1 ?_
      refine ta_ 1 33 M20_2 ?_
      refine on_ 2 (some 34) M20_3 fun K hK => ?_
      refine gS_ Tryz.func39 #[.agg #[.int .i64 t518, .int .i64 0]] ?_
      with_reducible refine (spec_isPlate.calls t518 0 false _ A36.out).mono ?_
      rintro e w55 ⟨rfl, hb⟩
      refine ⟨_, rfl, ?_⟩
      replace BK516 := bB_ (g := gb516) hb
      replace BK519 := bB_ (g := gb519) hb
      replace HB := bT_ hb
      refine hS_ hK fun hHeld => ?_
      clear hK K
      refine nm_ ?_
      refine pu_ 3 35 M20_4 ?_
      refine pure_ (i := 4) (N := some 36) (v := undef) (a' := ?_) M20_12 rfl rfl (any_of HT_.out (by kernel_rfl)) (fun _ _ _ h => h) (Or.inr ⟨by rfl, rfl⟩) ?_ ?_
      rotate_left
      ·simp only [sp_]
       rfl
      refine pure_ (i := 5) (N := some 37) (v := undef) (a' := ?_) M20_13 rfl rfl (any_of HT_.out (by kernel_rfl)) (fun _ _ _ h => h) (Or.inr ⟨by rfl, rfl⟩) ?_ ?_
      rotate_left
      ·simp only [sp_]
       rfl
      refine pure_ (i := 6) (N := some 38) (v := undef) (a' := ?_) M20_7 rfl rfl (any_of HT_.out (by kernel_rfl)) (fun _ _ _ h => h) (Or.inr ⟨by rfl, rfl⟩) ?_ ?_
      rotate_left
      ·simp only [sp_]
       rfl
      refine pure_ (i := 7) (N := some 39) (v := undef) (a' := ?_) M20_8 rfl rfl (any_of HT_.out (by kernel_rfl)) (fun _ _ _ h => h) (Or.inr ⟨by rfl, rfl⟩) ?_ ?_
      rotate_left
      ·simp only [sp_]
       rfl
      refine pu_ 8 40 M20_9 ?_
      refine on_ 9 none M20_10 fun K hK => ?_
      have hs56 : w55.cell? ⟨gb516, 0, none⟩ = some (.int .i64 0) := (blk_cell BK516.out 0).trans rfl
      have hfs56 := blk_frozen BK516.out 0
      have hns56_1 := NB519_516.out
      have hms56_1 := NB516_519.out
      have hs57 : w55.cell? ⟨gb516, 1, none⟩ = some (.int .i64 0) := (blk_cell BK516.out 1).trans rfl
      have hfs57 := blk_frozen BK516.out 1
      have hns57_1 := NB519_516.out
      have hms57_1 := NB516_519.out
      refine skip_ (w1 := ?_) (by rfl) rfl ?_ ?_
      rotate_left
      ·go_simp
       rfl
      refine hK.out _ _ ⟨((cell_far (p := ⟨gb516, _, none⟩) NB519_516.out _).trans (((cell_far (p := ⟨gb516, _, none⟩) NB519_516.out _).trans (hHeld.1)))), ((cell_far (p := ⟨gb516, _, none⟩) NB519_516.out _).trans (((cell_far (p := ⟨gb516, _, none⟩) NB519_516.out _).trans (hHeld.2))))⟩ (fun hHeld => ?_)
      clear hK K
      refine pu_ 10 3 M20_11 ?_
      refine done_ (done_of HT_.out (by kernel_rfl)) ?_
      try go_wp2
      refine bodyPost_ret (results_ct rfl _ _ gb516 25 #[.int .i64 t518, .int .i64 0] (0, 0) _ rfl (by refine blk_put (cs := #[.int .i64 t518, .int .i64 0]) ?_ 1 _ rfl; refine blk_put (cs := #[.int .i64 0, .int .i64 0]) ?_ 0 _ rfl; exact BK516.out) Tryz.underlying25 rfl (by kernel_rfl)) rfl ?_
      exact ⟨by first | rfl | (simp [errW_none, errW_some] <;> rfl) | (simp only [← hji5]; first | rfl | (simp [errW_none, errW_some] <;> rfl)) | (simp [*, errW_none, errW_some] <;> rfl), bO_⟩
   ·rw [if_neg c7] at H
    exact absurd H (by simp)
  ·rw [if_neg c6] at H
   exact absurd H (by simp)
 ·replace c3 := Bool.eq_false_iff.mpr c3
  subst c3
  rw [if_neg (show ¬ (false = true) by decide)] at H
  simp only [Option.some.injEq, Prod.mk.injEq] at H
  obtain ⟨rfl, rfl, rfl⟩ := H
  go_enter Tryz.func58, Tryz.ntmps58
  go_wp2_with (first | (refine bx_ 2 #[.int .i64 0, .int .i64 0] 25 ?_; intro gb516 hg w58 BK516 hb; have GW516 := gW_ (w := w) hg; replace HB := bT_ hb; clear hb hg) | (refine gL_ Tryz.func61 (some 8) #[.int .i64 (a0.size : Int), .int .i64 1, .int .i64 5] ?_; (with_reducible refine (spec_l1In.calls (a0.size : Int) 1 5 false _ A2.out).mono ?_); rintro e w' ⟨rfl, ⟨nd, rfl⟩⟩; refine ⟨_, rfl, ?_⟩; (try (rw [drewN_self w58]; generalize hq_ : World.drewN w58 _ = w58; have n0_ : Aside0 (w58.heap[gb516]? = some (.cells #[.int .i64 0, .int .i64 0] 25 (0, 0))) := ⟨by rw [← hq_]; exact aO_⟩; have n1_ : Aside0 (Below w.heap.size w w58) := ⟨by rw [← hq_]; exact bO_⟩; clear BK516 HB hq_; have BK516 := n0_; have HB := n1_; clear n0_ n1_)); have hcz59_0 : w58.cell? ⟨gb516, 0, none⟩ = some (.int .i64 0) := (blk_cell BK516.out 0).trans rfl; have hcz59_1 : w58.cell? ⟨gb516, 1, none⟩ = some (.int .i64 0) := (blk_cell BK516.out 1).trans rfl; have hfz59_0 := blk_frozen BK516.out 0; have hfz59_1 := blk_frozen BK516.out 1))
  refine bodyPost_ret (results_ct rfl _ _ gb516 25 #[.int .i64 0, .int .i64 0] (0, 0) _ rfl (by refine blk_put (cs := #[.int .i64 0, .int .i64 0]) ?_ 1 _ rfl; refine blk_put (cs := #[.int .i64 0, .int .i64 0]) ?_ 0 _ rfl; exact BK516.out) Tryz.underlying25 rfl (by kernel_rfl)) rfl ?_
  exact ⟨rfl, bO_⟩

end Go.Proofs.YtbnhfipcjbnknaaGreatDoor.PFnPlatesOrder
