/- Functions that the law FnPlatesOrder reaches, each as a Lean function, and that the Go code comes to just these answers (written by programs). -/
import Derived.Test.YtbnhfipcjbnknaaGreatDoorPFnPlatesOrderv
import Derived.Test.YtbnhfipcjbnknaaGreatDoorShelf
import Derived.Lib.AppendIntMem
import Derived.Lib.AtoiAllCases
import Derived.Test.YtbnhfipcjbnknaaGreatDoorPFnPlatesOrderx0
import Derived.Test.YtbnhfipcjbnknaaGreatDoorPFnPlatesOrderx2
namespace Go.Proofs.YtbnhfipcjbnknaaGreatDoor.PFnPlatesOrder
open Go.RowKit Go.Proofs.YtbnhfipcjbnknaaGreatDoorW.PrintWords Go.Proofs.YtbnhfipcjbnknaaGreatDoorW.PrintLast Go.Proofs.YtbnhfipcjbnknaaGreatDoorW.PrintMore
attribute [local go_sem] max2_int min2_int max_two min_two max_three min_three max_four min_four   -- for this text's walks alone
set_option linter.unusedVariables false
set_option linter.unusedSimpArgs false

-- NOT PRINTED: function 113 (strconv_ParseUint)

-- NOT PRINTED: function 98 (strconv_ParseInt)

-- NOT PRINTED: function 86 (strconv_Atoi_86)

-- NOT PRINTED: function 114 (stringslite_Clone)

-- NOT PRINTED: function 99 (strconv_syntaxError)

-- NOT PRINTED: function 100 (strconv_rangeError)

-- NOT PRINTED: function 115 (errors_New)

-- NOT PRINTED: function 101 (strconv_baseError)

-- NOT PRINTED: function 102 (strconv_bitSizeError)

-- NOT PRINTED: function 87 (strconv_toError)

-- NOT PRINTED: function 77 (strconv_Atoi_77)

/-! ### impl_readNumber: function 66 (given by hand) -/
def impl_readNumber.f (a0 : ByteArray) : Option (Int × Bool) := if a0.size ≤ 281474976710656 then some (match Lib.atoiAll a0.data.toList with | .ok v => if Lib.itoa v = a0.data.toList then (v, true) else (0, false) | _ => (0, false)) else none
set_option maxHeartbeats 4000000 in
set_option maxRecDepth 100000 in
theorem impl_readNumber.calls (a0 : ByteArray) (r1 : Int) (r2 : Bool) (w : World) (h : impl_readNumber.f a0 = some (r1, r2)) (hV : VarsOK w) :
  Calls Tryz.prog 66 #[.string a0] w fun e w' => e = .returned (.tuple #[.int .i64 r1, .bool r2]) ∧ Below w.heap.size w w' := by
 unfold impl_readNumber.f at h
 have HV := Aside0.mk hV
 clear hV
 by_cases c : a0.size ≤ 281474976710656
 ·rw [if_pos c] at h
  cases hA : Lib.atoiAll a0.data.toList with
  | ok v =>
   rw [hA] at h
   have HA := Aside0.mk hA
   clear hA
   have HI := Aside0.mk (Lib.atoiAll_bounds HA.out)
   by_cases q : Lib.itoa v = a0.data.toList
   ·simp only [q, if_true, Option.some.injEq, Prod.mk.injEq] at h
    obtain ⟨rfl, rfl⟩ := h
    have hq : (⟨(Lib.itoa v).toArray⟩ : ByteArray) = a0 := by rw [q]
    clear q
    have HQ := Aside0.mk hq
    clear hq
    go_enter Tryz.func66, Tryz.ntmps66
    go_wp2_with (first | (go_at_call 77; refine (Tryz.strconv_Atoi_ok a0 (by omega) v HA.out w).mono ?_; rintro e w1 ⟨rfl, hw1⟩; have HB := Aside0.mk (show Below w.heap.size w w1 by rcases hw1 with rfl | ⟨t, rfl⟩; exact Below.refl _ _; exact Joins.below_bytesWorld _ _ _ _ (Nat.le_refl _)); clear hw1) | (go_at_call 63; refine (Tryz.strconv_Itoa v HI.out.1 HI.out.2 _ (VarsOK.below HV.out HB.out).tab).mono ?_; rintro e w2 ⟨rfl, k2, os2, hw2⟩; rw [HQ.out]; have HB2 := Aside0.mk (below_step HB.out (show Below _ _ w2 by rw [hw2]; exact Lib.below_grow _ _ (Nat.le_refl _) k2 os2)); clear hw2))
    go_ret2
    exact ⟨rfl, HB2.out⟩
   ·simp only [q, if_false, Option.some.injEq, Prod.mk.injEq] at h
    obtain ⟨rfl, rfl⟩ := h
    obtain ⟨t, ht⟩ : ∃ t : ByteArray, t = ⟨(Lib.itoa v).toArray⟩ := ⟨_, rfl⟩
    have hq : ¬ t = a0 := fun e => q (by rw [← e, ht])
    have q3 : ¬ t.toList = a0.toList := fun e => hq (ByteArray.ext (by simpa [ByteArray.toList_eq] using e))
    have q1 : (t.toList == a0.toList) = false := beq_eq_false_iff_ne.mpr q3
    have HT := Aside0.mk ht
    clear q ht
    go_enter Tryz.func66, Tryz.ntmps66
    go_wp2_with (first | (go_at_call 77; refine (Tryz.strconv_Atoi_ok a0 (by omega) v HA.out w).mono ?_; rintro e w1 ⟨rfl, hw1⟩; have HB := Aside0.mk (show Below w.heap.size w w1 by rcases hw1 with rfl | ⟨t, rfl⟩; exact Below.refl _ _; exact Joins.below_bytesWorld _ _ _ _ (Nat.le_refl _)); clear hw1) | (go_at_call 63; refine (Tryz.strconv_Itoa v HI.out.1 HI.out.2 _ (VarsOK.below HV.out HB.out).tab).mono ?_; rintro e w2 ⟨rfl, k2, os2, hw2⟩; rw [← HT.out]; have HB2 := Aside0.mk (below_step HB.out (show Below _ _ w2 by rw [hw2]; exact Lib.below_grow _ _ (Nat.le_refl _) k2 os2)); clear hw2))
    go_ret2
    exact ⟨rfl, HB2.out⟩
  | range =>
   rw [hA] at h
   simp only [Option.some.injEq, Prod.mk.injEq] at h
   obtain ⟨rfl, rfl⟩ := h
   obtain ⟨tp, p, hv⟩ := HV.out.rng
   have HA := Aside0.mk hA
   have HE := Aside0.mk hv
   clear hA hv
   go_enter Tryz.func66, Tryz.ntmps66
   go_wp2_with (go_at_call 77; refine (Tryz.strconv_Atoi_range_var a0 c HA.out tp p w HE.out).mono ?_; rintro e w1 ⟨nb, rfl, hnb, hnc, hw1⟩; have HB := Aside0.mk hw1; clear hw1 hnc)
   go_ret2
   exact ⟨rfl, HB.out⟩
  | _ =>
   rw [hA] at h
   simp only [Option.some.injEq, Prod.mk.injEq] at h
   obtain ⟨rfl, rfl⟩ := h
   obtain ⟨tp, p, hv⟩ := HV.out.syn
   have HA := Aside0.mk hA
   have HE := Aside0.mk hv
   clear hA hv
   go_enter Tryz.func66, Tryz.ntmps66
   go_wp2_with (go_at_call 77; refine (Any.strconv_Atoi_syntax_var Tryz.laysC172 a0 c HA.out tp p w HE.out).mono ?_; rintro e w1 ⟨nb, rfl, hnb, hnc, hw1⟩; have HB := Aside0.mk hw1; clear hw1 hnc)
   go_ret2
   exact ⟨rfl, HB.out⟩
 ·rw [if_neg c] at h
  cases h

/-! ### impl_parsePlate: function 48 -/
mutual
def impl_parsePlate.j0 : Nat → ByteArray → Int → Bool → Int → Int → Option (Int × Int × Bool)
 | 0, _, _, _, _, _ => none
 | k + 1, x0, x5, x21, x324000, x324001 => if x21 = true then (if 0 ≤ (wrap64 ((x0.size : Int) - 1)) then (if (wrap64 ((x0.size : Int) - 1)) ≤ (x0.size : Int) then (impl_parsePlate.j1 k (x0.extract 0 ((wrap64 ((x0.size : Int) - 1)) : Int).toNat) x324000 (((x5 - 97) % 256) + 1)) else (none)) else (none)) else (impl_parsePlate.j1 k x0 x324000 x324001)
def impl_parsePlate.j1 : Nat → ByteArray → Int → Int → Option (Int × Int × Bool)
 | 0, _, _, _ => none
 | k + 1, x0, x324000, x324001 => (impl_readNumber.f x0).bind fun bt324 => (if bt324.2 = true then ((impl_IsPlate.f bt324.1 x324001).bind fun t326 => (if t326 = true then (some (bt324.1, x324001, true)) else (some (0, 0, false)))) else (some (0, 0, false)))
end
def impl_parsePlate.f (k : Nat) (a0 : ByteArray) : Option (Int × Int × Bool) := if a0.toList = ([] : List UInt8) then (some (0, 0, false)) else (if 0 ≤ (wrap64 ((a0.size : Int) - 1)) then (if (wrap64 ((a0.size : Int) - 1)) < (a0.size : Int) then (if (bt a0 (wrap64 ((a0.size : Int) - 1))) ≥ 97 then (impl_parsePlate.j0 k a0 (bt a0 (wrap64 ((a0.size : Int) - 1))) (decide ((bt a0 (wrap64 ((a0.size : Int) - 1))) ≤ 122)) 0 0) else (impl_parsePlate.j0 k a0 (bt a0 (wrap64 ((a0.size : Int) - 1))) false 0 0)) else (none)) else (none))
set_option maxHeartbeats 8000000 in
set_option maxRecDepth 100000 in
theorem impl_parsePlate.calls (k : Nat) (a0 : ByteArray) (r1 : Int) (r2 : Int) (r3 : Bool) (w : World) (h : impl_parsePlate.f k a0 = some (r1, r2, r3)) (hV : VarsOK w) :
  Calls Tryz.prog 48 #[.string a0] w fun e w' => e = .returned (.tuple #[.agg #[.int .i64 r1, .int .i64 r2], .bool r3]) ∧ Below w.heap.size w w' := by
 have HV := Aside0.mk hV
 clear hV
 have hu25 := Tryz.underlying25
 have HB := Aside0.mk (Below.refl w.heap.size w)
 have H : (if a0.toList = ([] : List UInt8) then (some (0, 0, false)) else (if 0 ≤ (wrap64 ((a0.size : Int) - 1)) then (if (wrap64 ((a0.size : Int) - 1)) < (a0.size : Int) then (if (bt a0 (wrap64 ((a0.size : Int) - 1))) ≥ 97 then (impl_parsePlate.j0 k a0 (bt a0 (wrap64 ((a0.size : Int) - 1))) (decide ((bt a0 (wrap64 ((a0.size : Int) - 1))) ≤ 122)) 0 0) else (impl_parsePlate.j0 k a0 (bt a0 (wrap64 ((a0.size : Int) - 1))) false 0 0)) else (none)) else (none))) = some (r1, r2, r3) := h
 clear h
 by_cases c2 : a0.toList = ([] : List UInt8)
 ·rw [if_pos c2] at H
  have c2b0 : (a0.toList == ([] : List UInt8)) = true := beq_iff_eq.mpr c2
  have c2b1 : (a0.toList != ([] : List UInt8)) = false := bne_eq_false_iff_eq.mpr c2
  clear c2
  simp only [Option.some.injEq, Prod.mk.injEq] at H
  obtain ⟨rfl, rfl, rfl⟩ := H
  go_enter Tryz.func48, Tryz.ntmps48
  go_wp2_with (first | (refine bx_ 2 #[.int .i64 0, .int .i64 0] 25 ?_; intro gb322 hg w3 BK322 hb; have GW322 := gW_ (w := w) hg; replace HB := bT_ hb; clear hb hg; have hcz4_0 : w3.cell? ⟨gb322, 0, none⟩ = some (.int .i64 0) := (blk_cell BK322.out 0).trans rfl; have hcz4_1 : w3.cell? ⟨gb322, 1, none⟩ = some (.int .i64 0) := (blk_cell BK322.out 1).trans rfl; have hfz4_0 := blk_frozen BK322.out 0; have hfz4_1 := blk_frozen BK322.out 1))
  refine bodyPost_ret (results_ct rfl _ _ gb322 25 #[.int .i64 0, .int .i64 0] (0, 0) _ rfl (by refine blk_put (cs := #[.int .i64 0, .int .i64 0]) ?_ 1 _ rfl; refine blk_put (cs := #[.int .i64 0, .int .i64 0]) ?_ 0 _ rfl; exact BK322.out) Tryz.underlying25 rfl (by kernel_rfl)) rfl ?_
  exact ⟨rfl, bO_⟩
 ·rw [if_neg c2] at H
  have c2b0 : (a0.toList == ([] : List UInt8)) = false := beq_eq_false_iff_ne.mpr c2
  have c2b1 : (a0.toList != ([] : List UInt8)) = true := bne_iff_ne.mpr c2
  obtain ⟨ji5, hji5⟩ : ∃ j_ : Int, (wrap64 ((a0.size : Int) - 1)) = j_ := ⟨_, rfl⟩
  replace H : (if 0 ≤ (ji5) then (if (ji5) < (a0.size : Int) then (if (bt a0 (ji5)) ≥ 97 then (impl_parsePlate.j0 k a0 (bt a0 (ji5)) (decide ((bt a0 (ji5)) ≤ 122)) 0 0) else (impl_parsePlate.j0 k a0 (bt a0 (ji5)) false 0 0)) else (none)) else (none)) = some (r1, r2, r3) := by first | (rw [hji5] at H; exact H) | (simp only [hji5] at H ⊢; exact H)
  have hji5w : (IntKind.i64.wrap ((a0.size : Int) - 1)) = ji5 := (i64_w _).trans hji5
  by_cases c6 : 0 ≤ (ji5)
  ·rw [if_pos c6] at H
   have c6b0 : decide (0 ≤ (ji5)) = true := decide_eq_true c6
   clear c6
   by_cases c7 : (ji5) < (a0.size : Int)
   ·rw [if_pos c7] at H
    have c7b0 : decide ((ji5) < (a0.size : Int)) = true := decide_eq_true c7
    clear c7
    have HC9 := Aside0.mk H
    clear H
    go_enter Tryz.func48, Tryz.ntmps48
    go_upto_region 5 with (first | (refine bx_ 2 #[.int .i64 0, .int .i64 0] 25 ?_; intro gb322 hg w10 BK322 hb; have GW322 := gW_ (w := w) hg; replace HB := bT_ hb; clear hb hg) | (refine bx_ 4 #[.int .i64 0, .int .i64 0] 25 ?_; intro gb323 hg w11 BK323 hb; have GW323 := gW_ (w := w) hg; replace HB := bT_ hb; have NB322_323 := Aside0.mk ((by rw [hg]; exact Nat.ne_of_lt (blk_lt (g := gb322) aO_) : gb322 ≠ gb323)); have NB323_322 := Aside0.mk ((by rw [hg]; exact Nat.ne_of_gt (blk_lt (g := gb322) aO_) : gb323 ≠ gb322)); replace BK322 := bB_ (g := gb322) hb; clear hb hg; have p8 : 0 ≤ ((ji5) : Int) := of_decide_eq_true (by assumption); have q8 : (ji5) < (a0.size : Int) := of_decide_eq_true (by assumption); have hx8 := bt_at a0 (ji5); replace p8 := eq_true p8; replace q8 := eq_true q8))
    (try simp only [sp_])
    go_cut [21] (fun v21 wc => ∃ (kq : Nat) (x21_8 : Bool), v21 = .bool x21_8 ∧ Aside0 (impl_parsePlate.j0 kq a0 (bt a0 (ji5)) x21_8 0 0 = some (r1, r2, r3)) ∧ Aside0 (kq ≤ k) ∧ Aside0 (wc.heap[gb322]? = some (.cells #[.int .i64 0, .int .i64 0] 25 (0, 0))) ∧ Aside0 (wc.heap[gb323]? = some (.cells #[.int .i64 0, .int .i64 0] 25 (0, 0))) ∧ Aside0 (Below w.heap.size w wc))
    case first =>
     have H := HC9.out
     clear HC9
     by_cases c12 : (bt a0 (ji5)) ≥ 97
     ·rw [if_pos c12] at H
      have c12b0 : decide (97 ≤ (bt a0 (ji5))) = true := decide_eq_true c12
      clear c12
      (first | rw [c12b0] | (simp only [i64_w, i32_w]; rw [c12b0]) | skip)
      have H' := Aside0.mk H
      clear H
      go_wp2
      go_meet
      case rel => exact ⟨_, (decide ((bt a0 (ji5)) ≤ 122)), (by first | rfl | (simp; done) | (simp only [← hji5] <;> (first | rfl | simp)) | (simp [*]; done)), H', ⟨by first | omega | exact Nat.le_refl _⟩, ⟨by exact BK322.out⟩, ⟨by exact BK323.out⟩, ⟨bO_⟩⟩
     ·rw [if_neg c12] at H
      have c12b0 : decide (97 ≤ (bt a0 (ji5))) = false := decide_eq_false c12
      clear c12
      (first | rw [c12b0] | (simp only [i64_w, i32_w]; rw [c12b0]) | skip)
      have H' := Aside0.mk H
      clear H
      go_wp2
      go_meet
      case rel => exact ⟨_, (false), rfl, H', ⟨by first | omega | exact Nat.le_refl _⟩, ⟨by exact BK322.out⟩, ⟨by exact BK323.out⟩, ⟨bO_⟩⟩
    case rest =>
     clear HC9
     try clear c1
     try clear c2
     try clear c2b0
     try clear c2b1
     try clear p2
     try clear c4
     try clear c6
     try clear c6b0
     try clear p6
     try clear c7
     try clear c7b0
     try clear p8
     try clear q8
     try clear hx8
     try clear c12
     try clear c12b0
     try clear hcz4_0
     try clear hcz4_1
     try clear hfz4_0
     try clear hfz4_1
     try clear p8
     try clear q8
     obtain ⟨kq, x21_8, rfl, HA, HJ8, BK322, BK323, HB⟩ := hcut
     cases kq with
     | zero => exact absurd HA.out (by simp [impl_parsePlate.j0])
     | succ kj8 =>
      have H := HA.out
      clear HA
      simp only [impl_parsePlate.j0] at H
      have HC13 := Aside0.mk H
      clear H
      go_upto_if 21 with (fail)
      go_cut [0] (fun v0 wc => ∃ (kq : Nat) (x0_12 : ByteArray) (x324001_12 : Int), v0 = .string x0_12 ∧ Aside0 (impl_parsePlate.j1 kq x0_12 0 x324001_12 = some (r1, r2, r3)) ∧ Aside0 (kq ≤ kj8) ∧ Aside0 (wc.heap[gb322]? = some (.cells #[.int .i64 0, .int .i64 0] 25 (0, 0))) ∧ Aside0 (wc.heap[gb323]? = some (.cells #[.int .i64 0, .int .i64 x324001_12] 25 (0, 0))) ∧ Aside0 (Below w.heap.size w wc))
      case first =>
       have H := HC13.out
       clear HC13
       by_cases c14 : x21_8 = true
       ·subst c14
        rw [if_pos rfl] at H
        replace H : (if 0 ≤ (ji5) then (if (ji5) ≤ (a0.size : Int) then (impl_parsePlate.j1 kj8 (a0.extract 0 ((ji5) : Int).toNat) 0 ((((bt a0 (ji5)) - 97) % 256) + 1)) else (none)) else (none)) = some (r1, r2, r3) := by first | (rw [hji5] at H; exact H) | (simp only [hji5] at H ⊢; exact H)
        have hji5w : (IntKind.i64.wrap ((a0.size : Int) - 1)) = ji5 := (i64_w _).trans hji5
        by_cases c16 : 0 ≤ (ji5)
        ·rw [if_pos c16] at H
         have c16b0 := eq_true c16
         have c16b1 : decide (0 ≤ (ji5)) = true := decide_eq_true c16
         clear c16
         by_cases c17 : (ji5) ≤ (a0.size : Int)
         ·rw [if_pos c17] at H
          have c17b0 := eq_true c17
          have c17b1 : decide ((ji5) ≤ (a0.size : Int)) = true := decide_eq_true c17
          clear c17
          have H' := Aside0.mk H
          clear H
          have hnb18 := NB323_322.out
          have hnc18 := NB322_323.out
          have hcz19_0 : wc.cell? ⟨gb323, 0, none⟩ = some (.int .i64 0) := (blk_cell BK323.out 0).trans rfl
          have hcz19_1 : wc.cell? ⟨gb323, 1, none⟩ = some (.int .i64 0) := (blk_cell BK323.out 1).trans rfl
          have hfz19_0 := blk_frozen BK323.out 0
          have hfz19_1 := blk_frozen BK323.out 1
          go_wp2
          go_meet
          case rel => exact ⟨_, (a0.extract 0 ((ji5) : Int).toNat), ((((bt a0 (ji5)) - 97) % 256) + 1), (by first | rfl | (simp; done) | (simp only [← hji5] <;> (first | rfl | simp)) | (simp [*]; done)), H', ⟨by have := HJ8.out; first | omega | exact Nat.le_refl _⟩, ⟨by refine blk_far ?_ NB322_323.out _; exact BK322.out⟩, ⟨by refine blk_put (cs := #[.int .i64 0, .int .i64 0]) ?_ 1 _ rfl; exact BK323.out⟩, ⟨bO_⟩⟩
         ·rw [if_neg c17] at H
          exact absurd H (by simp)
        ·rw [if_neg c16] at H
         exact absurd H (by simp)
       ·replace c14 := Bool.eq_false_iff.mpr c14
        subst c14
        rw [if_neg (show ¬ (false = true) by decide)] at H
        have H' := Aside0.mk H
        clear H
        go_wp2
        go_meet
        case rel => exact ⟨_, (a0), (0), rfl, H', ⟨by have := HJ8.out; first | omega | exact Nat.le_refl _⟩, ⟨by exact BK322.out⟩, ⟨by exact BK323.out⟩, ⟨bO_⟩⟩
      case rest =>
       clear HC13
       try clear c1
       try clear c2
       try clear c2b0
       try clear c2b1
       try clear p2
       try clear c4
       try clear c6
       try clear c6b0
       try clear p6
       try clear c7
       try clear c7b0
       try clear p8
       try clear q8
       try clear hx8
       try clear c12
       try clear c12b0
       try clear c14
       try clear c16
       try clear c16b0
       try clear c16b1
       try clear c17
       try clear c17b0
       try clear c17b1
       try clear c18
       try clear hcz19_0
       try clear hcz19_1
       try clear hcz4_0
       try clear hcz4_1
       try clear hfz19_0
       try clear hfz19_1
       try clear hfz4_0
       try clear hfz4_1
       try clear p2
       try clear p6
       try clear p8
       try clear q8
       obtain ⟨kq, x0_12, x324001_12, rfl, HA, HJ12, BK322, BK323, HB⟩ := hcut
       cases kq with
       | zero => exact absurd HA.out (by simp [impl_parsePlate.j1])
       | succ kj12 =>
        have H := HA.out
        clear HA
        simp only [impl_parsePlate.j1] at H
        obtain ⟨⟨t324, t325⟩, A20, H⟩ := obA H
        dsimp only at H
        by_cases c21 : t325 = true
        ·subst c21
         rw [if_pos rfl] at H
         obtain ⟨t326, A22, H⟩ := obA H
         by_cases c23 : t326 = true
         ·subst c23
          rw [if_pos rfl] at H
          simp only [Option.some.injEq, Prod.mk.injEq] at H
          obtain ⟨rfl, rfl, rfl⟩ := H
          go_wp2_with (first | (refine gL_ Tryz.func66 (some 34) #[.string x0_12] ?_; (with_reducible refine (impl_readNumber.calls x0_12 t324 true _ A20.out ?sideV).mono ?_); (case sideV => first | (with_reducible exact HV.out) | exact VarsOK.below HV.out bO_); rintro e w24 ⟨rfl, hb⟩; refine ⟨_, rfl, ?_⟩; replace BK322 := bB_ (g := gb322) hb; replace BK323 := bB_ (g := gb323) hb; replace HB := bT_ hb; have hnb25 := NB323_322.out; have hnc25 := NB322_323.out; have hcz26_0 : w24.cell? ⟨gb323, 0, none⟩ = some (.int .i64 0) := (blk_cell BK323.out 0).trans rfl; have hcz26_1 : w24.cell? ⟨gb323, 1, none⟩ = some (.int .i64 x324001_12) := (blk_cell BK323.out 1).trans rfl; have hfz26_0 := blk_frozen BK323.out 0; have hfz26_1 := blk_frozen BK323.out 1) | (go_at_call 16; (with_reducible refine (impl_IsPlate.calls t324 x324001_12 true _ A22.out).mono ?_); rintro e w27 ⟨rfl, hb⟩; replace BK322 := Aside0.mk (blk_below (g := gb322) (o := .cells #[.int .i64 0, .int .i64 0] 25 (0, 0)) (by refine blk_far ?_ NB322_323.out _; exact BK322.out) hb); replace BK323 := Aside0.mk (blk_below (g := gb323) (o := .cells #[.int .i64 t324, .int .i64 x324001_12] 25 (0, 0)) (by refine blk_put (cs := #[.int .i64 0, .int .i64 x324001_12]) ?_ 0 _ rfl; exact BK323.out) hb); replace HB := bT_ hb; have hcz28_0 : w27.cell? ⟨gb323, 0, none⟩ = some (.int .i64 t324) := (blk_cell BK323.out 0).trans rfl; have hcz28_1 : w27.cell? ⟨gb323, 1, none⟩ = some (.int .i64 x324001_12) := (blk_cell BK323.out 1).trans rfl; have hfz28_0 := blk_frozen BK323.out 0; have hfz28_1 := blk_frozen BK323.out 1; have hcz29_0 : w27.cell? ⟨gb322, 0, none⟩ = some (.int .i64 0) := (blk_cell BK322.out 0).trans rfl; have hcz29_1 : w27.cell? ⟨gb322, 1, none⟩ = some (.int .i64 0) := (blk_cell BK322.out 1).trans rfl; have hfz29_0 := blk_frozen BK322.out 0; have hfz29_1 := blk_frozen BK322.out 1))
          refine bodyPost_ret (results_ct rfl _ _ gb322 25 #[.int .i64 t324, .int .i64 x324001_12] (0, 0) _ rfl (by refine blk_put (cs := #[.int .i64 t324, .int .i64 0]) ?_ 1 _ rfl; refine blk_put (cs := #[.int .i64 0, .int .i64 0]) ?_ 0 _ rfl; exact BK322.out) Tryz.underlying25 rfl (by kernel_rfl)) rfl ?_
          exact ⟨by first | rfl | (simp [errW_none, errW_some] <;> rfl) | (simp only [← hji5]; first | rfl | (simp [errW_none, errW_some] <;> rfl)) | (simp [*, errW_none, errW_some] <;> rfl), bO_⟩
         ·replace c23 := Bool.eq_false_iff.mpr c23
          subst c23
          rw [if_neg (show ¬ (false = true) by decide)] at H
          simp only [Option.some.injEq, Prod.mk.injEq] at H
          obtain ⟨rfl, rfl, rfl⟩ := H
          go_wp2_with (first | (refine gL_ Tryz.func66 (some 34) #[.string x0_12] ?_; (with_reducible refine (impl_readNumber.calls x0_12 t324 true _ A20.out ?sideV).mono ?_); (case sideV => first | (with_reducible exact HV.out) | exact VarsOK.below HV.out bO_); rintro e w30 ⟨rfl, hb⟩; refine ⟨_, rfl, ?_⟩; replace BK322 := bB_ (g := gb322) hb; replace BK323 := bB_ (g := gb323) hb; replace HB := bT_ hb; have hnb31 := NB323_322.out; have hnc31 := NB322_323.out; have hcz32_0 : w30.cell? ⟨gb323, 0, none⟩ = some (.int .i64 0) := (blk_cell BK323.out 0).trans rfl; have hcz32_1 : w30.cell? ⟨gb323, 1, none⟩ = some (.int .i64 x324001_12) := (blk_cell BK323.out 1).trans rfl; have hfz32_0 := blk_frozen BK323.out 0; have hfz32_1 := blk_frozen BK323.out 1) | (go_at_call 16; (with_reducible refine (impl_IsPlate.calls t324 x324001_12 false _ A22.out).mono ?_); rintro e w33 ⟨rfl, hb⟩; replace BK322 := Aside0.mk (blk_below (g := gb322) (o := .cells #[.int .i64 0, .int .i64 0] 25 (0, 0)) (by refine blk_far ?_ NB322_323.out _; exact BK322.out) hb); replace BK323 := Aside0.mk (blk_below (g := gb323) (o := .cells #[.int .i64 t324, .int .i64 x324001_12] 25 (0, 0)) (by refine blk_put (cs := #[.int .i64 0, .int .i64 x324001_12]) ?_ 0 _ rfl; exact BK323.out) hb); replace HB := bT_ hb; have hcz34_0 : w33.cell? ⟨gb322, 0, none⟩ = some (.int .i64 0) := (blk_cell BK322.out 0).trans rfl; have hcz34_1 : w33.cell? ⟨gb322, 1, none⟩ = some (.int .i64 0) := (blk_cell BK322.out 1).trans rfl; have hfz34_0 := blk_frozen BK322.out 0; have hfz34_1 := blk_frozen BK322.out 1))
          refine bodyPost_ret (results_ct rfl _ _ gb322 25 #[.int .i64 0, .int .i64 0] (0, 0) _ rfl (by refine blk_put (cs := #[.int .i64 0, .int .i64 0]) ?_ 1 _ rfl; refine blk_put (cs := #[.int .i64 0, .int .i64 0]) ?_ 0 _ rfl; exact BK322.out) Tryz.underlying25 rfl (by kernel_rfl)) rfl ?_
          exact ⟨by first | rfl | (simp [errW_none, errW_some] <;> rfl) | (simp only [← hji5]; first | rfl | (simp [errW_none, errW_some] <;> rfl)) | (simp [*, errW_none, errW_some] <;> rfl), bO_⟩
        ·replace c21 := Bool.eq_false_iff.mpr c21
         subst c21
         rw [if_neg (show ¬ (false = true) by decide)] at H
         simp only [Option.some.injEq, Prod.mk.injEq] at H
         obtain ⟨rfl, rfl, rfl⟩ := H
         go_wp2_with (first | (refine gL_ Tryz.func66 (some 34) #[.string x0_12] ?_; (with_reducible refine (impl_readNumber.calls x0_12 t324 false _ A20.out ?sideV).mono ?_); (case sideV => first | (with_reducible exact HV.out) | exact VarsOK.below HV.out bO_); rintro e w35 ⟨rfl, hb⟩; refine ⟨_, rfl, ?_⟩; replace BK322 := bB_ (g := gb322) hb; replace BK323 := bB_ (g := gb323) hb; replace HB := bT_ hb; have hnb36 := NB323_322.out; have hnc36 := NB322_323.out; have hcz37_0 : w35.cell? ⟨gb323, 0, none⟩ = some (.int .i64 0) := (blk_cell BK323.out 0).trans rfl; have hcz37_1 : w35.cell? ⟨gb323, 1, none⟩ = some (.int .i64 x324001_12) := (blk_cell BK323.out 1).trans rfl; have hfz37_0 := blk_frozen BK323.out 0; have hfz37_1 := blk_frozen BK323.out 1; have hcz38_0 : w35.cell? ⟨gb322, 0, none⟩ = some (.int .i64 0) := (blk_cell BK322.out 0).trans rfl; have hcz38_1 : w35.cell? ⟨gb322, 1, none⟩ = some (.int .i64 0) := (blk_cell BK322.out 1).trans rfl; have hfz38_0 := blk_frozen BK322.out 0; have hfz38_1 := blk_frozen BK322.out 1))
         refine bodyPost_ret (results_ct rfl _ _ gb322 25 #[.int .i64 0, .int .i64 0] (0, 0) _ rfl (by refine blk_put (cs := #[.int .i64 0, .int .i64 0]) ?_ 1 _ rfl; refine blk_put (cs := #[.int .i64 0, .int .i64 0]) ?_ 0 _ rfl; refine blk_far ?_ NB322_323.out _; exact BK322.out) Tryz.underlying25 rfl (by kernel_rfl)) rfl ?_
         exact ⟨by first | rfl | (simp [errW_none, errW_some] <;> rfl) | (simp only [← hji5]; first | rfl | (simp [errW_none, errW_some] <;> rfl)) | (simp [*, errW_none, errW_some] <;> rfl), bO_⟩
   ·rw [if_neg c7] at H
    exact absurd H (by simp)
  ·rw [if_neg c6] at H
   exact absurd H (by simp)

/-! ### impl_ParsePlate: function 18 -/
def impl_ParsePlate.f (k : Nat) (a0 : ByteArray) : Option (Int × Int × Bool) := (impl_parsePlate.f k a0).bind fun bt328 => (some (bt328.1, bt328.2.1, bt328.2.2))
set_option maxHeartbeats 8000000 in
set_option maxRecDepth 100000 in
theorem impl_ParsePlate.calls (k : Nat) (a0 : ByteArray) (r1 : Int) (r2 : Int) (r3 : Bool) (w : World) (h : impl_ParsePlate.f k a0 = some (r1, r2, r3)) (hV : VarsOK w) :
  Calls Tryz.prog 18 #[.string a0] w fun e w' => e = .returned (.tuple #[.agg #[.int .i64 r1, .int .i64 r2], .bool r3]) ∧ Below w.heap.size w w' := by
 have HV := Aside0.mk hV
 clear hV
 have hu25 := Tryz.underlying25
 have HB := Aside0.mk (Below.refl w.heap.size w)
 have H : ((impl_parsePlate.f k a0).bind fun bt328 => (some (bt328.1, bt328.2.1, bt328.2.2))) = some (r1, r2, r3) := h
 clear h
 obtain ⟨⟨t328, t329, t330⟩, A2, H⟩ := obA H
 dsimp only at H
 simp only [Option.some.injEq, Prod.mk.injEq] at H
 obtain ⟨rfl, rfl, rfl⟩ := H
 go_enter Tryz.func18, Tryz.ntmps18
 go_wp2_with (first | (refine bx_ 2 #[.int .i64 0, .int .i64 0] 25 ?_; intro gb327 hg w3 BK327 hb; have GW327 := gW_ (w := w) hg; replace HB := bT_ hb; clear hb hg) | (refine gL_ Tryz.func48 (some 5) #[.string a0] ?_; (with_reducible refine (impl_parsePlate.calls k a0 t328 t329 t330 _ A2.out ?sideV).mono ?_); (case sideV => first | (with_reducible exact HV.out) | exact VarsOK.below HV.out bO_); rintro e w4 ⟨rfl, hb⟩; refine ⟨_, rfl, ?_⟩; replace BK327 := bB_ (g := gb327) hb; replace HB := bT_ hb; have hcz5_0 : w4.cell? ⟨gb327, 0, none⟩ = some (.int .i64 0) := (blk_cell BK327.out 0).trans rfl; have hcz5_1 : w4.cell? ⟨gb327, 1, none⟩ = some (.int .i64 0) := (blk_cell BK327.out 1).trans rfl; have hfz5_0 := blk_frozen BK327.out 0; have hfz5_1 := blk_frozen BK327.out 1))
 refine bodyPost_ret (results_ct rfl _ _ gb327 25 #[.int .i64 t328, .int .i64 t329] (0, 0) _ rfl (by refine blk_put (cs := #[.int .i64 t328, .int .i64 0]) ?_ 1 _ rfl; refine blk_put (cs := #[.int .i64 0, .int .i64 0]) ?_ 0 _ rfl; exact BK327.out) Tryz.underlying25 rfl (by kernel_rfl)) rfl ?_
 exact ⟨rfl, bO_⟩

end Go.Proofs.YtbnhfipcjbnknaaGreatDoor.PFnPlatesOrder
