/- Functions that the law FnPlatesOrder reaches, each as a Lean function, and that the Go code comes to just these answers (written by programs). -/
import Derived.Test.YtbnhfipcjbnknaaGreatDoorPFnPlatesOrderv
import Derived.Test.YtbnhfipcjbnknaaGreatDoorShelf
import Derived.Lib.AppendIntMem
import Derived.Test.YtbnhfipcjbnknaaGreatDoorPFnPlatesOrderx0
import Derived.Test.YtbnhfipcjbnknaaGreatDoorPFnPlatesOrderx2
import Derived.Test.YtbnhfipcjbnknaaGreatDoorPFnPlatesOrderx3
import Derived.Test.YtbnhfipcjbnknaaGreatDoorPFnPlatesOrderx5
namespace Go.Proofs.YtbnhfipcjbnknaaGreatDoor.PFnPlatesOrder
open Go.RowKit Go.Proofs.YtbnhfipcjbnknaaGreatDoorW.PrintWords Go.Proofs.YtbnhfipcjbnknaaGreatDoorW.PrintLast Go.Proofs.YtbnhfipcjbnknaaGreatDoorW.PrintMore
attribute [local go_sem] max2_int min2_int max_two min_two max_three min_three max_four min_four   -- for this text's walks alone
set_option linter.unusedVariables false
set_option linter.unusedSimpArgs false

/-! ### impl_NextPlate: function 12 -/
def impl_NextPlate.j0 : Nat → Bool → Int → Int → Option (Int × Int × Bool)
 | 0, _, _, _ => none
 | k + 1, x11, x243000, x243001 => if x11 = true then (some (0, 0, false)) else ((impl_rankOf.f x243000 x243001).bind fun t246 => ((impl_plateAt.f (wrap64 (t246 + 1))).bind fun bt247 => (some (bt247.1, bt247.2, true))))
def impl_NextPlate.f (k : Nat) (a0_0 : Int) (a0_1 : Int) : Option (Int × Int × Bool) := (impl_IsPlate.f a0_0 a0_1).bind fun t244 => (if t244 = true then ((impl_rankOf.f a0_0 a0_1).bind fun t245 => (impl_NextPlate.j0 k (t245 == 269999) a0_0 a0_1)) else (impl_NextPlate.j0 k true a0_0 a0_1))
set_option maxHeartbeats 8000000 in
set_option maxRecDepth 100000 in
theorem impl_NextPlate.calls (k : Nat) (a0_0 : Int) (a0_1 : Int) (r1 : Int) (r2 : Int) (r3 : Bool) (w : World) (h : impl_NextPlate.f k a0_0 a0_1 = some (r1, r2, r3)) :
  Calls Tryz.prog 12 #[.agg #[.int .i64 a0_0, .int .i64 a0_1]] w fun e w' => e = .returned (.tuple #[.agg #[.int .i64 r1, .int .i64 r2], .bool r3]) ∧ Below w.heap.size w w' := by
 have hu25 := Tryz.underlying25
 have HB := Aside0.mk (Below.refl w.heap.size w)
 have H : ((impl_IsPlate.f a0_0 a0_1).bind fun t244 => (if t244 = true then ((impl_rankOf.f a0_0 a0_1).bind fun t245 => (impl_NextPlate.j0 k (t245 == 269999) a0_0 a0_1)) else (impl_NextPlate.j0 k true a0_0 a0_1))) = some (r1, r2, r3) := h
 clear h
 have HC2 := Aside0.mk H
 clear H
 go_enter Tryz.func12, Tryz.ntmps12
 go_upto_region 1 with (first | (refine bx_ 1 #[.int .i64 a0_0, .int .i64 a0_1] 25 ?_; intro gb242 hg w3 BK242 hb; have GW242 := gW_ (w := w) hg; replace HB := bT_ hb; clear hb hg) | (refine bx_ 2 #[.int .i64 0, .int .i64 0] 25 ?_; intro gb243 hg w4 BK243 hb; have GW243 := gW_ (w := w) hg; replace HB := bT_ hb; have NB242_243 := Aside0.mk ((by rw [hg]; exact Nat.ne_of_lt (blk_lt (g := gb242) aO_) : gb242 ≠ gb243)); have NB243_242 := Aside0.mk ((by rw [hg]; exact Nat.ne_of_gt (blk_lt (g := gb242) aO_) : gb243 ≠ gb242)); replace BK242 := bB_ (g := gb242) hb; clear hb hg))
 (try simp only [sp_])
 go_cut [11] (fun v11 wc => ∃ (kq : Nat) (x11_1 : Bool), v11 = .bool x11_1 ∧ Aside0 (impl_NextPlate.j0 kq x11_1 a0_0 a0_1 = some (r1, r2, r3)) ∧ Aside0 (kq ≤ k) ∧ Aside0 (wc.heap[gb242]? = some (.cells #[.int .i64 a0_0, .int .i64 a0_1] 25 (0, 0))) ∧ Aside0 (wc.heap[gb243]? = some (.cells #[.int .i64 0, .int .i64 0] 25 (0, 0))) ∧ Aside0 (Below w.heap.size w wc))
 case first =>
  have H := HC2.out
  clear HC2
  obtain ⟨t244, A5, H⟩ := obA H
  by_cases c6 : t244 = true
  ·subst c6
   rw [if_pos rfl] at H
   obtain ⟨t245, A7, H⟩ := obA H
   have H' := Aside0.mk H
   clear H
   have hnb8 := NB242_243.out
   have hnc8 := NB243_242.out
   have hcz9_0 : w4.cell? ⟨gb242, 0, none⟩ = some (.int .i64 a0_0) := (blk_cell BK242.out 0).trans rfl
   have hcz9_1 : w4.cell? ⟨gb242, 1, none⟩ = some (.int .i64 a0_1) := (blk_cell BK242.out 1).trans rfl
   have hfz9_0 := blk_frozen BK242.out 0
   have hfz9_1 := blk_frozen BK242.out 1
   go_wp2_with (first | (refine gL_ Tryz.func16 (some 5) #[.agg #[.int .i64 a0_0, .int .i64 a0_1]] ?_; (with_reducible refine (impl_IsPlate.calls a0_0 a0_1 true _ A5.out).mono ?_); rintro e w10 ⟨rfl, hb⟩; refine ⟨_, rfl, ?_⟩; replace BK242 := bB_ (g := gb242) hb; replace BK243 := bB_ (g := gb243) hb; replace HB := bT_ hb; have hcz11_0 : w10.cell? ⟨gb242, 0, none⟩ = some (.int .i64 a0_0) := (blk_cell BK242.out 0).trans rfl; have hcz11_1 : w10.cell? ⟨gb242, 1, none⟩ = some (.int .i64 a0_1) := (blk_cell BK242.out 1).trans rfl; have hfz11_0 := blk_frozen BK242.out 0; have hfz11_1 := blk_frozen BK242.out 1) | (go_at_call 38; (with_reducible refine (impl_rankOf.calls a0_0 a0_1 t245 _ A7.out).mono ?_); rintro e w12 ⟨rfl, hb⟩; replace BK242 := bB_ (g := gb242) hb; replace BK243 := bB_ (g := gb243) hb; replace HB := bT_ hb))
   go_meet
   case rel => exact ⟨_, ((t245 == 269999)), rfl, H', ⟨by first | omega | exact Nat.le_refl _⟩, ⟨by exact BK242.out⟩, ⟨by exact BK243.out⟩, ⟨bO_⟩⟩
  ·replace c6 := Bool.eq_false_iff.mpr c6
   subst c6
   rw [if_neg (show ¬ (false = true) by decide)] at H
   have H' := Aside0.mk H
   clear H
   have hnb13 := NB242_243.out
   have hnc13 := NB243_242.out
   have hcz14_0 : w4.cell? ⟨gb242, 0, none⟩ = some (.int .i64 a0_0) := (blk_cell BK242.out 0).trans rfl
   have hcz14_1 : w4.cell? ⟨gb242, 1, none⟩ = some (.int .i64 a0_1) := (blk_cell BK242.out 1).trans rfl
   have hfz14_0 := blk_frozen BK242.out 0
   have hfz14_1 := blk_frozen BK242.out 1
   go_wp2_with (first | (refine gL_ Tryz.func16 (some 5) #[.agg #[.int .i64 a0_0, .int .i64 a0_1]] ?_; (with_reducible refine (impl_IsPlate.calls a0_0 a0_1 false _ A5.out).mono ?_); rintro e w15 ⟨rfl, hb⟩; refine ⟨_, rfl, ?_⟩; replace BK242 := bB_ (g := gb242) hb; replace BK243 := bB_ (g := gb243) hb; replace HB := bT_ hb))
   go_meet
   case rel => exact ⟨_, (true), rfl, H', ⟨by first | omega | exact Nat.le_refl _⟩, ⟨by exact BK242.out⟩, ⟨by exact BK243.out⟩, ⟨bO_⟩⟩
 case rest =>
  clear HC2
  try clear c1
  try clear p2
  try clear c6
  try clear c8
  try clear c12
  try clear c13
  try clear hcz11_0
  try clear hcz11_1
  try clear hcz14_0
  try clear hcz14_1
  try clear hcz9_0
  try clear hcz9_1
  try clear hfz11_0
  try clear hfz11_1
  try clear hfz14_0
  try clear hfz14_1
  try clear hfz9_0
  try clear hfz9_1
  obtain ⟨kq, x11_1, rfl, HA, HJ1, BK242, BK243, HB⟩ := hcut
  cases kq with
  | zero => exact absurd HA.out (by simp [impl_NextPlate.j0])
  | succ kj1 =>
   have H := HA.out
   clear HA
   simp only [impl_NextPlate.j0] at H
   by_cases c16 : x11_1 = true
   ·subst c16
    rw [if_pos rfl] at H
    simp only [Option.some.injEq, Prod.mk.injEq] at H
    obtain ⟨rfl, rfl, rfl⟩ := H
    have hnb17 := NB243_242.out
    have hnc17 := NB242_243.out
    have hcz18_0 : wc.cell? ⟨gb243, 0, none⟩ = some (.int .i64 0) := (blk_cell BK243.out 0).trans rfl
    have hcz18_1 : wc.cell? ⟨gb243, 1, none⟩ = some (.int .i64 0) := (blk_cell BK243.out 1).trans rfl
    have hfz18_0 := blk_frozen BK243.out 0
    have hfz18_1 := blk_frozen BK243.out 1
    go_wp2
    refine bodyPost_ret (results_ct rfl _ _ gb243 25 #[.int .i64 0, .int .i64 0] (0, 0) _ rfl (by refine blk_put (cs := #[.int .i64 0, .int .i64 0]) ?_ 1 _ rfl; refine blk_put (cs := #[.int .i64 0, .int .i64 0]) ?_ 0 _ rfl; exact BK243.out) Tryz.underlying25 rfl (by kernel_rfl)) rfl ?_
    exact ⟨rfl, bO_⟩
   ·replace c16 := Bool.eq_false_iff.mpr c16
    subst c16
    rw [if_neg (show ¬ (false = true) by decide)] at H
    obtain ⟨t246, A19, H⟩ := obA H
    obtain ⟨⟨t247, t248⟩, A20, H⟩ := obA H
    dsimp only at H
    simp only [Option.some.injEq, Prod.mk.injEq] at H
    obtain ⟨rfl, rfl, rfl⟩ := H
    have hnb21 := NB242_243.out
    have hnc21 := NB243_242.out
    have hcz22_0 : wc.cell? ⟨gb242, 0, none⟩ = some (.int .i64 a0_0) := (blk_cell BK242.out 0).trans rfl
    have hcz22_1 : wc.cell? ⟨gb242, 1, none⟩ = some (.int .i64 a0_1) := (blk_cell BK242.out 1).trans rfl
    have hfz22_0 := blk_frozen BK242.out 0
    have hfz22_1 := blk_frozen BK242.out 1
    go_wp2_with (first | (refine gL_ Tryz.func38 (some 14) #[.agg #[.int .i64 a0_0, .int .i64 a0_1]] ?_; (with_reducible refine (impl_rankOf.calls a0_0 a0_1 t246 _ A19.out).mono ?_); rintro e w23 ⟨rfl, hb⟩; refine ⟨_, rfl, ?_⟩; replace BK242 := bB_ (g := gb242) hb; replace BK243 := bB_ (g := gb243) hb; replace HB := bT_ hb) | (refine gL_ Tryz.func43 (some 16) #[.int .i64 (wrap64 (t246 + 1))] ?_; (with_reducible refine (impl_plateAt.calls (wrap64 (t246 + 1)) t247 t248 _ A20.out).mono ?_); rintro e w24 ⟨rfl, hb⟩; refine ⟨_, rfl, ?_⟩; replace BK242 := bB_ (g := gb242) hb; replace BK243 := bB_ (g := gb243) hb; replace HB := bT_ hb; have hcz25_0 : w24.cell? ⟨gb243, 0, none⟩ = some (.int .i64 0) := (blk_cell BK243.out 0).trans rfl; have hcz25_1 : w24.cell? ⟨gb243, 1, none⟩ = some (.int .i64 0) := (blk_cell BK243.out 1).trans rfl; have hfz25_0 := blk_frozen BK243.out 0; have hfz25_1 := blk_frozen BK243.out 1))
    refine bodyPost_ret (results_ct rfl _ _ gb243 25 #[.int .i64 t247, .int .i64 t248] (0, 0) _ rfl (by refine blk_put (cs := #[.int .i64 t247, .int .i64 0]) ?_ 1 _ rfl; refine blk_put (cs := #[.int .i64 0, .int .i64 0]) ?_ 0 _ rfl; exact BK243.out) Tryz.underlying25 rfl (by kernel_rfl)) rfl ?_
    exact ⟨rfl, bO_⟩

/-! ### spec_NextPlate: function 13 -/
def spec_NextPlate.j0 : Nat → Bool → Int → Int → Option (Int × Int × Bool)
 | 0, _, _, _ => none
 | k + 1, x14, x250000, x250001 => if x14 = true then (some (0, 0, false)) else ((spec_isRank.f x250000 x250001).bind fun t256 => ((spec_isOf.f (wrap64 (t256 + 1))).bind fun bt257 => (some (bt257.1, bt257.2, true))))
def spec_NextPlate.f (k : Nat) (a0_0 : Int) (a0_1 : Int) : Option (Int × Int × Bool) := (spec_isPlate.f a0_0 a0_1).bind fun t251 => (if t251 = true then ((spec_isRank.f a0_0 a0_1).bind fun t252 => ((spec_isOf.f (wrap64 (t252 + 1))).bind fun bt253 => ((spec_isPlate.f bt253.1 bt253.2).bind fun t255 => (spec_NextPlate.j0 k (!t255) a0_0 a0_1)))) else (spec_NextPlate.j0 k true a0_0 a0_1))
set_option maxHeartbeats 8000000 in
set_option maxRecDepth 100000 in
theorem spec_NextPlate.calls (k : Nat) (a0_0 : Int) (a0_1 : Int) (r1 : Int) (r2 : Int) (r3 : Bool) (w : World) (h : spec_NextPlate.f k a0_0 a0_1 = some (r1, r2, r3)) :
  Calls Tryz.prog 13 #[.agg #[.int .i64 a0_0, .int .i64 a0_1]] w fun e w' => e = .returned (.tuple #[.agg #[.int .i64 r1, .int .i64 r2], .bool r3]) ∧ Below w.heap.size w w' := by
 have hu25 := Tryz.underlying25
 have HB := Aside0.mk (Below.refl w.heap.size w)
 have H : ((spec_isPlate.f a0_0 a0_1).bind fun t251 => (if t251 = true then ((spec_isRank.f a0_0 a0_1).bind fun t252 => ((spec_isOf.f (wrap64 (t252 + 1))).bind fun bt253 => ((spec_isPlate.f bt253.1 bt253.2).bind fun t255 => (spec_NextPlate.j0 k (!t255) a0_0 a0_1)))) else (spec_NextPlate.j0 k true a0_0 a0_1))) = some (r1, r2, r3) := h
 clear h
 have HC2 := Aside0.mk H
 clear H
 go_enter Tryz.func13, Tryz.ntmps13
 go_upto_region 1 with (first | (refine bx_ 1 #[.int .i64 a0_0, .int .i64 a0_1] 25 ?_; intro gb249 hg w3 BK249 hb; have GW249 := gW_ (w := w) hg; replace HB := bT_ hb; clear hb hg) | (refine bx_ 2 #[.int .i64 0, .int .i64 0] 25 ?_; intro gb250 hg w4 BK250 hb; have GW250 := gW_ (w := w) hg; replace HB := bT_ hb; have NB249_250 := Aside0.mk ((by rw [hg]; exact Nat.ne_of_lt (blk_lt (g := gb249) aO_) : gb249 ≠ gb250)); have NB250_249 := Aside0.mk ((by rw [hg]; exact Nat.ne_of_gt (blk_lt (g := gb249) aO_) : gb250 ≠ gb249)); replace BK249 := bB_ (g := gb249) hb; clear hb hg))
 (try simp only [sp_])
 go_cut [14] (fun v14 wc => ∃ (kq : Nat) (x14_1 : Bool), v14 = .bool x14_1 ∧ Aside0 (spec_NextPlate.j0 kq x14_1 a0_0 a0_1 = some (r1, r2, r3)) ∧ Aside0 (kq ≤ k) ∧ Aside0 (wc.heap[gb249]? = some (.cells #[.int .i64 a0_0, .int .i64 a0_1] 25 (0, 0))) ∧ Aside0 (wc.heap[gb250]? = some (.cells #[.int .i64 0, .int .i64 0] 25 (0, 0))) ∧ Aside0 (Below w.heap.size w wc))
 case first =>
  have H := HC2.out
  clear HC2
  obtain ⟨t251, A5, H⟩ := obA H
  by_cases c6 : t251 = true
  ·subst c6
   rw [if_pos rfl] at H
   obtain ⟨t252, A7, H⟩ := obA H
   obtain ⟨⟨t253, t254⟩, A8, H⟩ := obA H
   dsimp only at H
   obtain ⟨t255, A9, H⟩ := obA H
   have H' := Aside0.mk H
   clear H
   have hnb10 := NB249_250.out
   have hnc10 := NB250_249.out
   have hcz11_0 : w4.cell? ⟨gb249, 0, none⟩ = some (.int .i64 a0_0) := (blk_cell BK249.out 0).trans rfl
   have hcz11_1 : w4.cell? ⟨gb249, 1, none⟩ = some (.int .i64 a0_1) := (blk_cell BK249.out 1).trans rfl
   have hfz11_0 := blk_frozen BK249.out 0
   have hfz11_1 := blk_frozen BK249.out 1
   go_wp2_with (first | (refine gL_ Tryz.func39 (some 5) #[.agg #[.int .i64 a0_0, .int .i64 a0_1]] ?_; (with_reducible refine (spec_isPlate.calls a0_0 a0_1 true _ A5.out).mono ?_); rintro e w12 ⟨rfl, hb⟩; refine ⟨_, rfl, ?_⟩; replace BK249 := bB_ (g := gb249) hb; replace BK250 := bB_ (g := gb250) hb; replace HB := bT_ hb; have hcz13_0 : w12.cell? ⟨gb249, 0, none⟩ = some (.int .i64 a0_0) := (blk_cell BK249.out 0).trans rfl; have hcz13_1 : w12.cell? ⟨gb249, 1, none⟩ = some (.int .i64 a0_1) := (blk_cell BK249.out 1).trans rfl; have hfz13_0 := blk_frozen BK249.out 0; have hfz13_1 := blk_frozen BK249.out 1) | (go_at_call 40; (with_reducible refine (spec_isRank.calls a0_0 a0_1 t252 _ A7.out).mono ?_); rintro e w14 ⟨rfl, hb⟩; replace BK249 := bB_ (g := gb249) hb; replace BK250 := bB_ (g := gb250) hb; replace HB := bT_ hb) | (go_at_call 44; (with_reducible refine (spec_isOf.calls (wrap64 (t252 + 1)) t253 t254 _ A8.out).mono ?_); rintro e w15 ⟨rfl, hb⟩; replace BK249 := bB_ (g := gb249) hb; replace BK250 := bB_ (g := gb250) hb; replace HB := bT_ hb) | (go_at_call 39; (with_reducible refine (spec_isPlate.calls t253 t254 t255 _ A9.out).mono ?_); rintro e w16 ⟨rfl, hb⟩; replace BK249 := bB_ (g := gb249) hb; replace BK250 := bB_ (g := gb250) hb; replace HB := bT_ hb))
   go_meet
   case rel => exact ⟨_, (!t255), rfl, H', ⟨by first | omega | exact Nat.le_refl _⟩, ⟨by exact BK249.out⟩, ⟨by exact BK250.out⟩, ⟨bO_⟩⟩
  ·replace c6 := Bool.eq_false_iff.mpr c6
   subst c6
   rw [if_neg (show ¬ (false = true) by decide)] at H
   have H' := Aside0.mk H
   clear H
   have hnb17 := NB249_250.out
   have hnc17 := NB250_249.out
   have hcz18_0 : w4.cell? ⟨gb249, 0, none⟩ = some (.int .i64 a0_0) := (blk_cell BK249.out 0).trans rfl
   have hcz18_1 : w4.cell? ⟨gb249, 1, none⟩ = some (.int .i64 a0_1) := (blk_cell BK249.out 1).trans rfl
   have hfz18_0 := blk_frozen BK249.out 0
   have hfz18_1 := blk_frozen BK249.out 1
   go_wp2_with (first | (refine gL_ Tryz.func39 (some 5) #[.agg #[.int .i64 a0_0, .int .i64 a0_1]] ?_; (with_reducible refine (spec_isPlate.calls a0_0 a0_1 false _ A5.out).mono ?_); rintro e w19 ⟨rfl, hb⟩; refine ⟨_, rfl, ?_⟩; replace BK249 := bB_ (g := gb249) hb; replace BK250 := bB_ (g := gb250) hb; replace HB := bT_ hb))
   go_meet
   case rel => exact ⟨_, (true), rfl, H', ⟨by first | omega | exact Nat.le_refl _⟩, ⟨by exact BK249.out⟩, ⟨by exact BK250.out⟩, ⟨bO_⟩⟩
 case rest =>
  clear HC2
  try clear c1
  try clear p2
  try clear c3
  try clear c6
  try clear p6
  try clear c10
  try clear c13
  try clear c17
  try clear hcz11_0
  try clear hcz11_1
  try clear hcz13_0
  try clear hcz13_1
  try clear hcz18_0
  try clear hcz18_1
  try clear hfz11_0
  try clear hfz11_1
  try clear hfz13_0
  try clear hfz13_1
  try clear hfz18_0
  try clear hfz18_1
  obtain ⟨kq, x14_1, rfl, HA, HJ1, BK249, BK250, HB⟩ := hcut
  cases kq with
  | zero => exact absurd HA.out (by simp [spec_NextPlate.j0])
  | succ kj1 =>
   have H := HA.out
   clear HA
   simp only [spec_NextPlate.j0] at H
   by_cases c20 : x14_1 = true
   ·subst c20
    rw [if_pos rfl] at H
    simp only [Option.some.injEq, Prod.mk.injEq] at H
    obtain ⟨rfl, rfl, rfl⟩ := H
    have hnb21 := NB250_249.out
    have hnc21 := NB249_250.out
    have hcz22_0 : wc.cell? ⟨gb250, 0, none⟩ = some (.int .i64 0) := (blk_cell BK250.out 0).trans rfl
    have hcz22_1 : wc.cell? ⟨gb250, 1, none⟩ = some (.int .i64 0) := (blk_cell BK250.out 1).trans rfl
    have hfz22_0 := blk_frozen BK250.out 0
    have hfz22_1 := blk_frozen BK250.out 1
    go_wp2
    refine bodyPost_ret (results_ct rfl _ _ gb250 25 #[.int .i64 0, .int .i64 0] (0, 0) _ rfl (by refine blk_put (cs := #[.int .i64 0, .int .i64 0]) ?_ 1 _ rfl; refine blk_put (cs := #[.int .i64 0, .int .i64 0]) ?_ 0 _ rfl; exact BK250.out) Tryz.underlying25 rfl (by kernel_rfl)) rfl ?_
    exact ⟨rfl, bO_⟩
   ·replace c20 := Bool.eq_false_iff.mpr c20
    subst c20
    rw [if_neg (show ¬ (false = true) by decide)] at H
    obtain ⟨t256, A23, H⟩ := obA H
    obtain ⟨⟨t257, t258⟩, A24, H⟩ := obA H
    dsimp only at H
    simp only [Option.some.injEq, Prod.mk.injEq] at H
    obtain ⟨rfl, rfl, rfl⟩ := H
    have hnb25 := NB249_250.out
    have hnc25 := NB250_249.out
    have hcz26_0 : wc.cell? ⟨gb249, 0, none⟩ = some (.int .i64 a0_0) := (blk_cell BK249.out 0).trans rfl
    have hcz26_1 : wc.cell? ⟨gb249, 1, none⟩ = some (.int .i64 a0_1) := (blk_cell BK249.out 1).trans rfl
    have hfz26_0 := blk_frozen BK249.out 0
    have hfz26_1 := blk_frozen BK249.out 1
    go_wp2_with (first | (refine gL_ Tryz.func40 (some 17) #[.agg #[.int .i64 a0_0, .int .i64 a0_1]] ?_; (with_reducible refine (spec_isRank.calls a0_0 a0_1 t256 _ A23.out).mono ?_); rintro e w27 ⟨rfl, hb⟩; refine ⟨_, rfl, ?_⟩; replace BK249 := bB_ (g := gb249) hb; replace BK250 := bB_ (g := gb250) hb; replace HB := bT_ hb) | (refine gL_ Tryz.func44 (some 19) #[.int .i64 (wrap64 (t256 + 1))] ?_; (with_reducible refine (spec_isOf.calls (wrap64 (t256 + 1)) t257 t258 _ A24.out).mono ?_); rintro e w28 ⟨rfl, hb⟩; refine ⟨_, rfl, ?_⟩; replace BK249 := bB_ (g := gb249) hb; replace BK250 := bB_ (g := gb250) hb; replace HB := bT_ hb; have hcz29_0 : w28.cell? ⟨gb250, 0, none⟩ = some (.int .i64 0) := (blk_cell BK250.out 0).trans rfl; have hcz29_1 : w28.cell? ⟨gb250, 1, none⟩ = some (.int .i64 0) := (blk_cell BK250.out 1).trans rfl; have hfz29_0 := blk_frozen BK250.out 0; have hfz29_1 := blk_frozen BK250.out 1))
    refine bodyPost_ret (results_ct rfl _ _ gb250 25 #[.int .i64 t257, .int .i64 t258] (0, 0) _ rfl (by refine blk_put (cs := #[.int .i64 t257, .int .i64 0]) ?_ 1 _ rfl; refine blk_put (cs := #[.int .i64 0, .int .i64 0]) ?_ 0 _ rfl; exact BK250.out) Tryz.underlying25 rfl (by kernel_rfl)) rfl ?_
    exact ⟨rfl, bO_⟩

/-! ### strconv_Itoa_63: function 63 (given by hand) -/
def strconv_Itoa_63.f (a0 : Int) : Option (ByteArray) := if -9223372036854775808 ≤ a0 ∧ a0 ≤ 9223372036854775807 then some ⟨(Lib.itoa a0).toArray⟩ else none
theorem strconv_Itoa_63.calls (a0 : Int) (r : ByteArray) (w : World) (h : strconv_Itoa_63.f a0 = some r) (hV : VarsOK w) :
  Calls Tryz.prog 63 #[.int .i64 a0] w fun e w' => e = .returned (.string r) ∧ Below w.heap.size w w' := by
 unfold strconv_Itoa_63.f at h
 by_cases c : -9223372036854775808 ≤ a0 ∧ a0 ≤ 9223372036854775807
 ·rw [if_pos c] at h
  obtain rfl := Option.some.inj h
  refine (Tryz.strconv_Itoa a0 c.1 c.2 w hV.tab).mono ?_
  rintro e w' ⟨rfl, k, os, rfl⟩
  exact ⟨rfl, Lib.below_grow _ w (Nat.le_refl _) k os⟩
 ·rw [if_neg c] at h
  cases h

/-! ### impl_plateText: function 45 -/
def impl_plateText.f (a0_0 : Int) (a0_1 : Int) : Option (ByteArray) := (strconv_Itoa_63.f a0_0).bind fun t282 => (if a0_1 > 0 then ((some (([(wrap64 ((wrap64 (97 + a0_1)) - 1)) % 256] : List Int) : List Int)).bind fun y283 => (if t282.size + (strOfNums y283).size ≤ 9223372036854775807 then (some (t282 ++ (strOfNums y283))) else (none))) else (some t282))
set_option maxHeartbeats 8000000 in
set_option maxRecDepth 100000 in
theorem impl_plateText.calls (a0_0 : Int) (a0_1 : Int) (r : ByteArray) (w : World) (h : impl_plateText.f a0_0 a0_1 = some r) (hV : VarsOK w) :
  Calls Tryz.prog 45 #[.agg #[.int .i64 a0_0, .int .i64 a0_1]] w fun e w' => e = .returned (.string r) ∧ Below w.heap.size w w' := by
 have HV := Aside0.mk hV
 clear hV
 have hu25 := Tryz.underlying25
 have HB := Aside0.mk (Below.refl w.heap.size w)
 have H : ((strconv_Itoa_63.f a0_0).bind fun t282 => (if a0_1 > 0 then ((some (([(wrap64 ((wrap64 (97 + a0_1)) - 1)) % 256] : List Int) : List Int)).bind fun y283 => (if t282.size + (strOfNums y283).size ≤ 9223372036854775807 then (some (t282 ++ (strOfNums y283))) else (none))) else (some t282))) = some r := h
 clear h
 obtain ⟨t282, A2, H⟩ := obA H
 by_cases c3 : a0_1 > 0
 ·rw [if_pos c3] at H
  replace c3 := decide_eq_true c3
  obtain ⟨y283, Ny283, H⟩ := obY H
  by_cases c4 : t282.size + (strOfNums y283).size ≤ 9223372036854775807
  ·rw [if_pos c4] at H
   have c4b0 := eq_true c4
   have c4b1 : decide (t282.size + (strOfNums y283).size ≤ 9223372036854775807) = true := decide_eq_true c4
   try have c4b2 : (9223372036854775807 < t282.size + (strOfNums y283).size) = False := eq_false (Nat.not_lt.2 c4)
   obtain rfl := Option.some.inj H
   go_enter Tryz.func45, Tryz.ntmps45
   go_wp2_with (first | (refine bx_ 1 #[.int .i64 a0_0, .int .i64 a0_1] 25 ?_; intro gb281 hg w5 BK281 hb; have GW281 := gW_ (w := w) hg; replace HB := bT_ hb; clear hb hg; have hcz6_0 : w5.cell? ⟨gb281, 0, none⟩ = some (.int .i64 a0_0) := (blk_cell BK281.out 0).trans rfl; have hcz6_1 : w5.cell? ⟨gb281, 1, none⟩ = some (.int .i64 a0_1) := (blk_cell BK281.out 1).trans rfl; have hfz6_0 := blk_frozen BK281.out 0; have hfz6_1 := blk_frozen BK281.out 1) | (refine gL_ Tryz.func63 (some 6) #[.int .i64 a0_0] ?_; (with_reducible refine (strconv_Itoa_63.calls a0_0 t282 _ A2.out ?sideV).mono ?_); (case sideV => first | (with_reducible exact HV.out) | exact VarsOK.below HV.out bO_); rintro e w7 ⟨rfl, hb⟩; refine ⟨_, rfl, ?_⟩; replace BK281 := bB_ (g := gb281) hb; replace HB := bT_ hb; have hcz8_0 : w7.cell? ⟨gb281, 0, none⟩ = some (.int .i64 a0_0) := (blk_cell BK281.out 0).trans rfl; have hcz8_1 : w7.cell? ⟨gb281, 1, none⟩ = some (.int .i64 a0_1) := (blk_cell BK281.out 1).trans rfl; have hfz8_0 := blk_frozen BK281.out 0; have hfz8_1 := blk_frozen BK281.out 1) | ((with_reducible refine gate_dst (N := 16) rfl ?_); refine Kd.R_lit (Kd.int .u8) _ 5 ?hg (N := 16) ?hd (xs := ([(wrap64 ((wrap64 (97 + a0_1)) - 1)) % 256] : List Int)) (inner := [.int .u8 ((wrap64 ((wrap64 (97 + a0_1)) - 1)) % 256)]) (ok := fun _ => True) (okp := fun _ => True) ?hr ?hp (fun _ hk => hk) trivial (Below.refl _ _) (Nat.le_refl _) (by simp) ?_; (case hd => rfl); (case hg => rfl); (case hr => go_simp <;> rfl); (case hp => exact (Reps.one (show Kd.M (Kd.int .u8) _ _ _ ((wrap64 ((wrap64 (97 + a0_1)) - 1)) % 256) [.int .u8 ((wrap64 ((wrap64 (97 + a0_1)) - 1)) % 256)] from rfl) (Reps.none _ _))); intro v284 w9 ho10 hb hg_ hnew_; clear hg_ hnew_; (first | rw [← Ny283.out] at ho10 | (simp only [Int.reduceToNat] at ho10; rw [← Ny283.out] at ho10)); have HO285 := Aside0.mk (Kd.R_lower ho10 (below_size bO_)); replace BK281 := bB_ (g := gb281) hb; replace HB := bT_ hb; clear hb ho10; have hcv11 := own_string (P := Tryz.prog) Tryz.underlying22 Tryz.underlying5 Tryz.underlying9 (Kd.own_of_R HO285.out)))
   go_ret
   exact ⟨rfl, bO_⟩
  ·rw [if_neg c4] at H
   exact absurd H (by simp)
 ·rw [if_neg c3] at H
  replace c3 := decide_eq_false c3
  obtain rfl := Option.some.inj H
  go_enter Tryz.func45, Tryz.ntmps45
  go_wp2_with (first | (refine bx_ 1 #[.int .i64 a0_0, .int .i64 a0_1] 25 ?_; intro gb281 hg w12 BK281 hb; have GW281 := gW_ (w := w) hg; replace HB := bT_ hb; clear hb hg; have hcz13_0 : w12.cell? ⟨gb281, 0, none⟩ = some (.int .i64 a0_0) := (blk_cell BK281.out 0).trans rfl; have hcz13_1 : w12.cell? ⟨gb281, 1, none⟩ = some (.int .i64 a0_1) := (blk_cell BK281.out 1).trans rfl; have hfz13_0 := blk_frozen BK281.out 0; have hfz13_1 := blk_frozen BK281.out 1) | (refine gL_ Tryz.func63 (some 6) #[.int .i64 a0_0] ?_; (with_reducible refine (strconv_Itoa_63.calls a0_0 t282 _ A2.out ?sideV).mono ?_); (case sideV => first | (with_reducible exact HV.out) | exact VarsOK.below HV.out bO_); rintro e w14 ⟨rfl, hb⟩; refine ⟨_, rfl, ?_⟩; replace BK281 := bB_ (g := gb281) hb; replace HB := bT_ hb; have hcz15_0 : w14.cell? ⟨gb281, 0, none⟩ = some (.int .i64 a0_0) := (blk_cell BK281.out 0).trans rfl; have hcz15_1 : w14.cell? ⟨gb281, 1, none⟩ = some (.int .i64 a0_1) := (blk_cell BK281.out 1).trans rfl; have hfz15_0 := blk_frozen BK281.out 0; have hfz15_1 := blk_frozen BK281.out 1))
  go_ret
  exact ⟨rfl, bO_⟩

/-! ### impl_PlateText: function 14 -/
def impl_PlateText.f (a0_0 : Int) (a0_1 : Int) : Option (ByteArray × Bool) := (impl_IsPlate.f a0_0 a0_1).bind fun t287 => (if t287 = true then ((impl_plateText.f a0_0 a0_1).bind fun t288 => (some (t288, true))) else (some ((⟨#[]⟩ : ByteArray), false)))
set_option maxHeartbeats 8000000 in
set_option maxRecDepth 100000 in
theorem impl_PlateText.calls (a0_0 : Int) (a0_1 : Int) (r1 : ByteArray) (r2 : Bool) (w : World) (h : impl_PlateText.f a0_0 a0_1 = some (r1, r2)) (hV : VarsOK w) :
  Calls Tryz.prog 14 #[.agg #[.int .i64 a0_0, .int .i64 a0_1]] w fun e w' => e = .returned (.tuple #[.string r1, .bool r2]) ∧ Below w.heap.size w w' := by
 have HV := Aside0.mk hV
 clear hV
 have hu25 := Tryz.underlying25
 have HB := Aside0.mk (Below.refl w.heap.size w)
 have H : ((impl_IsPlate.f a0_0 a0_1).bind fun t287 => (if t287 = true then ((impl_plateText.f a0_0 a0_1).bind fun t288 => (some (t288, true))) else (some ((⟨#[]⟩ : ByteArray), false)))) = some (r1, r2) := h
 clear h
 obtain ⟨t287, A2, H⟩ := obA H
 by_cases c3 : t287 = true
 ·subst c3
  rw [if_pos rfl] at H
  obtain ⟨t288, A4, H⟩ := obA H
  simp only [Option.some.injEq, Prod.mk.injEq] at H
  obtain ⟨rfl, rfl⟩ := H
  go_enter Tryz.func14, Tryz.ntmps14
  go_wp2_with (first | (refine bx_ 1 #[.int .i64 a0_0, .int .i64 a0_1] 25 ?_; intro gb286 hg w5 BK286 hb; have GW286 := gW_ (w := w) hg; replace HB := bT_ hb; clear hb hg; have hcz6_0 : w5.cell? ⟨gb286, 0, none⟩ = some (.int .i64 a0_0) := (blk_cell BK286.out 0).trans rfl; have hcz6_1 : w5.cell? ⟨gb286, 1, none⟩ = some (.int .i64 a0_1) := (blk_cell BK286.out 1).trans rfl; have hfz6_0 := blk_frozen BK286.out 0; have hfz6_1 := blk_frozen BK286.out 1) | (refine gL_ Tryz.func16 (some 5) #[.agg #[.int .i64 a0_0, .int .i64 a0_1]] ?_; (with_reducible refine (impl_IsPlate.calls a0_0 a0_1 true _ A2.out).mono ?_); rintro e w7 ⟨rfl, hb⟩; refine ⟨_, rfl, ?_⟩; replace BK286 := bB_ (g := gb286) hb; replace HB := bT_ hb; have hcz8_0 : w7.cell? ⟨gb286, 0, none⟩ = some (.int .i64 a0_0) := (blk_cell BK286.out 0).trans rfl; have hcz8_1 : w7.cell? ⟨gb286, 1, none⟩ = some (.int .i64 a0_1) := (blk_cell BK286.out 1).trans rfl; have hfz8_0 := blk_frozen BK286.out 0; have hfz8_1 := blk_frozen BK286.out 1) | (refine gL_ Tryz.func45 (some 8) #[.agg #[.int .i64 a0_0, .int .i64 a0_1]] ?_; (with_reducible refine (impl_plateText.calls a0_0 a0_1 t288 _ A4.out ?sideV).mono ?_); (case sideV => first | (with_reducible exact HV.out) | exact VarsOK.below HV.out bO_); rintro e w9 ⟨rfl, hb⟩; refine ⟨_, rfl, ?_⟩; replace BK286 := bB_ (g := gb286) hb; replace HB := bT_ hb))
  go_ret2
  exact ⟨rfl, bO_⟩
 ·replace c3 := Bool.eq_false_iff.mpr c3
  subst c3
  rw [if_neg (show ¬ (false = true) by decide)] at H
  simp only [Option.some.injEq, Prod.mk.injEq] at H
  obtain ⟨rfl, rfl⟩ := H
  go_enter Tryz.func14, Tryz.ntmps14
  go_wp2_with (first | (refine bx_ 1 #[.int .i64 a0_0, .int .i64 a0_1] 25 ?_; intro gb286 hg w10 BK286 hb; have GW286 := gW_ (w := w) hg; replace HB := bT_ hb; clear hb hg; have hcz11_0 : w10.cell? ⟨gb286, 0, none⟩ = some (.int .i64 a0_0) := (blk_cell BK286.out 0).trans rfl; have hcz11_1 : w10.cell? ⟨gb286, 1, none⟩ = some (.int .i64 a0_1) := (blk_cell BK286.out 1).trans rfl; have hfz11_0 := blk_frozen BK286.out 0; have hfz11_1 := blk_frozen BK286.out 1) | (refine gL_ Tryz.func16 (some 5) #[.agg #[.int .i64 a0_0, .int .i64 a0_1]] ?_; (with_reducible refine (impl_IsPlate.calls a0_0 a0_1 false _ A2.out).mono ?_); rintro e w12 ⟨rfl, hb⟩; refine ⟨_, rfl, ?_⟩; replace BK286 := bB_ (g := gb286) hb; replace HB := bT_ hb))
  go_ret2
  exact ⟨rfl, bO_⟩

end Go.Proofs.YtbnhfipcjbnknaaGreatDoor.PFnPlatesOrder
