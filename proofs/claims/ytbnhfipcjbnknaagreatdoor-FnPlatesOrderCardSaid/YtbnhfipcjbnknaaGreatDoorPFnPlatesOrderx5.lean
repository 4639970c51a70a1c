/- Functions that the law FnPlatesOrder reaches, each as a Lean function, and that the Go code comes to just these answers (written by programs). -/
import Derived.Test.YtbnhfipcjbnknaaGreatDoorPFnPlatesOrderx0
import Derived.Test.YtbnhfipcjbnknaaGreatDoorPFnPlatesOrderx2
import Derived.Test.YtbnhfipcjbnknaaGreatDoorPFnPlatesOrderx3
import Derived.Test.YtbnhfipcjbnknaaGreatDoorPFnPlatesOrderx4
namespace Go.Proofs.YtbnhfipcjbnknaaGreatDoor.PFnPlatesOrder
open Go.RowKit Go.Proofs.YtbnhfipcjbnknaaGreatDoorW.PrintWords Go.Proofs.YtbnhfipcjbnknaaGreatDoorW.PrintLast Go.Proofs.YtbnhfipcjbnknaaGreatDoorW.PrintMore
attribute [local go_sem] max2_int min2_int max_two min_two max_three min_three max_four min_four   -- for this text's walks alone
set_option linter.unusedVariables false
set_option linter.unusedSimpArgs false

abbrev M5_0 : Array Bool := #[false, false, false, false, false, false, false]
abbrev M5_1 : Array Bool := #[true, false, false, false, false, false, false]
abbrev M5_2 : Array Bool := #[true, false, true, false, false, false, false]
abbrev M5_3 : Array Bool := #[true, true, true, false, false, false, false]
abbrev M5_4 : Array Bool := #[true, true, true, true, false, false, false]
abbrev M5_5 : Array Bool := #[true, true, true, true, true, false, false]
abbrev M5_6 : Array Bool := #[true, true, true, true, true, true, false]
abbrev M5_7 : Array Bool := #[true, true, true, true, true, true, true]
abbrev M5_8 : Array Bool := #[false, false, false, false, false, false, false, false]
abbrev M5_9 : Array Bool := #[true, false, false, false, false, false, false, false]
abbrev M5_10 : Array Bool := #[true, false, true, false, false, false, false, false]
abbrev M5_11 : Array Bool := #[true, true, true, false, false, false, false, false]
abbrev M5_12 : Array Bool := #[true, true, true, true, false, false, false, false]
abbrev M5_13 : Array Bool := #[true, true, true, true, true, false, false, false]
abbrev M5_14 : Array Bool := #[true, true, true, true, true, true, false, false]
abbrev M5_15 : Array Bool := #[true, true, true, true, true, true, true, false]
abbrev M5_16 : Array Bool := #[true, true, true, true, true, true, true, true]
/-! ### impl_ComparePlates: function 8 -/
def impl_ComparePlates.j0 : Nat → Bool → Int → Int → Int → Int → Option (Int × Bool)
 | 0, _, _, _, _, _ => none
 | k + 1, x13, x208000, x208001, x209000, x209001 => if x13 = true then (some (0, false)) else ((impl_rankOf.f x208000 x208001).bind fun t211 => ((impl_rankOf.f x209000 x209001).bind fun t212 => ((cmp_Compare_int.f t211 t212).bind fun t213 => (some (t213, true)))))
def impl_ComparePlates.f (k : Nat) (a0_0 : Int) (a0_1 : Int) (a1_0 : Int) (a1_1 : Int) : Option (Int × Bool) := (impl_IsPlate.f a0_0 a0_1).bind fun t209 => (if t209 = true then ((impl_IsPlate.f a1_0 a1_1).bind fun t210 => (impl_ComparePlates.j0 k (!t210) a0_0 a0_1 a1_0 a1_1)) else (impl_ComparePlates.j0 k true a0_0 a0_1 a1_0 a1_1))
set_option maxHeartbeats 8000000 in
set_option maxRecDepth 100000 in
theorem impl_ComparePlates.calls (k : Nat) (a0_0 : Int) (a0_1 : Int) (a1_0 : Int) (a1_1 : Int) (r1 : Int) (r2 : Bool) (w : World) (h : impl_ComparePlates.f k a0_0 a0_1 a1_0 a1_1 = some (r1, r2)) :
  Calls Tryz.prog 8 #[.agg #[.int .i64 a0_0, .int .i64 a0_1], .agg #[.int .i64 a1_0, .int .i64 a1_1]] w fun e w' => e = .returned (.tuple #[.int .i64 r1, .bool r2]) ∧ Below w.heap.size w w' := by
 have hu25 := Tryz.underlying25
 have HB := Aside0.mk (Below.refl w.heap.size w)
 have H : ((impl_IsPlate.f a0_0 a0_1).bind fun t209 => (if t209 = true then ((impl_IsPlate.f a1_0 a1_1).bind fun t210 => (impl_ComparePlates.j0 k (!t210) a0_0 a0_1 a1_0 a1_1)) else (impl_ComparePlates.j0 k true a0_0 a0_1 a1_0 a1_1))) = some (r1, r2) := h
 clear h
 have HC3 := Aside0.mk H
 clear H
 go_enter Tryz.func8, Tryz.ntmps8
 go_upto_region 1 with (first | (refine bx_ 2 #[.int .i64 a0_0, .int .i64 a0_1] 25 ?_; intro gb207 hg w4 BK207 hb; have GW207 := gW_ (w := w) hg; replace HB := bT_ hb; clear hb hg) | (refine bx_ 3 #[.int .i64 a1_0, .int .i64 a1_1] 25 ?_; intro gb208 hg w5 BK208 hb; have GW208 := gW_ (w := w) hg; replace HB := bT_ hb; have NB207_208 := Aside0.mk ((by rw [hg]; exact Nat.ne_of_lt (blk_lt (g := gb207) aO_) : gb207 ≠ gb208)); have NB208_207 := Aside0.mk ((by rw [hg]; exact Nat.ne_of_gt (blk_lt (g := gb207) aO_) : gb208 ≠ gb207)); replace BK207 := bB_ (g := gb207) hb; clear hb hg))
 (try simp only [sp_])
 go_cut [13] (fun v13 wc => ∃ (kq : Nat) (x13_2 : Bool), v13 = .bool x13_2 ∧ Aside0 (impl_ComparePlates.j0 kq x13_2 a0_0 a0_1 a1_0 a1_1 = some (r1, r2)) ∧ Aside0 (kq ≤ k) ∧ Aside0 (wc.heap[gb207]? = some (.cells #[.int .i64 a0_0, .int .i64 a0_1] 25 (0, 0))) ∧ Aside0 (wc.heap[gb208]? = some (.cells #[.int .i64 a1_0, .int .i64 a1_1] 25 (0, 0))) ∧ Aside0 (Below w.heap.size w wc))
 case first =>
  have H := HC3.out
  clear HC3
  obtain ⟨t209, A6, H⟩ := obA H
  by_cases c7 : t209 = true
  ·subst c7
   rw [if_pos rfl] at H
   obtain ⟨t210, A8, H⟩ := obA H
   have H' := Aside0.mk H
   clear H
   have hnb9 := NB207_208.out
   have hnc9 := NB208_207.out
   have hcz10_0 : w5.cell? ⟨gb207, 0, none⟩ = some (.int .i64 a0_0) := (blk_cell BK207.out 0).trans rfl
   have hcz10_1 : w5.cell? ⟨gb207, 1, none⟩ = some (.int .i64 a0_1) := (blk_cell BK207.out 1).trans rfl
   have hfz10_0 := blk_frozen BK207.out 0
   have hfz10_1 := blk_frozen BK207.out 1
   go_wp2_with (first | (refine gL_ Tryz.func16 (some 7) #[.agg #[.int .i64 a0_0, .int .i64 a0_1]] ?_; (with_reducible refine (impl_IsPlate.calls a0_0 a0_1 true _ A6.out).mono ?_); rintro e w11 ⟨rfl, hb⟩; refine ⟨_, rfl, ?_⟩; replace BK207 := bB_ (g := gb207) hb; replace BK208 := bB_ (g := gb208) hb; replace HB := bT_ hb; have hcz12_0 : w11.cell? ⟨gb208, 0, none⟩ = some (.int .i64 a1_0) := (blk_cell BK208.out 0).trans rfl; have hcz12_1 : w11.cell? ⟨gb208, 1, none⟩ = some (.int .i64 a1_1) := (blk_cell BK208.out 1).trans rfl; have hfz12_0 := blk_frozen BK208.out 0; have hfz12_1 := blk_frozen BK208.out 1) | (go_at_call 16; (with_reducible refine (impl_IsPlate.calls a1_0 a1_1 t210 _ A8.out).mono ?_); rintro e w13 ⟨rfl, hb⟩; replace BK207 := bB_ (g := gb207) hb; replace BK208 := bB_ (g := gb208) hb; replace HB := bT_ hb))
   go_meet
   case rel => exact ⟨_, (!t210), rfl, H', ⟨by first | omega | exact Nat.le_refl _⟩, ⟨by exact BK207.out⟩, ⟨by exact BK208.out⟩, ⟨bO_⟩⟩
  ·replace c7 := Bool.eq_false_iff.mpr c7
   subst c7
   rw [if_neg (show ¬ (false = true) by decide)] at H
   have H' := Aside0.mk H
   clear H
   have hnb14 := NB207_208.out
   have hnc14 := NB208_207.out
   have hcz15_0 : w5.cell? ⟨gb207, 0, none⟩ = some (.int .i64 a0_0) := (blk_cell BK207.out 0).trans rfl
   have hcz15_1 : w5.cell? ⟨gb207, 1, none⟩ = some (.int .i64 a0_1) := (blk_cell BK207.out 1).trans rfl
   have hfz15_0 := blk_frozen BK207.out 0
   have hfz15_1 := blk_frozen BK207.out 1
   go_wp2_with (first | (refine gL_ Tryz.func16 (some 7) #[.agg #[.int .i64 a0_0, .int .i64 a0_1]] ?_; (with_reducible refine (impl_IsPlate.calls a0_0 a0_1 false _ A6.out).mono ?_); rintro e w16 ⟨rfl, hb⟩; refine ⟨_, rfl, ?_⟩; replace BK207 := bB_ (g := gb207) hb; replace BK208 := bB_ (g := gb208) hb; replace HB := bT_ hb))
   go_meet
   case rel => exact ⟨_, (true), rfl, H', ⟨by first | omega | exact Nat.le_refl _⟩, ⟨by exact BK207.out⟩, ⟨by exact BK208.out⟩, ⟨bO_⟩⟩
 case rest =>
  clear HC3
  try clear c1
  try clear p2
  try clear c7
  try clear c8
  try clear c9
  try clear c14
  try clear c16
  try clear hcz10_0
  try clear hcz10_1
  try clear hcz12_0
  try clear hcz12_1
  try clear hcz15_0
  try clear hcz15_1
  try clear hfz10_0
  try clear hfz10_1
  try clear hfz12_0
  try clear hfz12_1
  try clear hfz15_0
  try clear hfz15_1
  obtain ⟨kq, x13_2, rfl, HA, HJ2, BK207, BK208, HB⟩ := hcut
  cases kq with
  | zero => exact absurd HA.out (by simp [impl_ComparePlates.j0])
  | succ kj2 =>
   have H := HA.out
   clear HA
   simp only [impl_ComparePlates.j0] at H
   by_cases c17 : x13_2 = true
   ·subst c17
    rw [if_pos rfl] at H
    simp only [Option.some.injEq, Prod.mk.injEq] at H
    obtain ⟨rfl, rfl⟩ := H
    go_wp2
    go_ret2
    exact ⟨rfl, bO_⟩
   ·replace c17 := Bool.eq_false_iff.mpr c17
    subst c17
    rw [if_neg (show ¬ (false = true) by decide)] at H
    obtain ⟨t211, A18, H⟩ := obA H
    obtain ⟨t212, A19, H⟩ := obA H
    obtain ⟨t213, A20, H⟩ := obA H
    simp only [Option.some.injEq, Prod.mk.injEq] at H
    obtain ⟨rfl, rfl⟩ := H
    try go_wp2
    replace BK207 := Aside0.mk (blk_drew BK207.out)
    replace BK208 := Aside0.mk (blk_drew BK208.out)
    replace HB := Aside0.mk (below_drew1 HB.out)
    refine start_ (n := 7) (S := fun w' => w'.cell? ⟨gb207, 0, none⟩ = some (.int .i64 a0_0) ∧ w'.cell? ⟨gb207, 1, none⟩ = some (.int .i64 a0_1) ∧ w'.cell? ⟨gb208, 0, none⟩ = some (.int .i64 a1_0) ∧ w'.cell? ⟨gb208, 1, none⟩ = some (.int .i64 a1_1)) (ds := []) M5_0 (by kernel_rfl) rfl rfl ⟨(blk_cell BK207.out 0).trans rfl, (blk_cell BK207.out 1).trans rfl, (blk_cell BK208.out 0).trans rfl, (blk_cell BK208.out 1).trans rfl⟩ (fun hHeld => ?_)
    generalize wc.drew = w21 at BK207 BK208 HB hHeld ⊢
    refine take_ (i := 0) (N := some 14) (v := ?_) (a' := ?_) M5_1 rfl rfl (by kernel_rfl) (fun _ _ _ h => h) (Or.inl ⟨by rfl, ?_⟩) hHeld ?_ ?_
    rotate_left
    ·rintro w' ⟨s0, s1, s2, s3⟩
     go_simp
     with_reducible rfl
    rotate_left
    ·simp only [sp_]
     rfl
    refine take_ (i := 2) (N := some 16) (v := ?_) (a' := ?_) M5_2 rfl rfl (by kernel_rfl) (fun _ _ _ h => h) (Or.inl ⟨by rfl, ?_⟩) hHeld ?_ ?_
    rotate_left
    ·rintro w' ⟨s0, s1, s2, s3⟩
     go_simp
     with_reducible rfl
    rotate_left
    ·simp only [sp_]
     rfl
    refine one_ (i := 1) (N := some 15) M5_3 rfl rfl (by kernel_rfl) (by decide) (fun K hK => ?_)
    refine gS_ Tryz.func38 #[.agg #[.int .i64 a0_0, .int .i64 a0_1]] ?_
    with_reducible refine (impl_rankOf.calls a0_0 a0_1 t211 _ A18.out).mono ?_
    rintro e w22 ⟨rfl, hb⟩
    refine ⟨_, rfl, ?_⟩
    replace BK207 := bB_ (g := gb207) hb
    replace BK208 := bB_ (g := gb208) hb
    replace HB := bT_ hb
    refine hS_ hK fun hHeld => ?_
    clear hK K
    refine nm_ ?_
    refine one_ (i := 3) (N := some 17) M5_4 rfl rfl (by kernel_rfl) (by decide) (fun K hK => ?_)
    refine gS_ Tryz.func38 #[.agg #[.int .i64 a1_0, .int .i64 a1_1]] ?_
    with_reducible refine (impl_rankOf.calls a1_0 a1_1 t212 _ A19.out).mono ?_
    rintro e w23 ⟨rfl, hb⟩
    refine ⟨_, rfl, ?_⟩
    replace BK207 := bB_ (g := gb207) hb
    replace BK208 := bB_ (g := gb208) hb
    replace HB := bT_ hb
    refine hS_ hK fun hHeld => ?_
    clear hK K
    refine nm_ ?_
    refine one_ (i := 4) (N := some 18) M5_5 rfl rfl (by kernel_rfl) (by decide) (fun K hK => ?_)
    refine gS_ Tryz.func41 #[.int .i64 t211, .int .i64 t212] ?_
    with_reducible refine (cmp_Compare_int.calls t211 t212 t213 _ A20.out).mono ?_
    rintro e w' ⟨rfl, ⟨nd, rfl⟩⟩
    refine ⟨_, rfl, ?_⟩
    refine hS_ hK fun hHeld => ?_
    clear hK K
    refine nm_ ?_
    refine pure_ (i := 5) (N := some 4) (v := ?_) (a' := ?_) M5_6 rfl rfl (by kernel_rfl) (fun _ _ _ h => h) (Or.inl ⟨by rfl, ?_⟩) ?_ ?_
    rotate_left
    ·intro w'
     go_simp
     with_reducible rfl
    rotate_left
    ·simp only [sp_]
     rfl
    refine pure_ (i := 6) (N := some 5) (v := ?_) (a' := ?_) M5_7 rfl rfl (by kernel_rfl) (fun _ _ _ h => h) (Or.inl ⟨by rfl, ?_⟩) ?_ ?_
    rotate_left
    ·intro w'
     go_simp
     with_reducible rfl
    rotate_left
    ·simp only [sp_]
     rfl
    refine done_ (by kernel_rfl) ?_
    try go_wp2
    go_ret2
    exact ⟨rfl, bO_⟩

/-! ### spec_l1Sign: function 42 -/
def spec_l1Sign.f (a0 : Int) : Option (Int) := if a0 > 0 then (some 1) else (if a0 < 0 then (some (-1)) else (some 0))
set_option maxHeartbeats 8000000 in
set_option maxRecDepth 100000 in
theorem spec_l1Sign.calls (a0 : Int) (r : Int) (w : World) (h : spec_l1Sign.f a0 = some r) :
  Calls Tryz.prog 42 #[.int .i64 a0] w fun e w' => e = .returned (.int .i64 r) ∧ Drawn0 w w' := by
 have H : (if a0 > 0 then (some 1) else (if a0 < 0 then (some (-1)) else (some 0))) = some r := h
 clear h
 by_cases c2 : a0 > 0
 ·rw [if_pos c2] at H
  replace c2 := decide_eq_true c2
  obtain rfl := Option.some.inj H
  go_enter Tryz.func42, Tryz.ntmps42
  go_wp2
  go_ret
  exact ⟨by first | rfl | (simp; done) | (simp [*]; done), by repeat (first | exact Drawn0.refl _ | apply Drawn0.step)⟩
 ·rw [if_neg c2] at H
  replace c2 := decide_eq_false c2
  by_cases c3 : a0 < 0
  ·rw [if_pos c3] at H
   replace c3 := decide_eq_true c3
   obtain rfl := Option.some.inj H
   go_enter Tryz.func42, Tryz.ntmps42
   go_wp2
   go_ret
   exact ⟨by first | rfl | (simp; done) | (simp [*]; done), by repeat (first | exact Drawn0.refl _ | apply Drawn0.step)⟩
  ·rw [if_neg c3] at H
   replace c3 := decide_eq_false c3
   obtain rfl := Option.some.inj H
   go_enter Tryz.func42, Tryz.ntmps42
   go_wp2
   go_ret
   exact ⟨by first | rfl | (simp; done) | (simp [*]; done), by repeat (first | exact Drawn0.refl _ | apply Drawn0.step)⟩

/-! ### spec_ComparePlates: function 9 -/
def spec_ComparePlates.j0 : Nat → Bool → Int → Int → Int → Int → Option (Int × Bool)
 | 0, _, _, _, _, _ => none
 | k + 1, x13, x215000, x215001, x216000, x216001 => if x13 = true then (some (0, false)) else ((spec_isRank.f x215000 x215001).bind fun t218 => ((spec_isRank.f x216000 x216001).bind fun t219 => ((spec_l1Sign.f (wrap64 (t218 - t219))).bind fun t220 => (some (t220, true)))))
def spec_ComparePlates.f (k : Nat) (a0_0 : Int) (a0_1 : Int) (a1_0 : Int) (a1_1 : Int) : Option (Int × Bool) := (spec_isPlate.f a0_0 a0_1).bind fun t216 => (if t216 = true then ((spec_isPlate.f a1_0 a1_1).bind fun t217 => (spec_ComparePlates.j0 k (!t217) a0_0 a0_1 a1_0 a1_1)) else (spec_ComparePlates.j0 k true a0_0 a0_1 a1_0 a1_1))
def spec_ComparePlates.T3 : Bool × List (List Nat × List Nat) := (true, [([], []), ([0], [0]), ([], []), ([2, 1], [2]), ([1, 3], [1, 3]), ([4, 3], [4]), ([5, 5, 0, 1, 2, 3, 4, 5], [5]), ([6, 0, 1, 2, 3, 4, 5, 6], [])])
def spec_ComparePlates.B3 : List Nat := [0, 1, 0, 7, 15, 31, 63, 127]
theorem spec_ComparePlates.tab3 : rtab .any (opsOf Tryz.f9 3) = spec_ComparePlates.T3 := by kernel_rfl
theorem spec_ComparePlates.bits3 : waitsOk spec_ComparePlates.T3.2 spec_ComparePlates.B3 = true := by kernel_rfl
set_option maxHeartbeats 8000000 in
set_option maxRecDepth 100000 in
theorem spec_ComparePlates.calls (k : Nat) (a0_0 : Int) (a0_1 : Int) (a1_0 : Int) (a1_1 : Int) (r1 : Int) (r2 : Bool) (w : World) (h : spec_ComparePlates.f k a0_0 a0_1 a1_0 a1_1 = some (r1, r2)) :
  Calls Tryz.prog 9 #[.agg #[.int .i64 a0_0, .int .i64 a0_1], .agg #[.int .i64 a1_0, .int .i64 a1_1]] w fun e w' => e = .returned (.tuple #[.int .i64 r1, .bool r2]) ∧ Below w.heap.size w w' := by
 have hu25 := Tryz.underlying25
 have HB := Aside0.mk (Below.refl w.heap.size w)
 have H : ((spec_isPlate.f a0_0 a0_1).bind fun t216 => (if t216 = true then ((spec_isPlate.f a1_0 a1_1).bind fun t217 => (spec_ComparePlates.j0 k (!t217) a0_0 a0_1 a1_0 a1_1)) else (spec_ComparePlates.j0 k true a0_0 a0_1 a1_0 a1_1))) = some (r1, r2) := h
 clear h
 have HC3 := Aside0.mk H
 clear H
 go_enter Tryz.func9, Tryz.ntmps9
 go_upto_region 1 with (first | (refine bx_ 2 #[.int .i64 a0_0, .int .i64 a0_1] 25 ?_; intro gb214 hg w4 BK214 hb; have GW214 := gW_ (w := w) hg; replace HB := bT_ hb; clear hb hg) | (refine bx_ 3 #[.int .i64 a1_0, .int .i64 a1_1] 25 ?_; intro gb215 hg w5 BK215 hb; have GW215 := gW_ (w := w) hg; replace HB := bT_ hb; have NB214_215 := Aside0.mk ((by rw [hg]; exact Nat.ne_of_lt (blk_lt (g := gb214) aO_) : gb214 ≠ gb215)); have NB215_214 := Aside0.mk ((by rw [hg]; exact Nat.ne_of_gt (blk_lt (g := gb214) aO_) : gb215 ≠ gb214)); replace BK214 := bB_ (g := gb214) hb; clear hb hg))
 (try simp only [sp_])
 go_cut [13] (fun v13 wc => ∃ (kq : Nat) (x13_2 : Bool), v13 = .bool x13_2 ∧ Aside0 (spec_ComparePlates.j0 kq x13_2 a0_0 a0_1 a1_0 a1_1 = some (r1, r2)) ∧ Aside0 (kq ≤ k) ∧ Aside0 (wc.heap[gb214]? = some (.cells #[.int .i64 a0_0, .int .i64 a0_1] 25 (0, 0))) ∧ Aside0 (wc.heap[gb215]? = some (.cells #[.int .i64 a1_0, .int .i64 a1_1] 25 (0, 0))) ∧ Aside0 (Below w.heap.size w wc))
 case first =>
  have H := HC3.out
  clear HC3
  obtain ⟨t216, A6, H⟩ := obA H
  by_cases c7 : t216 = true
  ·subst c7
   rw [if_pos rfl] at H
   obtain ⟨t217, A8, H⟩ := obA H
   have H' := Aside0.mk H
   clear H
   have hnb9 := NB214_215.out
   have hnc9 := NB215_214.out
   have hcz10_0 : w5.cell? ⟨gb214, 0, none⟩ = some (.int .i64 a0_0) := (blk_cell BK214.out 0).trans rfl
   have hcz10_1 : w5.cell? ⟨gb214, 1, none⟩ = some (.int .i64 a0_1) := (blk_cell BK214.out 1).trans rfl
   have hfz10_0 := blk_frozen BK214.out 0
   have hfz10_1 := blk_frozen BK214.out 1
   go_wp2_with (first | (refine gL_ Tryz.func39 (some 7) #[.agg #[.int .i64 a0_0, .int .i64 a0_1]] ?_; (with_reducible refine (spec_isPlate.calls a0_0 a0_1 true _ A6.out).mono ?_); rintro e w11 ⟨rfl, hb⟩; refine ⟨_, rfl, ?_⟩; replace BK214 := bB_ (g := gb214) hb; replace BK215 := bB_ (g := gb215) hb; replace HB := bT_ hb; have hcz12_0 : w11.cell? ⟨gb215, 0, none⟩ = some (.int .i64 a1_0) := (blk_cell BK215.out 0).trans rfl; have hcz12_1 : w11.cell? ⟨gb215, 1, none⟩ = some (.int .i64 a1_1) := (blk_cell BK215.out 1).trans rfl; have hfz12_0 := blk_frozen BK215.out 0; have hfz12_1 := blk_frozen BK215.out 1) | (go_at_call 39; (with_reducible refine (spec_isPlate.calls a1_0 a1_1 t217 _ A8.out).mono ?_); rintro e w13 ⟨rfl, hb⟩; replace BK214 := bB_ (g := gb214) hb; replace BK215 := bB_ (g := gb215) hb; replace HB := bT_ hb))
   go_meet
   case rel => exact ⟨_, (!t217), rfl, H', ⟨by first | omega | exact Nat.le_refl _⟩, ⟨by exact BK214.out⟩, ⟨by exact BK215.out⟩, ⟨bO_⟩⟩
  ·replace c7 := Bool.eq_false_iff.mpr c7
   subst c7
   rw [if_neg (show ¬ (false = true) by decide)] at H
   have H' := Aside0.mk H
   clear H
   have hnb14 := NB214_215.out
   have hnc14 := NB215_214.out
   have hcz15_0 : w5.cell? ⟨gb214, 0, none⟩ = some (.int .i64 a0_0) := (blk_cell BK214.out 0).trans rfl
   have hcz15_1 : w5.cell? ⟨gb214, 1, none⟩ = some (.int .i64 a0_1) := (blk_cell BK214.out 1).trans rfl
   have hfz15_0 := blk_frozen BK214.out 0
   have hfz15_1 := blk_frozen BK214.out 1
   go_wp2_with (first | (refine gL_ Tryz.func39 (some 7) #[.agg #[.int .i64 a0_0, .int .i64 a0_1]] ?_; (with_reducible refine (spec_isPlate.calls a0_0 a0_1 false _ A6.out).mono ?_); rintro e w16 ⟨rfl, hb⟩; refine ⟨_, rfl, ?_⟩; replace BK214 := bB_ (g := gb214) hb; replace BK215 := bB_ (g := gb215) hb; replace HB := bT_ hb))
   go_meet
   case rel => exact ⟨_, (true), rfl, H', ⟨by first | omega | exact Nat.le_refl _⟩, ⟨by exact BK214.out⟩, ⟨by exact BK215.out⟩, ⟨bO_⟩⟩
 case rest =>
  clear HC3
  try clear c1
  try clear p2
  try clear c3
  try clear c7
  try clear c9
  try clear c14
  try clear hcz10_0
  try clear hcz10_1
  try clear hcz12_0
  try clear hcz12_1
  try clear hcz15_0
  try clear hcz15_1
  try clear hfz10_0
  try clear hfz10_1
  try clear hfz12_0
  try clear hfz12_1
  try clear hfz15_0
  try clear hfz15_1
  obtain ⟨kq, x13_2, rfl, HA, HJ2, BK214, BK215, HB⟩ := hcut
  cases kq with
  | zero => exact absurd HA.out (by simp [spec_ComparePlates.j0])
  | succ kj2 =>
   have H := HA.out
   clear HA
   simp only [spec_ComparePlates.j0] at H
   by_cases c17 : x13_2 = true
   ·subst c17
    rw [if_pos rfl] at H
    simp only [Option.some.injEq, Prod.mk.injEq] at H
    obtain ⟨rfl, rfl⟩ := H
    go_wp2
    go_ret2
    exact ⟨rfl, bO_⟩
   ·replace c17 := Bool.eq_false_iff.mpr c17
    subst c17
    rw [if_neg (show ¬ (false = true) by decide)] at H
    obtain ⟨t218, A18, H⟩ := obA H
    obtain ⟨t219, A19, H⟩ := obA H
    obtain ⟨t220, A20, H⟩ := obA H
    simp only [Option.some.injEq, Prod.mk.injEq] at H
    obtain ⟨rfl, rfl⟩ := H
    try go_wp2
    replace BK214 := Aside0.mk (blk_drew BK214.out)
    replace BK215 := Aside0.mk (blk_drew BK215.out)
    replace HB := Aside0.mk (below_drew1 HB.out)
    refine start_ (n := 8) (S := fun w' => w'.cell? ⟨gb214, 0, none⟩ = some (.int .i64 a0_0) ∧ w'.cell? ⟨gb214, 1, none⟩ = some (.int .i64 a0_1) ∧ w'.cell? ⟨gb215, 0, none⟩ = some (.int .i64 a1_0) ∧ w'.cell? ⟨gb215, 1, none⟩ = some (.int .i64 a1_1)) (ds := []) M5_8 (by kernel_rfl) rfl rfl ⟨(blk_cell BK214.out 0).trans rfl, (blk_cell BK214.out 1).trans rfl, (blk_cell BK215.out 0).trans rfl, (blk_cell BK215.out 1).trans rfl⟩ (fun hHeld => ?_); refine with_tabW spec_ComparePlates.tab3 spec_ComparePlates.bits3 (fun HT_ HW_ => ?_)
    generalize wc.drew = w21 at BK214 BK215 HB hHeld ⊢
    refine ta_ 0 14 M5_9 ?_
    refine ta_ 2 16 M5_10 ?_
    refine on_ 1 (some 15) M5_11 fun K hK => ?_
    refine gS_ Tryz.func40 #[.agg #[.int .i64 a0_0, .int .i64 a0_1]] ?_
    with_reducible refine (spec_isRank.calls a0_0 a0_1 t218 _ A18.out).mono ?_
    rintro e w22 ⟨rfl, hb⟩
    refine ⟨_, rfl, ?_⟩
    replace BK214 := bB_ (g := gb214) hb
    replace BK215 := bB_ (g := gb215) hb
    replace HB := bT_ hb
    refine hS_ hK fun hHeld => ?_
    clear hK K
    refine nm_ ?_
    refine on_ 3 (some 17) M5_12 fun K hK => ?_
    refine gS_ Tryz.func40 #[.agg #[.int .i64 a1_0, .int .i64 a1_1]] ?_
    with_reducible refine (spec_isRank.calls a1_0 a1_1 t219 _ A19.out).mono ?_
    rintro e w23 ⟨rfl, hb⟩
    refine ⟨_, rfl, ?_⟩
    replace BK214 := bB_ (g := gb214) hb
    replace BK215 := bB_ (g := gb215) hb
    replace HB := bT_ hb
    refine hS_ hK fun hHeld => ?_
    clear hK K
    refine nm_ ?_
    refine pu_ 4 18 M5_13 ?_
    refine on_ 5 (some 19) M5_14 fun K hK => ?_
    refine gS_ Tryz.func42 #[.int .i64 (wrap64 (t218 - t219))] ?_
    with_reducible refine (spec_l1Sign.calls (wrap64 (t218 - t219)) t220 _ A20.out).mono ?_
    rintro e w' ⟨rfl, ⟨nd, rfl⟩⟩
    refine ⟨_, rfl, ?_⟩
    refine hS_ hK fun hHeld => ?_
    clear hK K
    refine nm_ ?_
    refine pu_ 6 4 M5_15 ?_
    refine pu_ 7 5 M5_16 ?_
    refine done_ (done_of HT_.out (by kernel_rfl)) ?_
    try go_wp2
    go_ret2
    exact ⟨rfl, bO_⟩

/-! ### impl_plateAt: function 43 -/
def impl_plateAt.f (a0 : Int) : Option (Int × Int) := some (wrap64 (Int.tdiv a0 27), Int.tmod a0 27)
set_option maxHeartbeats 8000000 in
set_option maxRecDepth 100000 in
theorem impl_plateAt.calls (a0 : Int) (r1 : Int) (r2 : Int) (w : World) (h : impl_plateAt.f a0 = some (r1, r2)) :
  Calls Tryz.prog 43 #[.int .i64 a0] w fun e w' => e = .returned (.agg #[.int .i64 r1, .int .i64 r2]) ∧ Below w.heap.size w w' := by
 have hu25 := Tryz.underlying25
 have HB := Aside0.mk (Below.refl w.heap.size w)
 have H : (some (wrap64 (Int.tdiv a0 27), Int.tmod a0 27)) = some (r1, r2) := h
 clear h
 simp only [Option.some.injEq, Prod.mk.injEq] at H
 obtain ⟨rfl, rfl⟩ := H
 go_enter Tryz.func43, Tryz.ntmps43
 go_wp2_with (first | (refine bx_ 2 #[.int .i64 0, .int .i64 0] 25 ?_; intro gb221 hg w2 BK221 hb; have GW221 := gW_ (w := w) hg; replace HB := bT_ hb; clear hb hg; have hcz3_0 : w2.cell? ⟨gb221, 0, none⟩ = some (.int .i64 0) := (blk_cell BK221.out 0).trans rfl; have hcz3_1 : w2.cell? ⟨gb221, 1, none⟩ = some (.int .i64 0) := (blk_cell BK221.out 1).trans rfl; have hfz3_0 := blk_frozen BK221.out 0; have hfz3_1 := blk_frozen BK221.out 1))
 refine bodyPost_ret (results_cell_row rfl _ _ gb221 25 #[.int .i64 (wrap64 (Int.tdiv a0 27)), .int .i64 (Int.tmod a0 27)] (0, 0) _ rfl (by refine blk_put (cs := #[.int .i64 (wrap64 (Int.tdiv a0 27)), .int .i64 0]) ?_ 1 _ rfl; refine blk_put (cs := #[.int .i64 0, .int .i64 0]) ?_ 0 _ rfl; exact BK221.out) Tryz.underlying25 rfl (by kernel_rfl)) rfl ?_
 exact ⟨rfl, bO_⟩

/-! ### impl_MiddlePlate: function 10 -/
def impl_MiddlePlate.j0 : Nat → Int → Bool → Int → Int → Option (Int × Int × Bool)
 | 0, _, _, _, _ => none
 | k + 1, x6, x19, x223000, x223001 => if x19 = true then (some (0, 0, false)) else ((impl_rankOf.f x223000 x223001).bind fun t227 => ((impl_plateAt.f (wrap64 ((wrap64 (t227 + 1)) + (wrap64 (Int.tdiv (wrap64 (x6 - 1)) 2))))).bind fun bt228 => (some (bt228.1, bt228.2, true))))
def impl_MiddlePlate.f (k : Nat) (a0_0 : Int) (a0_1 : Int) (a1_0 : Int) (a1_1 : Int) : Option (Int × Int × Bool) := (impl_CountBetween.f k a0_0 a0_1 a1_0 a1_1).bind fun bt225 => (if bt225.2 = true then (impl_MiddlePlate.j0 k bt225.1 (bt225.1 == 0) a0_0 a0_1) else (impl_MiddlePlate.j0 k bt225.1 true a0_0 a0_1))
set_option maxHeartbeats 8000000 in
set_option maxRecDepth 100000 in
theorem impl_MiddlePlate.calls (k : Nat) (a0_0 : Int) (a0_1 : Int) (a1_0 : Int) (a1_1 : Int) (r1 : Int) (r2 : Int) (r3 : Bool) (w : World) (h : impl_MiddlePlate.f k a0_0 a0_1 a1_0 a1_1 = some (r1, r2, r3)) :
  Calls Tryz.prog 10 #[.agg #[.int .i64 a0_0, .int .i64 a0_1], .agg #[.int .i64 a1_0, .int .i64 a1_1]] w fun e w' => e = .returned (.tuple #[.agg #[.int .i64 r1, .int .i64 r2], .bool r3]) ∧ Below w.heap.size w w' := by
 have hu25 := Tryz.underlying25
 have HB := Aside0.mk (Below.refl w.heap.size w)
 have H : ((impl_CountBetween.f k a0_0 a0_1 a1_0 a1_1).bind fun bt225 => (if bt225.2 = true then (impl_MiddlePlate.j0 k bt225.1 (bt225.1 == 0) a0_0 a0_1) else (impl_MiddlePlate.j0 k bt225.1 true a0_0 a0_1))) = some (r1, r2, r3) := h
 clear h
 obtain ⟨⟨t225, t226⟩, A3, H⟩ := obA H
 dsimp only at H
 have HC4 := Aside0.mk H
 clear H
 go_enter Tryz.func10, Tryz.ntmps10
 go_upto_region 2 with (first | (refine bx_ 2 #[.int .i64 a0_0, .int .i64 a0_1] 25 ?_; intro gb222 hg w5 BK222 hb; have GW222 := gW_ (w := w) hg; replace HB := bT_ hb; clear hb hg) | (refine bx_ 3 #[.int .i64 a1_0, .int .i64 a1_1] 25 ?_; intro gb223 hg w6 BK223 hb; have GW223 := gW_ (w := w) hg; replace HB := bT_ hb; have NB222_223 := Aside0.mk ((by rw [hg]; exact Nat.ne_of_lt (blk_lt (g := gb222) aO_) : gb222 ≠ gb223)); have NB223_222 := Aside0.mk ((by rw [hg]; exact Nat.ne_of_gt (blk_lt (g := gb222) aO_) : gb223 ≠ gb222)); replace BK222 := bB_ (g := gb222) hb; clear hb hg) | (refine bx_ 4 #[.int .i64 0, .int .i64 0] 25 ?_; intro gb224 hg w7 BK224 hb; have GW224 := gW_ (w := w) hg; replace HB := bT_ hb; have NB222_224 := Aside0.mk ((by rw [hg]; exact Nat.ne_of_lt (blk_lt (g := gb222) aO_) : gb222 ≠ gb224)); have NB224_222 := Aside0.mk ((by rw [hg]; exact Nat.ne_of_gt (blk_lt (g := gb222) aO_) : gb224 ≠ gb222)); replace BK222 := bB_ (g := gb222) hb; have NB223_224 := Aside0.mk ((by rw [hg]; exact Nat.ne_of_lt (blk_lt (g := gb223) aO_) : gb223 ≠ gb224)); have NB224_223 := Aside0.mk ((by rw [hg]; exact Nat.ne_of_gt (blk_lt (g := gb223) aO_) : gb224 ≠ gb223)); replace BK223 := bB_ (g := gb223) hb; clear hb hg; have hnb8 := NB222_223.out; have hnc8 := NB223_222.out; have hnb9 := NB222_224.out; have hnc9 := NB224_222.out; have hcz10_0 : w7.cell? ⟨gb222, 0, none⟩ = some (.int .i64 a0_0) := (blk_cell BK222.out 0).trans rfl; have hcz10_1 : w7.cell? ⟨gb222, 1, none⟩ = some (.int .i64 a0_1) := (blk_cell BK222.out 1).trans rfl; have hfz10_0 := blk_frozen BK222.out 0; have hfz10_1 := blk_frozen BK222.out 1; have hnb11 := NB223_224.out; have hnc11 := NB224_223.out; have hcz12_0 : w7.cell? ⟨gb223, 0, none⟩ = some (.int .i64 a1_0) := (blk_cell BK223.out 0).trans rfl; have hcz12_1 : w7.cell? ⟨gb223, 1, none⟩ = some (.int .i64 a1_1) := (blk_cell BK223.out 1).trans rfl; have hfz12_0 := blk_frozen BK223.out 0; have hfz12_1 := blk_frozen BK223.out 1) | (refine gL_ Tryz.func6 (some 11) #[.agg #[.int .i64 a0_0, .int .i64 a0_1], .agg #[.int .i64 a1_0, .int .i64 a1_1]] ?_; (with_reducible refine (impl_CountBetween.calls k a0_0 a0_1 a1_0 a1_1 t225 t226 _ A3.out).mono ?_); rintro e w13 ⟨rfl, hb⟩; refine ⟨_, rfl, ?_⟩; replace BK222 := bB_ (g := gb222) hb; replace BK223 := bB_ (g := gb223) hb; replace BK224 := bB_ (g := gb224) hb; replace HB := bT_ hb))
 (try simp only [sp_])
 go_cut [19] (fun v19 wc => ∃ (kq : Nat) (x19_3 : Bool), v19 = .bool x19_3 ∧ Aside0 (impl_MiddlePlate.j0 kq t225 x19_3 a0_0 a0_1 = some (r1, r2, r3)) ∧ Aside0 (kq ≤ k) ∧ Aside0 (wc.heap[gb222]? = some (.cells #[.int .i64 a0_0, .int .i64 a0_1] 25 (0, 0))) ∧ Aside0 (wc.heap[gb223]? = some (.cells #[.int .i64 a1_0, .int .i64 a1_1] 25 (0, 0))) ∧ Aside0 (wc.heap[gb224]? = some (.cells #[.int .i64 0, .int .i64 0] 25 (0, 0))) ∧ Aside0 (Below w.heap.size w wc))
 case first =>
  have H := HC4.out
  clear HC4
  by_cases c14 : t226 = true
  ·subst c14
   rw [if_pos rfl] at H
   have H' := Aside0.mk H
   clear H
   go_wp2
   go_meet
   case rel => exact ⟨_, ((t225 == 0)), rfl, H', ⟨by first | omega | exact Nat.le_refl _⟩, ⟨by exact BK222.out⟩, ⟨by exact BK223.out⟩, ⟨by exact BK224.out⟩, ⟨bO_⟩⟩
  ·replace c14 := Bool.eq_false_iff.mpr c14
   subst c14
   rw [if_neg (show ¬ (false = true) by decide)] at H
   have H' := Aside0.mk H
   clear H
   go_wp2
   go_meet
   case rel => exact ⟨_, (true), rfl, H', ⟨by first | omega | exact Nat.le_refl _⟩, ⟨by exact BK222.out⟩, ⟨by exact BK223.out⟩, ⟨by exact BK224.out⟩, ⟨bO_⟩⟩
 case rest =>
  clear HC4
  try clear c1
  try clear p2
  try clear c6
  try clear c8
  try clear c9
  try clear c10
  try clear c11
  try clear c14
  try clear hcz10_0
  try clear hcz10_1
  try clear hcz12_0
  try clear hcz12_1
  try clear hfz10_0
  try clear hfz10_1
  try clear hfz12_0
  try clear hfz12_1
  obtain ⟨kq, x19_3, rfl, HA, HJ3, BK222, BK223, BK224, HB⟩ := hcut
  cases kq with
  | zero => exact absurd HA.out (by simp [impl_MiddlePlate.j0])
  | succ kj3 =>
   have H := HA.out
   clear HA
   simp only [impl_MiddlePlate.j0] at H
   by_cases c15 : x19_3 = true
   ·subst c15
    rw [if_pos rfl] at H
    simp only [Option.some.injEq, Prod.mk.injEq] at H
    obtain ⟨rfl, rfl, rfl⟩ := H
    have hnb16 := NB224_222.out
    have hnc16 := NB222_224.out
    have hnb17 := NB224_223.out
    have hnc17 := NB223_224.out
    have hcz18_0 : wc.cell? ⟨gb224, 0, none⟩ = some (.int .i64 0) := (blk_cell BK224.out 0).trans rfl
    have hcz18_1 : wc.cell? ⟨gb224, 1, none⟩ = some (.int .i64 0) := (blk_cell BK224.out 1).trans rfl
    have hfz18_0 := blk_frozen BK224.out 0
    have hfz18_1 := blk_frozen BK224.out 1
    go_wp2
    refine bodyPost_ret (results_ct rfl _ _ gb224 25 #[.int .i64 0, .int .i64 0] (0, 0) _ rfl (by refine blk_put (cs := #[.int .i64 0, .int .i64 0]) ?_ 1 _ rfl; refine blk_put (cs := #[.int .i64 0, .int .i64 0]) ?_ 0 _ rfl; exact BK224.out) Tryz.underlying25 rfl (by kernel_rfl)) rfl ?_
    exact ⟨rfl, bO_⟩
   ·replace c15 := Bool.eq_false_iff.mpr c15
    subst c15
    rw [if_neg (show ¬ (false = true) by decide)] at H
    obtain ⟨t227, A19, H⟩ := obA H
    obtain ⟨⟨t228, t229⟩, A20, H⟩ := obA H
    dsimp only at H
    simp only [Option.some.injEq, Prod.mk.injEq] at H
    obtain ⟨rfl, rfl, rfl⟩ := H
    have hnb21 := NB222_223.out
    have hnc21 := NB223_222.out
    have hnb22 := NB222_224.out
    have hnc22 := NB224_222.out
    have hcz23_0 : wc.cell? ⟨gb222, 0, none⟩ = some (.int .i64 a0_0) := (blk_cell BK222.out 0).trans rfl
    have hcz23_1 : wc.cell? ⟨gb222, 1, none⟩ = some (.int .i64 a0_1) := (blk_cell BK222.out 1).trans rfl
    have hfz23_0 := blk_frozen BK222.out 0
    have hfz23_1 := blk_frozen BK222.out 1
    go_wp2_with (first | (refine gL_ Tryz.func38 (some 22) #[.agg #[.int .i64 a0_0, .int .i64 a0_1]] ?_; (with_reducible refine (impl_rankOf.calls a0_0 a0_1 t227 _ A19.out).mono ?_); rintro e w24 ⟨rfl, hb⟩; refine ⟨_, rfl, ?_⟩; replace BK222 := bB_ (g := gb222) hb; replace BK223 := bB_ (g := gb223) hb; replace BK224 := bB_ (g := gb224) hb; replace HB := bT_ hb) | (refine gL_ Tryz.func43 (some 28) #[.int .i64 (wrap64 ((wrap64 (t227 + 1)) + (wrap64 (Int.tdiv (wrap64 (t225 - 1)) 2))))] ?_; (with_reducible refine (impl_plateAt.calls (wrap64 ((wrap64 (t227 + 1)) + (wrap64 (Int.tdiv (wrap64 (t225 - 1)) 2)))) t228 t229 _ A20.out).mono ?_); rintro e w25 ⟨rfl, hb⟩; refine ⟨_, rfl, ?_⟩; replace BK222 := bB_ (g := gb222) hb; replace BK223 := bB_ (g := gb223) hb; replace BK224 := bB_ (g := gb224) hb; replace HB := bT_ hb; have hnb26 := NB224_223.out; have hnc26 := NB223_224.out; have hcz27_0 : w25.cell? ⟨gb224, 0, none⟩ = some (.int .i64 0) := (blk_cell BK224.out 0).trans rfl; have hcz27_1 : w25.cell? ⟨gb224, 1, none⟩ = some (.int .i64 0) := (blk_cell BK224.out 1).trans rfl; have hfz27_0 := blk_frozen BK224.out 0; have hfz27_1 := blk_frozen BK224.out 1))
    refine bodyPost_ret (results_ct rfl _ _ gb224 25 #[.int .i64 t228, .int .i64 t229] (0, 0) _ rfl (by refine blk_put (cs := #[.int .i64 t228, .int .i64 0]) ?_ 1 _ rfl; refine blk_put (cs := #[.int .i64 0, .int .i64 0]) ?_ 0 _ rfl; exact BK224.out) Tryz.underlying25 rfl (by kernel_rfl)) rfl ?_
    exact ⟨rfl, bO_⟩

/-! ### spec_isOf: function 44 -/
def spec_isOf.f (a0 : Int) : Option (Int × Int) := some (wrap64 (Int.tdiv a0 27), Int.tmod a0 27)
set_option maxHeartbeats 8000000 in
set_option maxRecDepth 100000 in
theorem spec_isOf.calls (a0 : Int) (r1 : Int) (r2 : Int) (w : World) (h : spec_isOf.f a0 = some (r1, r2)) :
  Calls Tryz.prog 44 #[.int .i64 a0] w fun e w' => e = .returned (.agg #[.int .i64 r1, .int .i64 r2]) ∧ Below w.heap.size w w' := by
 have hu25 := Tryz.underlying25
 have HB := Aside0.mk (Below.refl w.heap.size w)
 have H : (some (wrap64 (Int.tdiv a0 27), Int.tmod a0 27)) = some (r1, r2) := h
 clear h
 simp only [Option.some.injEq, Prod.mk.injEq] at H
 obtain ⟨rfl, rfl⟩ := H
 go_enter Tryz.func44, Tryz.ntmps44
 go_wp2_with (first | (refine bx_ 2 #[.int .i64 0, .int .i64 0] 25 ?_; intro gb230 hg w2 BK230 hb; have GW230 := gW_ (w := w) hg; replace HB := bT_ hb; clear hb hg; have hcz3_0 : w2.cell? ⟨gb230, 0, none⟩ = some (.int .i64 0) := (blk_cell BK230.out 0).trans rfl; have hcz3_1 : w2.cell? ⟨gb230, 1, none⟩ = some (.int .i64 0) := (blk_cell BK230.out 1).trans rfl; have hfz3_0 := blk_frozen BK230.out 0; have hfz3_1 := blk_frozen BK230.out 1))
 refine bodyPost_ret (results_cell_row rfl _ _ gb230 25 #[.int .i64 (wrap64 (Int.tdiv a0 27)), .int .i64 (Int.tmod a0 27)] (0, 0) _ rfl (by refine blk_put (cs := #[.int .i64 (wrap64 (Int.tdiv a0 27)), .int .i64 0]) ?_ 1 _ rfl; refine blk_put (cs := #[.int .i64 0, .int .i64 0]) ?_ 0 _ rfl; exact BK230.out) Tryz.underlying25 rfl (by kernel_rfl)) rfl ?_
 exact ⟨rfl, bO_⟩

end Go.Proofs.YtbnhfipcjbnknaaGreatDoor.PFnPlatesOrder
