/- Functions that the law FnPlatesOrder reaches, each as a Lean function, and that the Go code comes to just these answers (written by programs). -/
import Derived.Test.YtbnhfipcjbnknaaGreatDoorPFnPlatesOrderx0
import Derived.Test.YtbnhfipcjbnknaaGreatDoorPFnPlatesOrderx2
import Derived.Test.YtbnhfipcjbnknaaGreatDoorPFnPlatesOrderx12
import Derived.Test.YtbnhfipcjbnknaaGreatDoorPFnPlatesOrderx15
import Derived.Test.YtbnhfipcjbnknaaGreatDoorPFnPlatesOrderx16
namespace Go.Proofs.YtbnhfipcjbnknaaGreatDoor.PFnPlatesOrder
open Go.RowKit Go.Proofs.YtbnhfipcjbnknaaGreatDoorW.PrintWords Go.Proofs.YtbnhfipcjbnknaaGreatDoorW.PrintLast Go.Proofs.YtbnhfipcjbnknaaGreatDoorW.PrintMore
attribute [local go_sem] max2_int min2_int max_two min_two max_three min_three max_four min_four   -- for this text's walks alone
set_option linter.unusedVariables false
set_option linter.unusedSimpArgs false

/-! ### spec_RenumberPlates: function 25 -/
def spec_RenumberPlates.l0 : Nat → List (S25) → Int → Int → Option ((List (S25)) × Bool)
 | 0, _, _, _ => none
 | k + 1, x4, x10, x11 => if x11 < x10 then (if x4.length < 8796093022208 then (spec_RenumberPlates.l0 k (x4 ++ [(⟨wrap64 (x11 + 1), 0⟩ : S25)]) x10 (wrap64 (x11 + 1))) else (none)) else (some (x4, true))
def spec_RenumberPlates.f (k : Nat) (l0 : List (S25)) : Option ((List (S25)) × Bool) := (spec_isGood.f k l0).bind fun t460 => (if t460 = true then (spec_RenumberPlates.l0 k ([] : List (S25)) (l0.length : Int) 0) else (some (([] : List (S25)), false)))
set_option maxHeartbeats 8000000 in
set_option maxRecDepth 100000 in
theorem spec_RenumberPlates.calls (k : Nat) (A0 : Option Addr) (c0 : Nat) (l0 : List (S25)) (r1 : List (S25)) (r2 : Bool) (w : World) (hr0 : Kd.C k25 w A0 l0.length l0) (hc0 : l0.length ≤ c0) (h : spec_RenumberPlates.f k l0 = some (r1, r2)) :
  Calls Tryz.prog 25 #[.slice A0 l0.length c0] w fun e w' => ∃ v0_ : Value, e = .returned (.tuple #[v0_, .bool r2]) ∧ Kd.R k25 25 w' w.heap.size (fun _ => True) v0_ r1 ∧ Below w.heap.size w w' := by
 have hu25 := Tryz.underlying25
 have HR0 := Aside0.mk hr0
 have HC0 := Aside0.mk hc0
 clear hr0 hc0
 have HB := Aside0.mk (Below.refl w.heap.size w)
 have H : ((spec_isGood.f k l0).bind fun t460 => (if t460 = true then (spec_RenumberPlates.l0 k ([] : List (S25)) (l0.length : Int) 0) else (some (([] : List (S25)), false)))) = some (r1, r2) := h
 clear h
 replace H := Option.bind_eq_some_iff.mp H
 obtain ⟨t460, A20, H⟩ := H
 replace H : (if t460 = true then (spec_RenumberPlates.l0 k ([] : List (S25)) (l0.length : Int) 0) else (some (([] : List (S25)), false))) = some (r1, r2) := H
 have A2 := Aside0.mk A20
 clear A20
 by_cases c3 : t460 = true
 ·subst c3
  rw [if_pos rfl] at H
  have H' := Aside0.mk H
  clear H
  go_enter Tryz.func25, Tryz.ntmps25
  go_wp2_with (first | ((with_reducible refine gate_callee (f := 51) rfl ?_); refine goesL_ (some 7) rfl rfl Tryz.func51 (by kernel_rfl) rfl #[.slice A0 l0.length c0] rfl (by (try simp only [List.map_toArray, List.map_cons, List.map_nil]); first | done | rfl | (simp only [List.length_drop, List.length_take]; rfl)) ?_; (with_reducible refine (spec_isGood.calls k _ _ l0 true _ ?side1 ?side2 A2.out).mono ?_); (case side1 => repeat (first | exact HR0.out | (with_reducible refine Kd.C_alloc ?_ _) | (with_reducible refine Kd.C_drewN ?_ _) | (with_reducible refine Kd.C_drew ?_))); (case side2 => exact HC0.out); rintro e w4 ⟨rfl, hb⟩; refine ⟨_, rfl, ?_⟩; replace HB := Aside0.mk (below_step (by repeat (first | (with_reducible first | exact HB.out | apply below_alloc | apply pw_below_drewN | apply below_drew1) | exact HB.out)) hb); (try clear hb); (try clear hb2); (try clear hk); (try clear hi)))
  go_loopg [4, 11] k (fun kq v4 v11 w' => ∃ (x4_1 : List (S25)) (x11_1 : Int), v11 = .int .i64 x11_1 ∧ Aside0 (spec_RenumberPlates.l0 kq x4_1 (l0.length : Int) x11_1 = some (r1, r2)) ∧ Aside0 (kq ≤ k) ∧ Aside0 (Kd.R k25 25 w' w.heap.size (fun _ => True) v4 x4_1) ∧ Aside0 (Below w.heap.size w w'))
  case atStart => exact ⟨(([] : List (S25))), (0), (by first | rfl | (simp; done) | (simp [*]; done)), H', ⟨Nat.le_refl _⟩, ⟨by first | exact Kd.R_nil _ _ _ _ _ | exact Kd.N_nil _ _ _ _ _ | exact Kd.V_nil _ _ _ _ _ | exact Kd.Q_nil _ _ _ _ _ | exact Kd.S_nil _ _ _ _ _⟩, ⟨by repeat (first | (with_reducible first | exact HB.out | apply below_alloc | apply pw_below_drewN | apply below_drew1) | exact HB.out)⟩⟩
  case round =>
   clear H'
   try clear c2
   try clear p2
   try clear c3
   obtain ⟨x4_1, x11_1, rfl, HA, HK1, HO_4, HB⟩ := hrel
   cases gk with
   | zero => exact absurd HA.out (by simp [spec_RenumberPlates.l0])
   | succ k1 =>
    have H := HA.out
    clear HA
    simp only [spec_RenumberPlates.l0] at H
    by_cases c5 : x11_1 < (l0.length : Int)
    ·rw [if_pos c5] at H
     have c5b0 : decide (x11_1 < (l0.length : Int)) = true := decide_eq_true c5
     clear c5
     by_cases c6 : x4_1.length < 8796093022208
     ·rw [if_pos c6] at H
      have LMc6 := Aside0.mk c6
      clear c6
      obtain ⟨y461, hy461⟩ : ∃ y_ : List (S25), y_ = (x4_1 ++ [(⟨wrap64 (x11_1 + 1), 0⟩ : S25)]) := ⟨_, rfl⟩
      replace H : (spec_RenumberPlates.l0 k1 y461 (l0.length : Int) (wrap64 (x11_1 + 1))) = some (r1, r2) := by first | (rw [hy461]; with_reducible exact H) | (have H2_ := (Option.bind_some _ _).symm.trans H; rw [hy461]; with_reducible exact H2_) | (have H2_ := (Option.bind_some _ _).symm.trans H; with_reducible exact H2_) | with_reducible exact H | (rw [hy461]; exact H) | exact H
      have Ny461 := Aside0.mk hy461
      clear hy461
      have H' := Aside0.mk H
      clear H
      go_wp2_with (first | ((with_reducible refine gate_builtin (b := .append) (xs := #[.tmp 14, .tmp 18]) rfl ?_); at_builtin; refine Kd.R_append k25 (w0 := w) w.heap.size rfl (.tmp 14) (.tmp 18) 37 25 (.agg #[(.int .i64 0), (.int .i64 0)]) 16 rfl Tryz.underlying37 info25 rfl (by decide) (by omega) u4 x4_1 (⟨wrap64 (x11_1 + 1), 0⟩ : S25) [.int .i64 (wrap64 (x11_1 + 1)), .int .i64 0] (fun _ => True) (fun _ => False) rfl rfl ?aP (fun _ hk => hk.elim) ?aF ?aO ?aB ?aS ?aL ?_; (case aP => exact k25_mkM _ _ _ (⟨wrap64 (x11_1 + 1), 0⟩ : S25)); (case aB => exact (by repeat (first | (with_reducible first | exact HB.out | apply below_alloc | apply pw_below_drewN | apply below_drew1) | exact HB.out))); (case aF => exact (fun _ _ => trivial)); (case aO => exact (by (with_reducible repeat (first | apply Kd.R_alloc | apply Kd.R_drewN | apply Kd.R_drew)); exact HO_4.out)); (case aS => exact (below_size (by repeat (first | (with_reducible first | exact HB.out | apply below_alloc | apply pw_below_drewN | apply below_drew1) | exact HB.out)))); (case aL => have := LMc6.out; omega); intro v462 w7 ho hb hg hat; rw [← Ny461.out] at ho; have n0_ := Aside0.mk (hb); have n1_ := Aside0.mk (ho); clear HB; clear HO_4; have HB := n0_; have HO463 := n1_; clear n0_ n1_; clear ho hb hg hat))
      go_roundg k1
      case measure => have := HK1.out; omega
      case rel => exact ⟨(y461), (wrap64 (x11_1 + 1)), (by first | rfl | (simp; done) | (simp [*]; done)), H', ⟨by have := HK1.out; omega⟩, ⟨by (with_reducible repeat (first | apply Kd.R_alloc | apply Kd.R_drewN | apply Kd.R_drew)); exact HO463.out⟩, ⟨by repeat (first | (with_reducible first | exact HB.out | apply below_alloc | apply pw_below_drewN | apply below_drew1) | exact HB.out)⟩⟩
     ·rw [if_neg c6] at H
      exact absurd H (by simp)
    ·rw [if_neg c5] at H
     have c5b0 : decide (x11_1 < (l0.length : Int)) = false := decide_eq_false c5
     clear c5
     simp only [Option.some.injEq, Prod.mk.injEq] at H
     obtain ⟨rfl, rfl⟩ := H
     go_wp2
     go_ret2
     exact ⟨_, by first | rfl | (simp [errW_none, errW_some] <;> rfl) | (simp [*, errW_none, errW_some] <;> rfl), by (with_reducible repeat (first | apply Kd.R_alloc | apply Kd.R_drewN | apply Kd.R_drew)); exact HO_4.out, by repeat (first | (with_reducible first | exact HB.out | apply below_alloc | apply pw_below_drewN | apply below_drew1) | exact HB.out)⟩
 ·replace c3 := Bool.eq_false_iff.mpr c3
  subst c3
  rw [if_neg (show ¬ (false = true) by decide)] at H
  simp only [Option.some.injEq, Prod.mk.injEq] at H
  obtain ⟨rfl, rfl⟩ := H
  go_enter Tryz.func25, Tryz.ntmps25
  go_wp2_with (first | ((with_reducible refine gate_callee (f := 51) rfl ?_); refine goesL_ (some 7) rfl rfl Tryz.func51 (by kernel_rfl) rfl #[.slice A0 l0.length c0] rfl (by (try simp only [List.map_toArray, List.map_cons, List.map_nil]); first | done | rfl | (simp only [List.length_drop, List.length_take]; rfl)) ?_; (with_reducible refine (spec_isGood.calls k _ _ l0 false _ ?side1 ?side2 A2.out).mono ?_); (case side1 => repeat (first | exact HR0.out | (with_reducible refine Kd.C_alloc ?_ _) | (with_reducible refine Kd.C_drewN ?_ _) | (with_reducible refine Kd.C_drew ?_))); (case side2 => exact HC0.out); rintro e w8 ⟨rfl, hb⟩; refine ⟨_, rfl, ?_⟩; replace HB := Aside0.mk (below_step (by repeat (first | (with_reducible first | exact HB.out | apply below_alloc | apply pw_below_drewN | apply below_drew1) | exact HB.out)) hb); (try clear hb); (try clear hb2); (try clear hk); (try clear hi)))
  go_ret2
  exact ⟨_, by first | rfl | (simp [errW_none, errW_some] <;> rfl) | (simp [*, errW_none, errW_some] <;> rfl), by first | exact Kd.R_nil _ _ _ _ _ | exact Kd.N_nil _ _ _ _ _ | exact Kd.V_nil _ _ _ _ _ | exact Kd.Q_nil _ _ _ _ _ | exact Kd.S_nil _ _ _ _ _, by repeat (first | (with_reducible first | exact HB.out | apply below_alloc | apply pw_below_drewN | apply below_drew1) | exact HB.out)⟩

/-! ### spec_l1Cur_spoilt: function 55 -/
mutual
def spec_l1Cur_spoilt.l0 : Nat → ByteArray → ByteArray → Int → List Int → Int → Int → Option (ByteArray × Int × Int)
 | 0, _, _, _, _, _, _ => none
 | k + 1, x1, x2, x7, x1000, x1001, x1002 => if x7 > 0 then (spec_l1Cur_spoilt.j1 k x1 x2 x7 (decide ((x1.size : Int) > 0)) x1000 x1001 x1002) else (spec_l1Cur_spoilt.j1 k x1 x2 x7 false x1000 x1001 x1002)
def spec_l1Cur_spoilt.j1 : Nat → ByteArray → ByteArray → Int → Bool → List Int → Int → Int → Option (ByteArray × Int × Int)
 | 0, _, _, _, _, _, _, _ => none
 | k + 1, x1, x2, x7, x19, x1000, x1001, x1002 => if x19 = true then ((spec_l1Cur_pick.f x1000 x1001 x1002 (x1.size : Int)).bind fun bt467 => ((spec_l1Cur_pick.f x1000 bt467.2.1 bt467.2.2 (x2.size : Int)).bind fun bt470 => (if 0 ≤ bt470.1 then (if bt470.1 < (x2.size : Int) then ((some (([bt x2 bt470.1] : List Int) : List Int)).bind fun y473 => ((spec_l1Cur_pick.f x1000 bt470.2.1 bt470.2.2 3).bind fun bt476 => (if bt476.1 = 0 then (if 0 ≤ bt467.1 then (if bt467.1 ≤ (x1.size : Int) then (if (x1.extract 0 (bt467.1 : Int).toNat).size + (strOfNums y473).size ≤ 9223372036854775807 then (if ((x1.extract 0 (bt467.1 : Int).toNat) ++ (strOfNums y473)).size + (x1.extract (bt467.1 : Int).toNat x1.size).size ≤ 9223372036854775807 then (spec_l1Cur_spoilt.l0 k (((x1.extract 0 (bt467.1 : Int).toNat) ++ (strOfNums y473)) ++ (x1.extract (bt467.1 : Int).toNat x1.size)) x2 (wrap64 (x7 - 1)) x1000 bt476.2.1 bt476.2.2) else (none)) else (none)) else (none)) else (none)) else (if bt476.1 = 1 then (if 0 ≤ bt467.1 then (if bt467.1 ≤ (x1.size : Int) then (if (x1.extract 0 (bt467.1 : Int).toNat).size + (strOfNums y473).size ≤ 9223372036854775807 then (if 0 ≤ (wrap64 (bt467.1 + 1)) then (if (wrap64 (bt467.1 + 1)) ≤ (x1.size : Int) then (if ((x1.extract 0 (bt467.1 : Int).toNat) ++ (strOfNums y473)).size + (x1.extract ((wrap64 (bt467.1 + 1)) : Int).toNat x1.size).size ≤ 9223372036854775807 then (spec_l1Cur_spoilt.l0 k (((x1.extract 0 (bt467.1 : Int).toNat) ++ (strOfNums y473)) ++ (x1.extract ((wrap64 (bt467.1 + 1)) : Int).toNat x1.size)) x2 (wrap64 (x7 - 1)) x1000 bt476.2.1 bt476.2.2) else (none)) else (none)) else (none)) else (none)) else (none)) else (none)) else (if 0 ≤ bt467.1 then (if bt467.1 ≤ (x1.size : Int) then (if 0 ≤ (wrap64 (bt467.1 + 1)) then (if (wrap64 (bt467.1 + 1)) ≤ (x1.size : Int) then (if (x1.extract 0 (bt467.1 : Int).toNat).size + (x1.extract ((wrap64 (bt467.1 + 1)) : Int).toNat x1.size).size ≤ 9223372036854775807 then (spec_l1Cur_spoilt.l0 k ((x1.extract 0 (bt467.1 : Int).toNat) ++ (x1.extract ((wrap64 (bt467.1 + 1)) : Int).toNat x1.size)) x2 (wrap64 (x7 - 1)) x1000 bt476.2.1 bt476.2.2) else (none)) else (none)) else (none)) else (none)) else (none)))))) else (none)) else (none)))) else (some (x1, x1001, x1002))
end
def spec_l1Cur_spoilt.f (k : Nat) (s0_0 : List Int) (s0_1 : Int) (s0_2 : Int) (a1 : ByteArray) (a2 : ByteArray) : Option (ByteArray × Int × Int) := (spec_l1Cur_pick.f s0_0 s0_1 s0_2 2).bind fun bt464 => (spec_l1Cur_spoilt.l0 k a1 a2 (wrap64 (1 + bt464.1)) s0_0 bt464.2.1 bt464.2.2)
set_option maxHeartbeats 8000000 in
set_option maxRecDepth 100000 in
theorem spec_l1Cur_spoilt.calls (k : Nat) (g : Nat) (s0_0 : List Int) (s0_1 : Int) (s0_2 : Int) (a1 : ByteArray) (a2 : ByteArray) (r1 : ByteArray) (r2 : Int) (r3 : Int) (w0 w : World) (hI : IsS64 w0 w g s0_0 s0_1 s0_2) (hB : Below w0.heap.size w0 w) (h : spec_l1Cur_spoilt.f k s0_0 s0_1 s0_2 a1 a2 = some (r1, r2, r3)) :
  Calls Tryz.prog 55 #[.pointer (some ⟨g, 0, none⟩), .string a1, .string a2] w fun e w' => e = .returned (.string r1) ∧ IsS64 w0 w' g s0_0 r2 r3 ∧ Below w0.heap.size w0 w' ∧ KeepBut w w' g none := by
 have HI0 := Aside0.mk hI
 have HK := Aside0.mk (KeepBut.refl w g none)
 have HL := Aside0.mk hB.size
 clear hI
 have HW0 := Aside0.mk hB.size
 have HB := Aside0.mk hB
 clear hB
 have H : ((spec_l1Cur_pick.f s0_0 s0_1 s0_2 2).bind fun bt464 => (spec_l1Cur_spoilt.l0 k a1 a2 (wrap64 (1 + bt464.1)) s0_0 bt464.2.1 bt464.2.2)) = some (r1, r2, r3) := h
 clear h
 obtain ⟨⟨t464, t465, t466⟩, A4, H⟩ := obA H
 dsimp only at H
 have H' := Aside0.mk H
 clear H
 go_enter Tryz.func55, Tryz.ntmps55
 go_wp2_with (first | (go_at_call 71; (with_reducible refine (spec_l1Cur_pick.calls g s0_0 s0_1 s0_2 2 t464 t465 t466 w0 _ ?side1 ?side2 A4.out).mono ?_); (case side1 => exact iO_); (case side2 => exact bO_); rintro e w5 ⟨rfl, hi, hb, hk⟩; replace HK := kT_ hk; replace HB := Aside0.mk (hb); replace HI0 := Aside0.mk (hi)))
 repeat (go_quiet (first | (go_at_call 71; (with_reducible refine (spec_l1Cur_pick.calls g s0_0 s0_1 s0_2 2 t464 t465 t466 w0 _ ?side1 ?side2 A4.out).mono ?_); (case side1 => exact iO_); (case side2 => exact bO_); rintro e w5 ⟨rfl, hi, hb, hk⟩; replace HK := kT_ hk; replace HB := Aside0.mk (hb); replace HI0 := Aside0.mk (hi))); try go_wp2_with (first | (go_at_call 71; (with_reducible refine (spec_l1Cur_pick.calls g s0_0 s0_1 s0_2 2 t464 t465 t466 w0 _ ?side1 ?side2 A4.out).mono ?_); (case side1 => exact iO_); (case side2 => exact bO_); rintro e w5 ⟨rfl, hi, hb, hk⟩; replace HK := kT_ hk; replace HB := Aside0.mk (hb); replace HI0 := Aside0.mk (hi))))
 go_loopg [1, 7] k (fun kq v1 v7 w' => ∃ (x1_1 : ByteArray) (x7_1 : Int) (x1001_1 : Int) (x1002_1 : Int), v1 = .string x1_1 ∧ v7 = .int .i64 x7_1 ∧ Aside0 (spec_l1Cur_spoilt.l0 kq x1_1 a2 x7_1 s0_0 x1001_1 x1002_1 = some (r1, r2, r3)) ∧ Aside0 (kq ≤ k) ∧ Aside0 (IsS64 w0 w' g s0_0 x1001_1 x1002_1) ∧ Aside0 (KeepBut w w' g none) ∧ Aside0 (Below w0.heap.size w0 w'))
 case atStart => exact ⟨(a1), (wrap64 (1 + t464)), (t465), (t466), rfl, rfl, H', ⟨Nat.le_refl _⟩, ⟨iO_⟩, ⟨kO_⟩, ⟨bO_⟩⟩
 case round =>
  clear H'
  try clear p2
  try clear c5
  obtain ⟨x1_1, x7_1, x1001_1, x1002_1, rfl, rfl, HA, HK1, HI0, HK, HB⟩ := hrel
  cases gk with
  | zero => exact absurd HA.out (by simp [spec_l1Cur_spoilt.l0])
  | succ k1 =>
   have H := HA.out
   clear HA
   simp only [spec_l1Cur_spoilt.l0] at H
   have HC6 := Aside0.mk H
   clear H
   go_upto_region 2 with (fail)
   repeat (go_quiet (fail); go_upto_region 2 with (fail))
   go_cut [19] (fun v19 wc => ∃ (kq : Nat) (x19_5 : Bool), v19 = .bool x19_5 ∧ Aside0 (spec_l1Cur_spoilt.j1 kq x1_1 a2 x7_1 x19_5 s0_0 x1001_1 x1002_1 = some (r1, r2, r3)) ∧ Aside0 (kq ≤ k1) ∧ Aside0 (IsS64 w0 wc g s0_0 x1001_1 x1002_1) ∧ Aside0 (KeepBut w wc g none) ∧ Aside0 (Below w0.heap.size w0 wc))
   case first =>
    have H := HC6.out
    clear HC6
    by_cases c7 : x7_1 > 0
    ·rw [if_pos c7] at H
     have c7b0 : decide (0 < x7_1) = true := decide_eq_true c7
     clear c7
     (first | rw [c7b0] | (simp only [i64_w, i32_w]; rw [c7b0]) | skip)
     have H' := Aside0.mk H
     clear H
     go_wp2
     repeat (go_quiet (fail); try go_wp2)
     go_meet
     case rel => exact ⟨_, (decide ((x1_1.size : Int) > 0)), (by first | rfl | (simp; done) | (simp [*]; done)), H', ⟨by have := HK1.out; first | omega | exact Nat.le_refl _⟩, ⟨iO_⟩, ⟨kO_⟩, ⟨bO_⟩⟩
    ·rw [if_neg c7] at H
     have c7b0 : decide (0 < x7_1) = false := decide_eq_false c7
     clear c7
     (first | rw [c7b0] | (simp only [i64_w, i32_w]; rw [c7b0]) | skip)
     have H' := Aside0.mk H
     clear H
     go_wp2
     repeat (go_quiet (fail); try go_wp2)
     go_meet
     case rel => exact ⟨_, (false), rfl, H', ⟨by have := HK1.out; first | omega | exact Nat.le_refl _⟩, ⟨iO_⟩, ⟨kO_⟩, ⟨bO_⟩⟩
   case rest =>
    clear HC6
    try clear p2
    try clear c5
    try clear p6
    try clear c7
    try clear c7b0
    try clear p2
    obtain ⟨kq, x19_5, rfl, HA, HJ5, HI0, HK, HB⟩ := hcut
    cases kq with
    | zero => exact absurd HA.out (by simp [spec_l1Cur_spoilt.j1])
    | succ kj5 =>
     have H := HA.out
     clear HA
     simp only [spec_l1Cur_spoilt.j1] at H
     by_cases c8 : x19_5 = true
     ·subst c8
      rw [if_pos rfl] at H
      obtain ⟨⟨t467, t468, t469⟩, A9, H⟩ := obA H
      dsimp only at H
      obtain ⟨⟨t470, t471, t472⟩, A10, H⟩ := obA H
      dsimp only at H
      by_cases c11 : 0 ≤ t470
      ·rw [if_pos c11] at H
       replace c11 := decide_eq_true c11
       by_cases c12 : t470 < (a2.size : Int)
       ·rw [if_pos c12] at H
        replace c12 := decide_eq_true c12
        obtain ⟨y473, Ny473, H⟩ := obY H
        obtain ⟨⟨t476, t477, t478⟩, A14, H⟩ := obA H
        dsimp only at H
        by_cases c15 : t476 = 0
        ·rw [if_pos c15] at H
         have c15b0 : (t476 == 0) = true := beq_iff_eq.mpr c15
         have c15b1 : (t476 != 0) = false := bne_eq_false_iff_eq.mpr c15
         clear c15
         by_cases c16 : 0 ≤ t467
         ·rw [if_pos c16] at H
          have c16b0 := eq_true c16
          have c16b1 : decide (0 ≤ t467) = true := decide_eq_true c16
          clear c16
          by_cases c17 : t467 ≤ (x1_1.size : Int)
          ·rw [if_pos c17] at H
           have c17b0 := eq_true c17
           have c17b1 : decide (t467 ≤ (x1_1.size : Int)) = true := decide_eq_true c17
           clear c17
           by_cases c18 : (x1_1.extract 0 (t467 : Int).toNat).size + (strOfNums y473).size ≤ 9223372036854775807
           ·rw [if_pos c18] at H
            have c18b0 := eq_true c18
            have c18b1 : decide ((x1_1.extract 0 (t467 : Int).toNat).size + (strOfNums y473).size ≤ 9223372036854775807) = true := decide_eq_true c18
            try have c18b2 : (9223372036854775807 < (x1_1.extract 0 (t467 : Int).toNat).size + (strOfNums y473).size) = False := eq_false (Nat.not_lt.2 c18)
            have c19b0 := eq_true (of_decide_eq_true (by assumption) : 0 ≤ t467)
            have c20b0 := eq_true (of_decide_eq_true (by assumption) : t467 ≤ (x1_1.size : Int))
            by_cases c21 : ((x1_1.extract 0 (t467 : Int).toNat) ++ (strOfNums y473)).size + (x1_1.extract (t467 : Int).toNat x1_1.size).size ≤ 9223372036854775807
            ·rw [if_pos c21] at H
             have c21b0 := eq_true c21
             have c21b1 : decide (((x1_1.extract 0 (t467 : Int).toNat) ++ (strOfNums y473)).size + (x1_1.extract (t467 : Int).toNat x1_1.size).size ≤ 9223372036854775807) = true := decide_eq_true c21
             try have c21b2 : (9223372036854775807 < ((x1_1.extract 0 (t467 : Int).toNat) ++ (strOfNums y473)).size + (x1_1.extract (t467 : Int).toNat x1_1.size).size) = False := eq_false (Nat.not_lt.2 c21)
             have H' := Aside0.mk H
             clear H
             go_wp2_with (first | (go_at_call 71; (with_reducible refine (spec_l1Cur_pick.calls g s0_0 x1001_1 x1002_1 (x1_1.size : Int) t467 t468 t469 w0 _ ?side1 ?side2 A9.out).mono ?_); (case side1 => exact iO_); (case side2 => exact bO_); rintro e w22 ⟨rfl, hi, hb, hk⟩; replace HK := kT_ hk; replace HB := Aside0.mk (hb); replace HI0 := Aside0.mk (hi)) | (go_at_call 71; (with_reducible refine (spec_l1Cur_pick.calls g s0_0 t468 t469 (a2.size : Int) t470 t471 t472 w0 _ ?side1 ?side2 A10.out).mono ?_); (case side1 => exact iO_); (case side2 => exact bO_); rintro e w23 ⟨rfl, hi, hb, hk⟩; replace HK := kT_ hk; replace HB := Aside0.mk (hb); replace HI0 := Aside0.mk (hi); have p13 : 0 ≤ (t470 : Int) := of_decide_eq_true (by assumption); have q13 : t470 < (a2.size : Int) := of_decide_eq_true (by assumption); have hx13 := bt_at a2 t470; replace p13 := eq_true p13; replace q13 := eq_true q13) | ((with_reducible refine gate_dst (N := 32) rfl ?_); (try (refine gate_guard (by rfl) ?_; dsimp only)); refine Kd.R_lit (Kd.int .u8) _ 5 ?hg (N := 32) ?hd (xs := ([bt a2 t470] : List Int)) (inner := [.int .u8 (bt a2 t470)]) (ok := fun _ => True) (okp := fun _ => True) ?hr ?hp (fun _ hk => hk) trivial (Below.refl _ _) (Nat.le_refl _) (by simp) ?_; (case hd => rfl); (case hg => rfl); (case hr => go_simp <;> rfl); (case hp => exact (Reps.one (show Kd.M (Kd.int .u8) _ _ _ (bt a2 t470) [.int .u8 (bt a2 t470)] from rfl) (Reps.none _ _))); intro v474 w24 ho25 hb hg_ hnew_; clear hg_ hnew_; (first | rw [← Ny473.out] at ho25 | (simp only [Int.reduceToNat] at ho25; rw [← Ny473.out] at ho25)); have HO475 := Aside0.mk (Kd.R_lower ho25 (keep_size (w := w) (g := g) (row := none) kO_)); replace HK := Aside0.mk (KeepBut.trans kO_ (KeepBut.of_below hb g none) (.inl rfl)); replace HB := bT_ hb; replace HI0 := Aside0.mk (IsS64.below iO_ hb); clear hb ho25; have hcv26 := own_string (P := Tryz.prog) Tryz.underlying22 Tryz.underlying5 Tryz.underlying9 (Kd.own_of_R HO475.out)) | (go_at_call 71; (with_reducible refine (spec_l1Cur_pick.calls g s0_0 t471 t472 3 t476 t477 t478 w0 _ ?side1 ?side2 A14.out).mono ?_); (case side1 => exact iO_); (case side2 => exact bO_); rintro e w27 ⟨rfl, hi, hb, hk⟩; replace HO475 := Aside0.mk (Kd.R_mono (Kd.R_keep (IsS64.apart (show IsS64 w0 _ g s0_0 t471 t472 from iO_) HO475.out (by decide)) hk (fun _ h => h.2)) (fun _ h => h.1)); replace HK := kT_ hk; replace HB := Aside0.mk (hb); replace HI0 := Aside0.mk (hi)))
             repeat (go_quiet (first | (go_at_call 71; (with_reducible refine (spec_l1Cur_pick.calls g s0_0 x1001_1 x1002_1 (x1_1.size : Int) t467 t468 t469 w0 _ ?side1 ?side2 A9.out).mono ?_); (case side1 => exact iO_); (case side2 => exact bO_); rintro e w22 ⟨rfl, hi, hb, hk⟩; replace HK := kT_ hk; replace HB := Aside0.mk (hb); replace HI0 := Aside0.mk (hi)) | (go_at_call 71; (with_reducible refine (spec_l1Cur_pick.calls g s0_0 t468 t469 (a2.size : Int) t470 t471 t472 w0 _ ?side1 ?side2 A10.out).mono ?_); (case side1 => exact iO_); (case side2 => exact bO_); rintro e w23 ⟨rfl, hi, hb, hk⟩; replace HK := kT_ hk; replace HB := Aside0.mk (hb); replace HI0 := Aside0.mk (hi); have p13 : 0 ≤ (t470 : Int) := of_decide_eq_true (by assumption); have q13 : t470 < (a2.size : Int) := of_decide_eq_true (by assumption); have hx13 := bt_at a2 t470; replace p13 := eq_true p13; replace q13 := eq_true q13) | ((with_reducible refine gate_dst (N := 32) rfl ?_); (try (refine gate_guard (by rfl) ?_; dsimp only)); refine Kd.R_lit (Kd.int .u8) _ 5 ?hg (N := 32) ?hd (xs := ([bt a2 t470] : List Int)) (inner := [.int .u8 (bt a2 t470)]) (ok := fun _ => True) (okp := fun _ => True) ?hr ?hp (fun _ hk => hk) trivial (Below.refl _ _) (Nat.le_refl _) (by simp) ?_; (case hd => rfl); (case hg => rfl); (case hr => go_simp <;> rfl); (case hp => exact (Reps.one (show Kd.M (Kd.int .u8) _ _ _ (bt a2 t470) [.int .u8 (bt a2 t470)] from rfl) (Reps.none _ _))); intro v474 w24 ho25 hb hg_ hnew_; clear hg_ hnew_; (first | rw [← Ny473.out] at ho25 | (simp only [Int.reduceToNat] at ho25; rw [← Ny473.out] at ho25)); have HO475 := Aside0.mk (Kd.R_lower ho25 (keep_size (w := w) (g := g) (row := none) kO_)); replace HK := Aside0.mk (KeepBut.trans kO_ (KeepBut.of_below hb g none) (.inl rfl)); replace HB := bT_ hb; replace HI0 := Aside0.mk (IsS64.below iO_ hb); clear hb ho25; have hcv26 := own_string (P := Tryz.prog) Tryz.underlying22 Tryz.underlying5 Tryz.underlying9 (Kd.own_of_R HO475.out)) | (go_at_call 71; (with_reducible refine (spec_l1Cur_pick.calls g s0_0 t471 t472 3 t476 t477 t478 w0 _ ?side1 ?side2 A14.out).mono ?_); (case side1 => exact iO_); (case side2 => exact bO_); rintro e w27 ⟨rfl, hi, hb, hk⟩; replace HO475 := Aside0.mk (Kd.R_mono (Kd.R_keep (IsS64.apart (show IsS64 w0 _ g s0_0 t471 t472 from iO_) HO475.out (by decide)) hk (fun _ h => h.2)) (fun _ h => h.1)); replace HK := kT_ hk; replace HB := Aside0.mk (hb); replace HI0 := Aside0.mk (hi))); try go_wp2_with (first | (go_at_call 71; (with_reducible refine (spec_l1Cur_pick.calls g s0_0 x1001_1 x1002_1 (x1_1.size : Int) t467 t468 t469 w0 _ ?side1 ?side2 A9.out).mono ?_); (case side1 => exact iO_); (case side2 => exact bO_); rintro e w22 ⟨rfl, hi, hb, hk⟩; replace HK := kT_ hk; replace HB := Aside0.mk (hb); replace HI0 := Aside0.mk (hi)) | (go_at_call 71; (with_reducible refine (spec_l1Cur_pick.calls g s0_0 t468 t469 (a2.size : Int) t470 t471 t472 w0 _ ?side1 ?side2 A10.out).mono ?_); (case side1 => exact iO_); (case side2 => exact bO_); rintro e w23 ⟨rfl, hi, hb, hk⟩; replace HK := kT_ hk; replace HB := Aside0.mk (hb); replace HI0 := Aside0.mk (hi); have p13 : 0 ≤ (t470 : Int) := of_decide_eq_true (by assumption); have q13 : t470 < (a2.size : Int) := of_decide_eq_true (by assumption); have hx13 := bt_at a2 t470; replace p13 := eq_true p13; replace q13 := eq_true q13) | ((with_reducible refine gate_dst (N := 32) rfl ?_); (try (refine gate_guard (by rfl) ?_; dsimp only)); refine Kd.R_lit (Kd.int .u8) _ 5 ?hg (N := 32) ?hd (xs := ([bt a2 t470] : List Int)) (inner := [.int .u8 (bt a2 t470)]) (ok := fun _ => True) (okp := fun _ => True) ?hr ?hp (fun _ hk => hk) trivial (Below.refl _ _) (Nat.le_refl _) (by simp) ?_; (case hd => rfl); (case hg => rfl); (case hr => go_simp <;> rfl); (case hp => exact (Reps.one (show Kd.M (Kd.int .u8) _ _ _ (bt a2 t470) [.int .u8 (bt a2 t470)] from rfl) (Reps.none _ _))); intro v474 w24 ho25 hb hg_ hnew_; clear hg_ hnew_; (first | rw [← Ny473.out] at ho25 | (simp only [Int.reduceToNat] at ho25; rw [← Ny473.out] at ho25)); have HO475 := Aside0.mk (Kd.R_lower ho25 (keep_size (w := w) (g := g) (row := none) kO_)); replace HK := Aside0.mk (KeepBut.trans kO_ (KeepBut.of_below hb g none) (.inl rfl)); replace HB := bT_ hb; replace HI0 := Aside0.mk (IsS64.below iO_ hb); clear hb ho25; have hcv26 := own_string (P := Tryz.prog) Tryz.underlying22 Tryz.underlying5 Tryz.underlying9 (Kd.own_of_R HO475.out)) | (go_at_call 71; (with_reducible refine (spec_l1Cur_pick.calls g s0_0 t471 t472 3 t476 t477 t478 w0 _ ?side1 ?side2 A14.out).mono ?_); (case side1 => exact iO_); (case side2 => exact bO_); rintro e w27 ⟨rfl, hi, hb, hk⟩; replace HO475 := Aside0.mk (Kd.R_mono (Kd.R_keep (IsS64.apart (show IsS64 w0 _ g s0_0 t471 t472 from iO_) HO475.out (by decide)) hk (fun _ h => h.2)) (fun _ h => h.1)); replace HK := kT_ hk; replace HB := Aside0.mk (hb); replace HI0 := Aside0.mk (hi))))
             go_roundg kj5
             case measure => have := HK1.out; have := HJ5.out; omega
             case rel => exact ⟨(((x1_1.extract 0 (t467 : Int).toNat) ++ (strOfNums y473)) ++ (x1_1.extract (t467 : Int).toNat x1_1.size)), (wrap64 (x7_1 - 1)), (t477), (t478), rfl, rfl, H', ⟨by have := HK1.out; have := HJ5.out; omega⟩, ⟨iO_⟩, ⟨kO_⟩, ⟨bO_⟩⟩
            ·rw [if_neg c21] at H
             exact absurd H (by simp)
           ·rw [if_neg c18] at H
            exact absurd H (by simp)
          ·rw [if_neg c17] at H
           exact absurd H (by simp)
         ·rw [if_neg c16] at H
          exact absurd H (by simp)
        ·rw [if_neg c15] at H
         have c15b0 : (t476 == 0) = false := beq_eq_false_iff_ne.mpr c15
         have c15b1 : (t476 != 0) = true := bne_iff_ne.mpr c15
         by_cases c28 : t476 = 1
         ·rw [if_pos c28] at H
          have c28b0 : (t476 == 1) = true := beq_iff_eq.mpr c28
          have c28b1 : (t476 != 1) = false := bne_eq_false_iff_eq.mpr c28
          clear c28
          by_cases c29 : 0 ≤ t467
          ·rw [if_pos c29] at H
           have c29b0 := eq_true c29
           have c29b1 : decide (0 ≤ t467) = true := decide_eq_true c29
           clear c29
           by_cases c30 : t467 ≤ (x1_1.size : Int)
           ·rw [if_pos c30] at H
            have c30b0 := eq_true c30
            have c30b1 : decide (t467 ≤ (x1_1.size : Int)) = true := decide_eq_true c30
            clear c30
            by_cases c31 : (x1_1.extract 0 (t467 : Int).toNat).size + (strOfNums y473).size ≤ 9223372036854775807
            ·rw [if_pos c31] at H
             have c31b0 := eq_true c31
             have c31b1 : decide ((x1_1.extract 0 (t467 : Int).toNat).size + (strOfNums y473).size ≤ 9223372036854775807) = true := decide_eq_true c31
             try have c31b2 : (9223372036854775807 < (x1_1.extract 0 (t467 : Int).toNat).size + (strOfNums y473).size) = False := eq_false (Nat.not_lt.2 c31)
             obtain ⟨ji32, hji32⟩ : ∃ j_ : Int, (wrap64 (t467 + 1)) = j_ := ⟨_, rfl⟩
             replace H : (if 0 ≤ (ji32) then (if (ji32) ≤ (x1_1.size : Int) then (if ((x1_1.extract 0 (t467 : Int).toNat) ++ (strOfNums y473)).size + (x1_1.extract ((ji32) : Int).toNat x1_1.size).size ≤ 9223372036854775807 then (spec_l1Cur_spoilt.l0 kj5 (((x1_1.extract 0 (t467 : Int).toNat) ++ (strOfNums y473)) ++ (x1_1.extract ((ji32) : Int).toNat x1_1.size)) a2 (wrap64 (x7_1 - 1)) s0_0 t477 t478) else (none)) else (none)) else (none)) = some (r1, r2, r3) := by first | (rw [hji32] at H; exact H) | (simp only [hji32] at H ⊢; exact H)
             (try rw [hji32] at A9)
             (try rw [hji32] at A10)
             (try rw [hji32] at A14)
             have hji32w : (IntKind.i64.wrap (t467 + 1)) = ji32 := (i64_w _).trans hji32
             by_cases c33 : 0 ≤ (ji32)
             ·rw [if_pos c33] at H
              have c33b0 := eq_true c33
              have c33b1 : decide (0 ≤ (ji32)) = true := decide_eq_true c33
              clear c33
              by_cases c34 : (ji32) ≤ (x1_1.size : Int)
              ·rw [if_pos c34] at H
               have c34b0 := eq_true c34
               have c34b1 : decide ((ji32) ≤ (x1_1.size : Int)) = true := decide_eq_true c34
               clear c34
               by_cases c35 : ((x1_1.extract 0 (t467 : Int).toNat) ++ (strOfNums y473)).size + (x1_1.extract ((ji32) : Int).toNat x1_1.size).size ≤ 9223372036854775807
               ·rw [if_pos c35] at H
                have c35b0 := eq_true c35
                have c35b1 : decide (((x1_1.extract 0 (t467 : Int).toNat) ++ (strOfNums y473)).size + (x1_1.extract ((ji32) : Int).toNat x1_1.size).size ≤ 9223372036854775807) = true := decide_eq_true c35
                try have c35b2 : (9223372036854775807 < ((x1_1.extract 0 (t467 : Int).toNat) ++ (strOfNums y473)).size + (x1_1.extract ((ji32) : Int).toNat x1_1.size).size) = False := eq_false (Nat.not_lt.2 c35)
                have H' := Aside0.mk H
                clear H
                go_wp2_with (first | (go_at_call 71; (with_reducible refine (spec_l1Cur_pick.calls g s0_0 x1001_1 x1002_1 (x1_1.size : Int) t467 t468 t469 w0 _ ?side1 ?side2 A9.out).mono ?_); (case side1 => exact iO_); (case side2 => exact bO_); rintro e w36 ⟨rfl, hi, hb, hk⟩; replace HK := kT_ hk; replace HB := Aside0.mk (hb); replace HI0 := Aside0.mk (hi)) | (go_at_call 71; (with_reducible refine (spec_l1Cur_pick.calls g s0_0 t468 t469 (a2.size : Int) t470 t471 t472 w0 _ ?side1 ?side2 A10.out).mono ?_); (case side1 => exact iO_); (case side2 => exact bO_); rintro e w37 ⟨rfl, hi, hb, hk⟩; replace HK := kT_ hk; replace HB := Aside0.mk (hb); replace HI0 := Aside0.mk (hi); have p13 : 0 ≤ (t470 : Int) := of_decide_eq_true (by assumption); have q13 : t470 < (a2.size : Int) := of_decide_eq_true (by assumption); have hx13 := bt_at a2 t470; replace p13 := eq_true p13; replace q13 := eq_true q13) | ((with_reducible refine gate_dst (N := 32) rfl ?_); (try (refine gate_guard (by rfl) ?_; dsimp only)); refine Kd.R_lit (Kd.int .u8) _ 5 ?hg (N := 32) ?hd (xs := ([bt a2 t470] : List Int)) (inner := [.int .u8 (bt a2 t470)]) (ok := fun _ => True) (okp := fun _ => True) ?hr ?hp (fun _ hk => hk) trivial (Below.refl _ _) (Nat.le_refl _) (by simp) ?_; (case hd => rfl); (case hg => rfl); (case hr => go_simp <;> rfl); (case hp => exact (Reps.one (show Kd.M (Kd.int .u8) _ _ _ (bt a2 t470) [.int .u8 (bt a2 t470)] from rfl) (Reps.none _ _))); intro v474 w38 ho39 hb hg_ hnew_; clear hg_ hnew_; (first | rw [← Ny473.out] at ho39 | (simp only [Int.reduceToNat] at ho39; rw [← Ny473.out] at ho39)); have HO475 := Aside0.mk (Kd.R_lower ho39 (keep_size (w := w) (g := g) (row := none) kO_)); replace HK := Aside0.mk (KeepBut.trans kO_ (KeepBut.of_below hb g none) (.inl rfl)); replace HB := bT_ hb; replace HI0 := Aside0.mk (IsS64.below iO_ hb); clear hb ho39; have hcv40 := own_string (P := Tryz.prog) Tryz.underlying22 Tryz.underlying5 Tryz.underlying9 (Kd.own_of_R HO475.out)) | (go_at_call 71; (with_reducible refine (spec_l1Cur_pick.calls g s0_0 t471 t472 3 t476 t477 t478 w0 _ ?side1 ?side2 A14.out).mono ?_); (case side1 => exact iO_); (case side2 => exact bO_); rintro e w41 ⟨rfl, hi, hb, hk⟩; replace HO475 := Aside0.mk (Kd.R_mono (Kd.R_keep (IsS64.apart (show IsS64 w0 _ g s0_0 t471 t472 from iO_) HO475.out (by decide)) hk (fun _ h => h.2)) (fun _ h => h.1)); replace HK := kT_ hk; replace HB := Aside0.mk (hb); replace HI0 := Aside0.mk (hi)))
                repeat (go_quiet (first | (go_at_call 71; (with_reducible refine (spec_l1Cur_pick.calls g s0_0 x1001_1 x1002_1 (x1_1.size : Int) t467 t468 t469 w0 _ ?side1 ?side2 A9.out).mono ?_); (case side1 => exact iO_); (case side2 => exact bO_); rintro e w36 ⟨rfl, hi, hb, hk⟩; replace HK := kT_ hk; replace HB := Aside0.mk (hb); replace HI0 := Aside0.mk (hi)) | (go_at_call 71; (with_reducible refine (spec_l1Cur_pick.calls g s0_0 t468 t469 (a2.size : Int) t470 t471 t472 w0 _ ?side1 ?side2 A10.out).mono ?_); (case side1 => exact iO_); (case side2 => exact bO_); rintro e w37 ⟨rfl, hi, hb, hk⟩; replace HK := kT_ hk; replace HB := Aside0.mk (hb); replace HI0 := Aside0.mk (hi); have p13 : 0 ≤ (t470 : Int) := of_decide_eq_true (by assumption); have q13 : t470 < (a2.size : Int) := of_decide_eq_true (by assumption); have hx13 := bt_at a2 t470; replace p13 := eq_true p13; replace q13 := eq_true q13) | ((with_reducible refine gate_dst (N := 32) rfl ?_); (try (refine gate_guard (by rfl) ?_; dsimp only)); refine Kd.R_lit (Kd.int .u8) _ 5 ?hg (N := 32) ?hd (xs := ([bt a2 t470] : List Int)) (inner := [.int .u8 (bt a2 t470)]) (ok := fun _ => True) (okp := fun _ => True) ?hr ?hp (fun _ hk => hk) trivial (Below.refl _ _) (Nat.le_refl _) (by simp) ?_; (case hd => rfl); (case hg => rfl); (case hr => go_simp <;> rfl); (case hp => exact (Reps.one (show Kd.M (Kd.int .u8) _ _ _ (bt a2 t470) [.int .u8 (bt a2 t470)] from rfl) (Reps.none _ _))); intro v474 w38 ho39 hb hg_ hnew_; clear hg_ hnew_; (first | rw [← Ny473.out] at ho39 | (simp only [Int.reduceToNat] at ho39; rw [← Ny473.out] at ho39)); have HO475 := Aside0.mk (Kd.R_lower ho39 (keep_size (w := w) (g := g) (row := none) kO_)); replace HK := Aside0.mk (KeepBut.trans kO_ (KeepBut.of_below hb g none) (.inl rfl)); replace HB := bT_ hb; replace HI0 := Aside0.mk (IsS64.below iO_ hb); clear hb ho39; have hcv40 := own_string (P := Tryz.prog) Tryz.underlying22 Tryz.underlying5 Tryz.underlying9 (Kd.own_of_R HO475.out)) | (go_at_call 71; (with_reducible refine (spec_l1Cur_pick.calls g s0_0 t471 t472 3 t476 t477 t478 w0 _ ?side1 ?side2 A14.out).mono ?_); (case side1 => exact iO_); (case side2 => exact bO_); rintro e w41 ⟨rfl, hi, hb, hk⟩; replace HO475 := Aside0.mk (Kd.R_mono (Kd.R_keep (IsS64.apart (show IsS64 w0 _ g s0_0 t471 t472 from iO_) HO475.out (by decide)) hk (fun _ h => h.2)) (fun _ h => h.1)); replace HK := kT_ hk; replace HB := Aside0.mk (hb); replace HI0 := Aside0.mk (hi))); try go_wp2_with (first | (go_at_call 71; (with_reducible refine (spec_l1Cur_pick.calls g s0_0 x1001_1 x1002_1 (x1_1.size : Int) t467 t468 t469 w0 _ ?side1 ?side2 A9.out).mono ?_); (case side1 => exact iO_); (case side2 => exact bO_); rintro e w36 ⟨rfl, hi, hb, hk⟩; replace HK := kT_ hk; replace HB := Aside0.mk (hb); replace HI0 := Aside0.mk (hi)) | (go_at_call 71; (with_reducible refine (spec_l1Cur_pick.calls g s0_0 t468 t469 (a2.size : Int) t470 t471 t472 w0 _ ?side1 ?side2 A10.out).mono ?_); (case side1 => exact iO_); (case side2 => exact bO_); rintro e w37 ⟨rfl, hi, hb, hk⟩; replace HK := kT_ hk; replace HB := Aside0.mk (hb); replace HI0 := Aside0.mk (hi); have p13 : 0 ≤ (t470 : Int) := of_decide_eq_true (by assumption); have q13 : t470 < (a2.size : Int) := of_decide_eq_true (by assumption); have hx13 := bt_at a2 t470; replace p13 := eq_true p13; replace q13 := eq_true q13) | ((with_reducible refine gate_dst (N := 32) rfl ?_); (try (refine gate_guard (by rfl) ?_; dsimp only)); refine Kd.R_lit (Kd.int .u8) _ 5 ?hg (N := 32) ?hd (xs := ([bt a2 t470] : List Int)) (inner := [.int .u8 (bt a2 t470)]) (ok := fun _ => True) (okp := fun _ => True) ?hr ?hp (fun _ hk => hk) trivial (Below.refl _ _) (Nat.le_refl _) (by simp) ?_; (case hd => rfl); (case hg => rfl); (case hr => go_simp <;> rfl); (case hp => exact (Reps.one (show Kd.M (Kd.int .u8) _ _ _ (bt a2 t470) [.int .u8 (bt a2 t470)] from rfl) (Reps.none _ _))); intro v474 w38 ho39 hb hg_ hnew_; clear hg_ hnew_; (first | rw [← Ny473.out] at ho39 | (simp only [Int.reduceToNat] at ho39; rw [← Ny473.out] at ho39)); have HO475 := Aside0.mk (Kd.R_lower ho39 (keep_size (w := w) (g := g) (row := none) kO_)); replace HK := Aside0.mk (KeepBut.trans kO_ (KeepBut.of_below hb g none) (.inl rfl)); replace HB := bT_ hb; replace HI0 := Aside0.mk (IsS64.below iO_ hb); clear hb ho39; have hcv40 := own_string (P := Tryz.prog) Tryz.underlying22 Tryz.underlying5 Tryz.underlying9 (Kd.own_of_R HO475.out)) | (go_at_call 71; (with_reducible refine (spec_l1Cur_pick.calls g s0_0 t471 t472 3 t476 t477 t478 w0 _ ?side1 ?side2 A14.out).mono ?_); (case side1 => exact iO_); (case side2 => exact bO_); rintro e w41 ⟨rfl, hi, hb, hk⟩; replace HO475 := Aside0.mk (Kd.R_mono (Kd.R_keep (IsS64.apart (show IsS64 w0 _ g s0_0 t471 t472 from iO_) HO475.out (by decide)) hk (fun _ h => h.2)) (fun _ h => h.1)); replace HK := kT_ hk; replace HB := Aside0.mk (hb); replace HI0 := Aside0.mk (hi))))
                go_roundg kj5
                case measure => have := HK1.out; have := HJ5.out; omega
                case rel => exact ⟨(((x1_1.extract 0 (t467 : Int).toNat) ++ (strOfNums y473)) ++ (x1_1.extract ((ji32) : Int).toNat x1_1.size)), (wrap64 (x7_1 - 1)), (t477), (t478), (by first | rfl | (simp; done) | (simp only [← hji32] <;> (first | rfl | simp)) | (simp [*]; done)), rfl, H', ⟨by have := HK1.out; have := HJ5.out; omega⟩, ⟨iO_⟩, ⟨kO_⟩, ⟨bO_⟩⟩
               ·rw [if_neg c35] at H
                exact absurd H (by simp)
              ·rw [if_neg c34] at H
               exact absurd H (by simp)
             ·rw [if_neg c33] at H
              exact absurd H (by simp)
            ·rw [if_neg c31] at H
             exact absurd H (by simp)
           ·rw [if_neg c30] at H
            exact absurd H (by simp)
          ·rw [if_neg c29] at H
           exact absurd H (by simp)
         ·rw [if_neg c28] at H
          have c28b0 : (t476 == 1) = false := beq_eq_false_iff_ne.mpr c28
          have c28b1 : (t476 != 1) = true := bne_iff_ne.mpr c28
          by_cases c42 : 0 ≤ t467
          ·rw [if_pos c42] at H
           have c42b0 := eq_true c42
           have c42b1 : decide (0 ≤ t467) = true := decide_eq_true c42
           clear c42
           by_cases c43 : t467 ≤ (x1_1.size : Int)
           ·rw [if_pos c43] at H
            have c43b0 := eq_true c43
            have c43b1 : decide (t467 ≤ (x1_1.size : Int)) = true := decide_eq_true c43
            clear c43
            obtain ⟨ji44, hji44⟩ : ∃ j_ : Int, (wrap64 (t467 + 1)) = j_ := ⟨_, rfl⟩
            replace H : (if 0 ≤ (ji44) then (if (ji44) ≤ (x1_1.size : Int) then (if (x1_1.extract 0 (t467 : Int).toNat).size + (x1_1.extract ((ji44) : Int).toNat x1_1.size).size ≤ 9223372036854775807 then (spec_l1Cur_spoilt.l0 kj5 ((x1_1.extract 0 (t467 : Int).toNat) ++ (x1_1.extract ((ji44) : Int).toNat x1_1.size)) a2 (wrap64 (x7_1 - 1)) s0_0 t477 t478) else (none)) else (none)) else (none)) = some (r1, r2, r3) := by first | (rw [hji44] at H; exact H) | (simp only [hji44] at H ⊢; exact H)
            (try rw [hji44] at A9)
            (try rw [hji44] at A10)
            (try rw [hji44] at A14)
            have hji44w : (IntKind.i64.wrap (t467 + 1)) = ji44 := (i64_w _).trans hji44
            by_cases c45 : 0 ≤ (ji44)
            ·rw [if_pos c45] at H
             have c45b0 := eq_true c45
             have c45b1 : decide (0 ≤ (ji44)) = true := decide_eq_true c45
             clear c45
             by_cases c46 : (ji44) ≤ (x1_1.size : Int)
             ·rw [if_pos c46] at H
              have c46b0 := eq_true c46
              have c46b1 : decide ((ji44) ≤ (x1_1.size : Int)) = true := decide_eq_true c46
              clear c46
              by_cases c47 : (x1_1.extract 0 (t467 : Int).toNat).size + (x1_1.extract ((ji44) : Int).toNat x1_1.size).size ≤ 9223372036854775807
              ·rw [if_pos c47] at H
               have c47b0 := eq_true c47
               have c47b1 : decide ((x1_1.extract 0 (t467 : Int).toNat).size + (x1_1.extract ((ji44) : Int).toNat x1_1.size).size ≤ 9223372036854775807) = true := decide_eq_true c47
               try have c47b2 : (9223372036854775807 < (x1_1.extract 0 (t467 : Int).toNat).size + (x1_1.extract ((ji44) : Int).toNat x1_1.size).size) = False := eq_false (Nat.not_lt.2 c47)
               have H' := Aside0.mk H
               clear H
               go_wp2_with (first | (go_at_call 71; (with_reducible refine (spec_l1Cur_pick.calls g s0_0 x1001_1 x1002_1 (x1_1.size : Int) t467 t468 t469 w0 _ ?side1 ?side2 A9.out).mono ?_); (case side1 => exact iO_); (case side2 => exact bO_); rintro e w48 ⟨rfl, hi, hb, hk⟩; replace HK := kT_ hk; replace HB := Aside0.mk (hb); replace HI0 := Aside0.mk (hi)) | (go_at_call 71; (with_reducible refine (spec_l1Cur_pick.calls g s0_0 t468 t469 (a2.size : Int) t470 t471 t472 w0 _ ?side1 ?side2 A10.out).mono ?_); (case side1 => exact iO_); (case side2 => exact bO_); rintro e w49 ⟨rfl, hi, hb, hk⟩; replace HK := kT_ hk; replace HB := Aside0.mk (hb); replace HI0 := Aside0.mk (hi); have p13 : 0 ≤ (t470 : Int) := of_decide_eq_true (by assumption); have q13 : t470 < (a2.size : Int) := of_decide_eq_true (by assumption); have hx13 := bt_at a2 t470; replace p13 := eq_true p13; replace q13 := eq_true q13) | ((with_reducible refine gate_dst (N := 32) rfl ?_); (try (refine gate_guard (by rfl) ?_; dsimp only)); refine Kd.R_lit (Kd.int .u8) _ 5 ?hg (N := 32) ?hd (xs := ([bt a2 t470] : List Int)) (inner := [.int .u8 (bt a2 t470)]) (ok := fun _ => True) (okp := fun _ => True) ?hr ?hp (fun _ hk => hk) trivial (Below.refl _ _) (Nat.le_refl _) (by simp) ?_; (case hd => rfl); (case hg => rfl); (case hr => go_simp <;> rfl); (case hp => exact (Reps.one (show Kd.M (Kd.int .u8) _ _ _ (bt a2 t470) [.int .u8 (bt a2 t470)] from rfl) (Reps.none _ _))); intro v474 w50 ho51 hb hg_ hnew_; clear hg_ hnew_; (first | rw [← Ny473.out] at ho51 | (simp only [Int.reduceToNat] at ho51; rw [← Ny473.out] at ho51)); have HO475 := Aside0.mk (Kd.R_lower ho51 (keep_size (w := w) (g := g) (row := none) kO_)); replace HK := Aside0.mk (KeepBut.trans kO_ (KeepBut.of_below hb g none) (.inl rfl)); replace HB := bT_ hb; replace HI0 := Aside0.mk (IsS64.below iO_ hb); clear hb ho51; have hcv52 := own_string (P := Tryz.prog) Tryz.underlying22 Tryz.underlying5 Tryz.underlying9 (Kd.own_of_R HO475.out)) | (go_at_call 71; (with_reducible refine (spec_l1Cur_pick.calls g s0_0 t471 t472 3 t476 t477 t478 w0 _ ?side1 ?side2 A14.out).mono ?_); (case side1 => exact iO_); (case side2 => exact bO_); rintro e w53 ⟨rfl, hi, hb, hk⟩; replace HO475 := Aside0.mk (Kd.R_mono (Kd.R_keep (IsS64.apart (show IsS64 w0 _ g s0_0 t471 t472 from iO_) HO475.out (by decide)) hk (fun _ h => h.2)) (fun _ h => h.1)); replace HK := kT_ hk; replace HB := Aside0.mk (hb); replace HI0 := Aside0.mk (hi)))
               repeat (go_quiet (first | (go_at_call 71; (with_reducible refine (spec_l1Cur_pick.calls g s0_0 x1001_1 x1002_1 (x1_1.size : Int) t467 t468 t469 w0 _ ?side1 ?side2 A9.out).mono ?_); (case side1 => exact iO_); (case side2 => exact bO_); rintro e w48 ⟨rfl, hi, hb, hk⟩; replace HK := kT_ hk; replace HB := Aside0.mk (hb); replace HI0 := Aside0.mk (hi)) | (go_at_call 71; (with_reducible refine (spec_l1Cur_pick.calls g s0_0 t468 t469 (a2.size : Int) t470 t471 t472 w0 _ ?side1 ?side2 A10.out).mono ?_); (case side1 => exact iO_); (case side2 => exact bO_); rintro e w49 ⟨rfl, hi, hb, hk⟩; replace HK := kT_ hk; replace HB := Aside0.mk (hb); replace HI0 := Aside0.mk (hi); have p13 : 0 ≤ (t470 : Int) := of_decide_eq_true (by assumption); have q13 : t470 < (a2.size : Int) := of_decide_eq_true (by assumption); have hx13 := bt_at a2 t470; replace p13 := eq_true p13; replace q13 := eq_true q13) | ((with_reducible refine gate_dst (N := 32) rfl ?_); (try (refine gate_guard (by rfl) ?_; dsimp only)); refine Kd.R_lit (Kd.int .u8) _ 5 ?hg (N := 32) ?hd (xs := ([bt a2 t470] : List Int)) (inner := [.int .u8 (bt a2 t470)]) (ok := fun _ => True) (okp := fun _ => True) ?hr ?hp (fun _ hk => hk) trivial (Below.refl _ _) (Nat.le_refl _) (by simp) ?_; (case hd => rfl); (case hg => rfl); (case hr => go_simp <;> rfl); (case hp => exact (Reps.one (show Kd.M (Kd.int .u8) _ _ _ (bt a2 t470) [.int .u8 (bt a2 t470)] from rfl) (Reps.none _ _))); intro v474 w50 ho51 hb hg_ hnew_; clear hg_ hnew_; (first | rw [← Ny473.out] at ho51 | (simp only [Int.reduceToNat] at ho51; rw [← Ny473.out] at ho51)); have HO475 := Aside0.mk (Kd.R_lower ho51 (keep_size (w := w) (g := g) (row := none) kO_)); replace HK := Aside0.mk (KeepBut.trans kO_ (KeepBut.of_below hb g none) (.inl rfl)); replace HB := bT_ hb; replace HI0 := Aside0.mk (IsS64.below iO_ hb); clear hb ho51; have hcv52 := own_string (P := Tryz.prog) Tryz.underlying22 Tryz.underlying5 Tryz.underlying9 (Kd.own_of_R HO475.out)) | (go_at_call 71; (with_reducible refine (spec_l1Cur_pick.calls g s0_0 t471 t472 3 t476 t477 t478 w0 _ ?side1 ?side2 A14.out).mono ?_); (case side1 => exact iO_); (case side2 => exact bO_); rintro e w53 ⟨rfl, hi, hb, hk⟩; replace HO475 := Aside0.mk (Kd.R_mono (Kd.R_keep (IsS64.apart (show IsS64 w0 _ g s0_0 t471 t472 from iO_) HO475.out (by decide)) hk (fun _ h => h.2)) (fun _ h => h.1)); replace HK := kT_ hk; replace HB := Aside0.mk (hb); replace HI0 := Aside0.mk (hi))); try go_wp2_with (first | (go_at_call 71; (with_reducible refine (spec_l1Cur_pick.calls g s0_0 x1001_1 x1002_1 (x1_1.size : Int) t467 t468 t469 w0 _ ?side1 ?side2 A9.out).mono ?_); (case side1 => exact iO_); (case side2 => exact bO_); rintro e w48 ⟨rfl, hi, hb, hk⟩; replace HK := kT_ hk; replace HB := Aside0.mk (hb); replace HI0 := Aside0.mk (hi)) | (go_at_call 71; (with_reducible refine (spec_l1Cur_pick.calls g s0_0 t468 t469 (a2.size : Int) t470 t471 t472 w0 _ ?side1 ?side2 A10.out).mono ?_); (case side1 => exact iO_); (case side2 => exact bO_); rintro e w49 ⟨rfl, hi, hb, hk⟩; replace HK := kT_ hk; replace HB := Aside0.mk (hb); replace HI0 := Aside0.mk (hi); have p13 : 0 ≤ (t470 : Int) := of_decide_eq_true (by assumption); have q13 : t470 < (a2.size : Int) := of_decide_eq_true (by assumption); have hx13 := bt_at a2 t470; replace p13 := eq_true p13; replace q13 := eq_true q13) | ((with_reducible refine gate_dst (N := 32) rfl ?_); (try (refine gate_guard (by rfl) ?_; dsimp only)); refine Kd.R_lit (Kd.int .u8) _ 5 ?hg (N := 32) ?hd (xs := ([bt a2 t470] : List Int)) (inner := [.int .u8 (bt a2 t470)]) (ok := fun _ => True) (okp := fun _ => True) ?hr ?hp (fun _ hk => hk) trivial (Below.refl _ _) (Nat.le_refl _) (by simp) ?_; (case hd => rfl); (case hg => rfl); (case hr => go_simp <;> rfl); (case hp => exact (Reps.one (show Kd.M (Kd.int .u8) _ _ _ (bt a2 t470) [.int .u8 (bt a2 t470)] from rfl) (Reps.none _ _))); intro v474 w50 ho51 hb hg_ hnew_; clear hg_ hnew_; (first | rw [← Ny473.out] at ho51 | (simp only [Int.reduceToNat] at ho51; rw [← Ny473.out] at ho51)); have HO475 := Aside0.mk (Kd.R_lower ho51 (keep_size (w := w) (g := g) (row := none) kO_)); replace HK := Aside0.mk (KeepBut.trans kO_ (KeepBut.of_below hb g none) (.inl rfl)); replace HB := bT_ hb; replace HI0 := Aside0.mk (IsS64.below iO_ hb); clear hb ho51; have hcv52 := own_string (P := Tryz.prog) Tryz.underlying22 Tryz.underlying5 Tryz.underlying9 (Kd.own_of_R HO475.out)) | (go_at_call 71; (with_reducible refine (spec_l1Cur_pick.calls g s0_0 t471 t472 3 t476 t477 t478 w0 _ ?side1 ?side2 A14.out).mono ?_); (case side1 => exact iO_); (case side2 => exact bO_); rintro e w53 ⟨rfl, hi, hb, hk⟩; replace HO475 := Aside0.mk (Kd.R_mono (Kd.R_keep (IsS64.apart (show IsS64 w0 _ g s0_0 t471 t472 from iO_) HO475.out (by decide)) hk (fun _ h => h.2)) (fun _ h => h.1)); replace HK := kT_ hk; replace HB := Aside0.mk (hb); replace HI0 := Aside0.mk (hi))))
               go_roundg kj5
               case measure => have := HK1.out; have := HJ5.out; omega
               case rel => exact ⟨((x1_1.extract 0 (t467 : Int).toNat) ++ (x1_1.extract ((ji44) : Int).toNat x1_1.size)), (wrap64 (x7_1 - 1)), (t477), (t478), (by first | rfl | (simp; done) | (simp only [← hji44] <;> (first | rfl | simp)) | (simp [*]; done)), rfl, H', ⟨by have := HK1.out; have := HJ5.out; omega⟩, ⟨iO_⟩, ⟨kO_⟩, ⟨bO_⟩⟩
              ·rw [if_neg c47] at H
               exact absurd H (by simp)
             ·rw [if_neg c46] at H
              exact absurd H (by simp)
            ·rw [if_neg c45] at H
             exact absurd H (by simp)
           ·rw [if_neg c43] at H
            exact absurd H (by simp)
          ·rw [if_neg c42] at H
           exact absurd H (by simp)
       ·rw [if_neg c12] at H
        exact absurd H (by simp)
      ·rw [if_neg c11] at H
       exact absurd H (by simp)
     ·replace c8 := Bool.eq_false_iff.mpr c8
      subst c8
      rw [if_neg (show ¬ (false = true) by decide)] at H
      simp only [Option.some.injEq, Prod.mk.injEq] at H
      obtain ⟨rfl, rfl, rfl⟩ := H
      go_wp2
      repeat (go_quiet (fail); try go_wp2)
      go_ret
      exact ⟨rfl, iO_, bO_, kO_⟩

/-! ### spec_DrawParsePlates: function 26 -/
def spec_DrawParsePlates.f (k : Nat) (l0 : List Int) : Option (ByteArray) := (spec_l1Cur_surePlates.f k l0 0 0 7).bind fun bt480 => ((spec_isTexts.f k bt480.1).bind fun t485 => ((spec_l1Cur_one.f l0 bt480.2.1 bt480.2.2 3).bind fun bt486 => (if bt486.1 = true then ((spec_l1Cur_spoilt.f k l0 bt486.2.1 bt486.2.2 t485 (⟨#[48, 49, 50, 57, 97, 98, 122, 44]⟩ : ByteArray)).bind fun bt489 => (some bt489.1)) else (some t485))))
set_option maxHeartbeats 8000000 in
set_option maxRecDepth 100000 in
theorem spec_DrawParsePlates.calls (k : Nat) (A0 : Option Addr) (c0 : Nat) (l0 : List Int) (r : ByteArray) (w : World) (hr0 : Kd.C (Kd.int .u8) w A0 l0.length l0) (hc0 : l0.length ≤ c0) (h : spec_DrawParsePlates.f k l0 = some r) :
  Calls Tryz.prog 26 #[.slice A0 l0.length c0] w fun e w' => e = .returned (.string r) ∧ Below w.heap.size w w' := by
 have hu64 := Tryz.underlying64
 have HR0 := Aside0.mk hr0
 have HC0 := Aside0.mk hc0
 clear hr0 hc0
 have HB := Aside0.mk (Below.refl w.heap.size w)
 have H : ((spec_l1Cur_surePlates.f k l0 0 0 7).bind fun bt480 => ((spec_isTexts.f k bt480.1).bind fun t485 => ((spec_l1Cur_one.f l0 bt480.2.1 bt480.2.2 3).bind fun bt486 => (if bt486.1 = true then ((spec_l1Cur_spoilt.f k l0 bt486.2.1 bt486.2.2 t485 (⟨#[48, 49, 50, 57, 97, 98, 122, 44]⟩ : ByteArray)).bind fun bt489 => (some bt489.1)) else (some t485))))) = some r := h
 clear h
 replace H := Option.bind_eq_some_iff.mp H
 obtain ⟨⟨t480, t483, t484⟩, A20, H⟩ := H
 replace H : ((spec_isTexts.f k t480).bind fun t485 => ((spec_l1Cur_one.f l0 t483 t484 3).bind fun bt486 => (if bt486.1 = true then ((spec_l1Cur_spoilt.f k l0 bt486.2.1 bt486.2.2 t485 (⟨#[48, 49, 50, 57, 97, 98, 122, 44]⟩ : ByteArray)).bind fun bt489 => (some bt489.1)) else (some t485)))) = some r := H
 have A2 := Aside0.mk A20
 clear A20
 replace H := Option.bind_eq_some_iff.mp H
 obtain ⟨t485, A30, H⟩ := H
 replace H : ((spec_l1Cur_one.f l0 t483 t484 3).bind fun bt486 => (if bt486.1 = true then ((spec_l1Cur_spoilt.f k l0 bt486.2.1 bt486.2.2 t485 (⟨#[48, 49, 50, 57, 97, 98, 122, 44]⟩ : ByteArray)).bind fun bt489 => (some bt489.1)) else (some t485))) = some r := H
 have A3 := Aside0.mk A30
 clear A30
 replace H := Option.bind_eq_some_iff.mp H
 obtain ⟨⟨t486, t487, t488⟩, A40, H⟩ := H
 replace H : (if t486 = true then ((spec_l1Cur_spoilt.f k l0 t487 t488 t485 (⟨#[48, 49, 50, 57, 97, 98, 122, 44]⟩ : ByteArray)).bind fun bt489 => (some bt489.1)) else (some t485)) = some r := H
 have A4 := Aside0.mk A40
 clear A40
 by_cases c5 : t486 = true
 ·subst c5
  rw [if_pos rfl] at H
  replace H := Option.bind_eq_some_iff.mp H
  obtain ⟨⟨t489, t490, t491⟩, A60, H⟩ := H
  replace H : (some t489) = some r := H
  have A6 := Aside0.mk A60
  clear A60
  obtain rfl := Option.some.inj H
  go_enter Tryz.func26, Tryz.ntmps26
  go_wp2_with (first | ((with_reducible refine gate_dst (N := 7) rfl ?_); refine box_event ?hg (N := 7) ?hd (cs := #[.slice A0 l0.length c0, .int .i64 0, .int .u64 0]) (t := 64) ?hr ?_; (case hd => rfl); (case hg => rfl); (case hr => first | (go_simp; done) | (go_simp; rfl)); intro gb479 hg w7 hbox hb; have BK479 := Aside0.mk (hbox); have GW479 := Aside0.mk ((by rw [hg]; exact (below_size (by repeat first | exact HB.out | apply below_alloc | apply pw_below_drewN | apply below_drew1)) : w.heap.size ≤ gb479)); have HI479 := Aside0.mk ((⟨_, _, hbox, by rw [hg]; exact (below_size (by repeat first | exact HB.out | apply below_alloc | apply pw_below_drewN | apply below_drew1)), HR0.out⟩ : IsS64 w w7 gb479 l0 0 0)); replace HB := Aside0.mk (below_step (by repeat first | exact HB.out | apply below_alloc | apply pw_below_drewN | apply below_drew1) hb); clear hb hbox hg) | ((with_reducible refine gate_callee (f := 53) rfl ?_); refine goesL_ (some 9) rfl rfl Tryz.func53 (by kernel_rfl) rfl #[.pointer (some ⟨gb479, 0, none⟩), .int .i64 7] rfl (by (try simp only [List.map_toArray, List.map_cons, List.map_nil]); first | done | rfl | (simp only [List.length_drop, List.length_take]; rfl)) ?_; (with_reducible refine (spec_l1Cur_surePlates.calls k gb479 l0 0 0 7 t480 t483 t484 w _ ?side1 ?side2 A2.out).mono ?_); (case side1 => repeat first | exact HI479.out | apply IsS64.alloc | apply IsS64.drewN | apply IsS64.drew | apply IsS64.set_1 | apply IsS64.set_2); (case side2 => repeat first | exact HB.out | apply below_alloc | apply pw_below_drewN | apply below_drew1 | refine below_set ?_ (IsS64.ge HI479.out)); rintro e w8 ⟨v481, rfl, ho0, hi, hb, hk⟩; refine ⟨_, rfl, ?_⟩; have HO482 := Aside0.mk (Kd.R_lower ho0 (below_size (by repeat first | exact HB.out | apply below_alloc | apply pw_below_drewN | apply below_drew1 | refine below_set ?_ (IsS64.ge HI479.out)))); replace HB := Aside0.mk (hb); replace HI479 := Aside0.mk (hi); (try clear ho0); obtain ⟨Ao9, co9, eo9⟩ := Kd.R_slice HO482.out; subst eo9) | ((with_reducible refine gate_callee (f := 52) rfl ?_); refine goesL_ (some 10) rfl rfl Tryz.func52 (by kernel_rfl) rfl #[.slice Ao9 t480.length co9] rfl (by (try simp only [List.map_toArray, List.map_cons, List.map_nil]); first | done | rfl | (simp only [List.length_drop, List.length_take]; rfl)) ?_; (with_reducible refine (spec_isTexts.calls k _ _ t480 t485 _ ?side1 ?side2 A3.out).mono ?_); (case side1 => repeat (first | exact (Kd.R_reads' HO482.out).2.2 | (with_reducible refine Kd.C_alloc ?_ _) | (with_reducible refine Kd.C_drewN ?_ _) | (with_reducible refine Kd.C_drew ?_))); (case side2 => exact (Kd.R_reads' HO482.out).2.1); rintro e w10 ⟨rfl, hb⟩; refine ⟨_, rfl, ?_⟩; replace HO482 := Aside0.mk (Kd.R_below (by (with_reducible repeat (first | apply Kd.R_alloc | apply Kd.R_drewN | apply Kd.R_drew)); exact HO482.out) hb); replace HB := Aside0.mk (below_step (by repeat first | exact HB.out | apply below_alloc | apply pw_below_drewN | apply below_drew1 | refine below_set ?_ (IsS64.ge HI479.out)) hb); replace HI479 := Aside0.mk (IsS64.below (by repeat first | exact HI479.out | apply IsS64.alloc | apply IsS64.drewN | apply IsS64.drew | apply IsS64.set_1 | apply IsS64.set_2) hb)) | ((with_reducible refine gate_callee (f := 54) rfl ?_); refine goesL_ (some 12) rfl rfl Tryz.func54 (by kernel_rfl) rfl #[.pointer (some ⟨gb479, 0, none⟩), .int .i64 3] rfl (by (try simp only [List.map_toArray, List.map_cons, List.map_nil]); first | done | rfl | (simp only [List.length_drop, List.length_take]; rfl)) ?_; (with_reducible refine (spec_l1Cur_one.calls gb479 l0 t483 t484 3 true t487 t488 w _ ?side1 ?side2 A4.out).mono ?_); (case side1 => repeat first | exact HI479.out | apply IsS64.alloc | apply IsS64.drewN | apply IsS64.drew | apply IsS64.set_1 | apply IsS64.set_2); (case side2 => repeat first | exact HB.out | apply below_alloc | apply pw_below_drewN | apply below_drew1 | refine below_set ?_ (IsS64.ge HI479.out)); rintro e w11 ⟨rfl, hi, hb, hk⟩; refine ⟨_, rfl, ?_⟩; replace HO482 := Aside0.mk (Kd.R_mono (Kd.R_keep (IsS64.apart (show IsS64 w _ gb479 l0 t483 t484 from by repeat first | exact HI479.out | apply IsS64.alloc | apply IsS64.drewN | apply IsS64.drew | apply IsS64.set_1 | apply IsS64.set_2) (by (with_reducible repeat (first | apply Kd.R_alloc | apply Kd.R_drewN | apply Kd.R_drew)); exact HO482.out) (by decide)) hk (fun _ h => h.2)) (fun _ h => h.1)); replace HB := Aside0.mk (hb); replace HI479 := Aside0.mk (hi)) | ((with_reducible refine gate_callee (f := 55) rfl ?_); refine goesL_ (some 15) rfl rfl Tryz.func55 (by kernel_rfl) rfl #[.pointer (some ⟨gb479, 0, none⟩), .string t485, .string (⟨#[48, 49, 50, 57, 97, 98, 122, 44]⟩ : ByteArray)] rfl (by (try simp only [List.map_toArray, List.map_cons, List.map_nil]); first | done | rfl | (simp only [List.length_drop, List.length_take]; rfl)) ?_; (with_reducible refine (spec_l1Cur_spoilt.calls k gb479 l0 t487 t488 t485 (⟨#[48, 49, 50, 57, 97, 98, 122, 44]⟩ : ByteArray) t489 t490 t491 w _ ?side1 ?side2 A6.out).mono ?_); (case side1 => repeat first | exact HI479.out | apply IsS64.alloc | apply IsS64.drewN | apply IsS64.drew | apply IsS64.set_1 | apply IsS64.set_2); (case side2 => repeat first | exact HB.out | apply below_alloc | apply pw_below_drewN | apply below_drew1 | refine below_set ?_ (IsS64.ge HI479.out)); rintro e w12 ⟨rfl, hi, hb, hk⟩; refine ⟨_, rfl, ?_⟩; replace HO482 := Aside0.mk (Kd.R_mono (Kd.R_keep (IsS64.apart (show IsS64 w _ gb479 l0 t487 t488 from by repeat first | exact HI479.out | apply IsS64.alloc | apply IsS64.drewN | apply IsS64.drew | apply IsS64.set_1 | apply IsS64.set_2) (by (with_reducible repeat (first | apply Kd.R_alloc | apply Kd.R_drewN | apply Kd.R_drew)); exact HO482.out) (by decide)) hk (fun _ h => h.2)) (fun _ h => h.1)); replace HB := Aside0.mk (hb); replace HI479 := Aside0.mk (hi)))
  go_ret
  exact ⟨by first | rfl | (simp [errW_none, errW_some] <;> rfl) | (simp [*, errW_none, errW_some] <;> rfl), by repeat first | exact HB.out | apply below_alloc | apply pw_below_drewN | apply below_drew1 | refine below_set ?_ (IsS64.ge HI479.out)⟩
 ·replace c5 := Bool.eq_false_iff.mpr c5
  subst c5
  rw [if_neg (show ¬ (false = true) by decide)] at H
  obtain rfl := Option.some.inj H
  go_enter Tryz.func26, Tryz.ntmps26
  go_wp2_with (first | ((with_reducible refine gate_dst (N := 7) rfl ?_); refine box_event ?hg (N := 7) ?hd (cs := #[.slice A0 l0.length c0, .int .i64 0, .int .u64 0]) (t := 64) ?hr ?_; (case hd => rfl); (case hg => rfl); (case hr => first | (go_simp; done) | (go_simp; rfl)); intro gb479 hg w13 hbox hb; have BK479 := Aside0.mk (hbox); have GW479 := Aside0.mk ((by rw [hg]; exact (below_size (by repeat first | exact HB.out | apply below_alloc | apply pw_below_drewN | apply below_drew1)) : w.heap.size ≤ gb479)); have HI479 := Aside0.mk ((⟨_, _, hbox, by rw [hg]; exact (below_size (by repeat first | exact HB.out | apply below_alloc | apply pw_below_drewN | apply below_drew1)), HR0.out⟩ : IsS64 w w13 gb479 l0 0 0)); replace HB := Aside0.mk (below_step (by repeat first | exact HB.out | apply below_alloc | apply pw_below_drewN | apply below_drew1) hb); clear hb hbox hg) | ((with_reducible refine gate_callee (f := 53) rfl ?_); refine goesL_ (some 9) rfl rfl Tryz.func53 (by kernel_rfl) rfl #[.pointer (some ⟨gb479, 0, none⟩), .int .i64 7] rfl (by (try simp only [List.map_toArray, List.map_cons, List.map_nil]); first | done | rfl | (simp only [List.length_drop, List.length_take]; rfl)) ?_; (with_reducible refine (spec_l1Cur_surePlates.calls k gb479 l0 0 0 7 t480 t483 t484 w _ ?side1 ?side2 A2.out).mono ?_); (case side1 => repeat first | exact HI479.out | apply IsS64.alloc | apply IsS64.drewN | apply IsS64.drew | apply IsS64.set_1 | apply IsS64.set_2); (case side2 => repeat first | exact HB.out | apply below_alloc | apply pw_below_drewN | apply below_drew1 | refine below_set ?_ (IsS64.ge HI479.out)); rintro e w14 ⟨v481, rfl, ho0, hi, hb, hk⟩; refine ⟨_, rfl, ?_⟩; have HO482 := Aside0.mk (Kd.R_lower ho0 (below_size (by repeat first | exact HB.out | apply below_alloc | apply pw_below_drewN | apply below_drew1 | refine below_set ?_ (IsS64.ge HI479.out)))); replace HB := Aside0.mk (hb); replace HI479 := Aside0.mk (hi); (try clear ho0); obtain ⟨Ao15, co15, eo15⟩ := Kd.R_slice HO482.out; subst eo15) | ((with_reducible refine gate_callee (f := 52) rfl ?_); refine goesL_ (some 10) rfl rfl Tryz.func52 (by kernel_rfl) rfl #[.slice Ao15 t480.length co15] rfl (by (try simp only [List.map_toArray, List.map_cons, List.map_nil]); first | done | rfl | (simp only [List.length_drop, List.length_take]; rfl)) ?_; (with_reducible refine (spec_isTexts.calls k _ _ t480 t485 _ ?side1 ?side2 A3.out).mono ?_); (case side1 => repeat (first | exact (Kd.R_reads' HO482.out).2.2 | (with_reducible refine Kd.C_alloc ?_ _) | (with_reducible refine Kd.C_drewN ?_ _) | (with_reducible refine Kd.C_drew ?_))); (case side2 => exact (Kd.R_reads' HO482.out).2.1); rintro e w16 ⟨rfl, hb⟩; refine ⟨_, rfl, ?_⟩; replace HO482 := Aside0.mk (Kd.R_below (by (with_reducible repeat (first | apply Kd.R_alloc | apply Kd.R_drewN | apply Kd.R_drew)); exact HO482.out) hb); replace HB := Aside0.mk (below_step (by repeat first | exact HB.out | apply below_alloc | apply pw_below_drewN | apply below_drew1 | refine below_set ?_ (IsS64.ge HI479.out)) hb); replace HI479 := Aside0.mk (IsS64.below (by repeat first | exact HI479.out | apply IsS64.alloc | apply IsS64.drewN | apply IsS64.drew | apply IsS64.set_1 | apply IsS64.set_2) hb)) | ((with_reducible refine gate_callee (f := 54) rfl ?_); refine goesL_ (some 12) rfl rfl Tryz.func54 (by kernel_rfl) rfl #[.pointer (some ⟨gb479, 0, none⟩), .int .i64 3] rfl (by (try simp only [List.map_toArray, List.map_cons, List.map_nil]); first | done | rfl | (simp only [List.length_drop, List.length_take]; rfl)) ?_; (with_reducible refine (spec_l1Cur_one.calls gb479 l0 t483 t484 3 false t487 t488 w _ ?side1 ?side2 A4.out).mono ?_); (case side1 => repeat first | exact HI479.out | apply IsS64.alloc | apply IsS64.drewN | apply IsS64.drew | apply IsS64.set_1 | apply IsS64.set_2); (case side2 => repeat first | exact HB.out | apply below_alloc | apply pw_below_drewN | apply below_drew1 | refine below_set ?_ (IsS64.ge HI479.out)); rintro e w17 ⟨rfl, hi, hb, hk⟩; refine ⟨_, rfl, ?_⟩; replace HO482 := Aside0.mk (Kd.R_mono (Kd.R_keep (IsS64.apart (show IsS64 w _ gb479 l0 t483 t484 from by repeat first | exact HI479.out | apply IsS64.alloc | apply IsS64.drewN | apply IsS64.drew | apply IsS64.set_1 | apply IsS64.set_2) (by (with_reducible repeat (first | apply Kd.R_alloc | apply Kd.R_drewN | apply Kd.R_drew)); exact HO482.out) (by decide)) hk (fun _ h => h.2)) (fun _ h => h.1)); replace HB := Aside0.mk (hb); replace HI479 := Aside0.mk (hi)))
  go_ret
  exact ⟨by first | rfl | (simp [errW_none, errW_some] <;> rfl) | (simp [*, errW_none, errW_some] <;> rfl), by repeat first | exact HB.out | apply below_alloc | apply pw_below_drewN | apply below_drew1 | refine below_set ?_ (IsS64.ge HI479.out)⟩

-- NOT PRINTED: function 90 (utf8_RuneCountInString)

-- NOT PRINTED: function 103 (utf8_decodeRuneInStringSlow)

-- NOT PRINTED: function 91 (utf8_DecodeRuneInString)

-- NOT PRINTED: function 82 (strings_explode)

-- NOT PRINTED: function 116 (bytealg_IndexByteString)

-- NOT PRINTED: function 104 (stringslite_IndexByte)

-- NOT PRINTED: function 105 (bytealg_IndexString)

end Go.Proofs.YtbnhfipcjbnknaaGreatDoor.PFnPlatesOrder
