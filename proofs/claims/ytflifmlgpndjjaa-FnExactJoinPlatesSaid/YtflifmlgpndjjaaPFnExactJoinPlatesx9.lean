/- Functions that the law FnExactJoinPlates reaches, each as a Lean function, and that the Go code comes to just these answers (written by programs). -/
import Derived.Test.YtflifmlgpndjjaaPFnExactJoinPlatesx8
import Derived.Test.YtflifmlgpndjjaaShelf
import Derived.Test.YtflifmlgpndjjaaRowPut
import Derived.Shelf.SlSortCmp.WholeK
import Derived.Test.YtflifmlgpndjjaaPFnExactJoinPlatesx0
import Derived.Test.YtflifmlgpndjjaaPFnExactJoinPlatesx7
namespace Go.Proofs.Ytflifmlgpndjjaa.PFnExactJoinPlates
open Go.RowKit Go.Proofs.YtflifmlgpndjjaaW.PrintWords Go.Proofs.YtflifmlgpndjjaaW.PrintLast Go.Proofs.YtflifmlgpndjjaaW.PrintMore
attribute [local go_sem] max2_int min2_int max_two min_two max_three min_three max_four min_four   -- for this text's walks alone
set_option linter.unusedVariables false
set_option linter.unusedSimpArgs false

/-! ### impl_Plate_38: function 38 (given by hand) -/
theorem impl_Plate_38.rank (a b : Int) (W : World) : Calls Try.prog 34 #[.agg #[.int .i64 a, .int .i64 b]] W fun e w' => e = .returned (.int .i64 (wrap64 (wrap64 (a * 27) + b))) ∧ ∃ q os', w' = Sort.grow (W.drewN q) os' := by
  go_enter Try.func34, Try.ntmps34
  go_wp2
  go_ret
  exact ⟨rfl, 0, _, by rw [Sort.alloc_eq_grow]; rfl⟩
/-- A plate's rank, as the machine reckons it. -/
def impl_Plate_38.rk (x : S30) : Int := wrap64 (wrap64 (x.f0 * 27) + x.f1)
def impl_Plate_38.cf (x y : S30) : Int := if impl_Plate_38.rk x < impl_Plate_38.rk y then -1 else if impl_Plate_38.rk y < impl_Plate_38.rk x then 1 else 0
def impl_Plate_38.enc (x : S30) : List Value := [.int .i64 x.f0, .int .i64 x.f1]
instance impl_Plate_38.inh : Inhabited S30 := ⟨⟨0, 0⟩⟩
theorem impl_Plate_38.lt (x y : S30) : ltOf impl_Plate_38.cf x y = decide (impl_Plate_38.rk x < impl_Plate_38.rk y) := by
  unfold ltOf impl_Plate_38.cf
  by_cases h1 : impl_Plate_38.rk x < impl_Plate_38.rk y
  · simp [h1]
  · by_cases h2 : impl_Plate_38.rk y < impl_Plate_38.rk x <;> simp [h1, h2]
theorem impl_Plate_38.swo : Sort.SWO (ltOf impl_Plate_38.cf) where
  irrefl x := by rw [impl_Plate_38.lt]; simp
  trans x y z h1 h2 := by rw [impl_Plate_38.lt] at *; simp at *; omega
  ntrans x y z h1 h2 := by rw [impl_Plate_38.lt] at *; simp at *; omega
set_option maxHeartbeats 2000000 in
theorem impl_Plate_38.cmp (x y : S30) (W : World) : Calls Try.prog 39 #[.agg #[.int .i64 x.f0, .int .i64 x.f1], .agg #[.int .i64 y.f0, .int .i64 y.f1]] W fun e w' => e = .returned (.int .i64 (impl_Plate_38.cf x y)) ∧ ∃ q os', w' = Sort.grow (W.drewN q) os' := by
  have hc : ∀ W', Calls Try.prog 43 #[.int .i64 (impl_Plate_38.rk x), .int .i64 (impl_Plate_38.rk y)] W' fun e w' => e = .returned (.int .i64 (impl_Plate_38.cf x y)) ∧ ∃ q os', w' = Sort.grow (W'.drewN q) os' := fun W' => by
    refine (cmp_Compare_int.calls (impl_Plate_38.rk x) (impl_Plate_38.rk y) (impl_Plate_38.cf x y) W' ?_).mono ?_
    · unfold cmp_Compare_int.f cmp_isNaN_int.f impl_Plate_38.cf
      simp only [Option.bind_some, bne_self_eq_false, Bool.false_eq_true, if_false, gt_iff_lt]
      repeat' split
      all_goals first | rfl | omega
    · rintro e w' ⟨rfl, ⟨n, rfl⟩⟩
      exact ⟨rfl, n, #[], (Sort.grow_empty _).symm⟩
  have hr1 : ∀ W', Calls Try.prog 34 #[.agg #[.int .i64 x.f0, .int .i64 x.f1]] W' fun e w' => e = .returned (.int .i64 (impl_Plate_38.rk x)) ∧ ∃ q os', w' = Sort.grow (W'.drewN q) os' := fun W' => impl_Plate_38.rank x.f0 x.f1 W'
  have hr2 : ∀ W', Calls Try.prog 34 #[.agg #[.int .i64 y.f0, .int .i64 y.f1]] W' fun e w' => e = .returned (.int .i64 (impl_Plate_38.rk y)) ∧ ∃ q os', w' = Sort.grow (W'.drewN q) os' := fun W' => impl_Plate_38.rank y.f0 y.f1 W'
  have mixed : Try.prog.follows .mixedOrders = true := by kernel_rfl
  generalize impl_Plate_38.cf x y = c at hc ⊢
  generalize impl_Plate_38.rk x = rx at hc hr1
  generalize impl_Plate_38.rk y = ry at hc hr2
  generalize x.f0 = x0 at hr1 ⊢
  generalize x.f1 = x1 at hr1 ⊢
  generalize y.f0 = y0 at hr2 ⊢
  generalize y.f1 = y1 at hr2 ⊢
  go_enter Try.func39, Try.ntmps39
  go_wp2_with fail
  have c0 : ∀ n os, (Sort.grow (((W.alloc (.cells #[.int .i64 x0, .int .i64 x1] 30)).alloc (.cells #[.int .i64 y0, .int .i64 y1] 30)).drewN n) os).cell? ⟨W.heap.size, 0, none⟩ = some (.int .i64 x0) := cell_grown (by simp <;> omega) (by go_simp)
  have c1 : ∀ n os, (Sort.grow (((W.alloc (.cells #[.int .i64 x0, .int .i64 x1] 30)).alloc (.cells #[.int .i64 y0, .int .i64 y1] 30)).drewN n) os).cell? ⟨W.heap.size, 1, none⟩ = some (.int .i64 x1) := cell_grown (by simp <;> omega) (by go_simp)
  have d0 : ∀ n os, (Sort.grow (((W.alloc (.cells #[.int .i64 x0, .int .i64 x1] 30)).alloc (.cells #[.int .i64 y0, .int .i64 y1] 30)).drewN n) os).cell? ⟨W.heap.size + 1, 0, none⟩ = some (.int .i64 y0) := cell_grown (by simp <;> omega) (by go_simp)
  have d1 : ∀ n os, (Sort.grow (((W.alloc (.cells #[.int .i64 x0, .int .i64 x1] 30)).alloc (.cells #[.int .i64 y0, .int .i64 y1] 30)).drewN n) os).cell? ⟨W.heap.size + 1, 1, none⟩ = some (.int .i64 y1) := cell_grown (by simp <;> omega) (by go_simp)
  go_quiet_grown (first | (go_at_call 34; first | exact Calls.grown_of (hr1 _) | exact Calls.grown_of (hr2 _)) | (go_at_call 43; exact Calls.grown_of (hc _)))
  go_wp2
  go_ret
  exact ⟨rfl, nq, (#[Obj.cells #[.int .i64 x0, .int .i64 x1] 30] ++ #[Obj.cells #[.int .i64 y0, .int .i64 y1] 30]) ++ osq, by rw [Sort.alloc_eq_grow, Sort.alloc_eq_grow, Sort.grow_grow]; show Sort.grow (Sort.grow (W.drewN nq) _) osq = _; rw [Sort.grow_grow]⟩
/-- What slices.SortFunc makes of plates. -/
def impl_Plate_38.sorted (l : List S30) : List S30 := (Sort.pdq (ltOf impl_Plate_38.cf) l.toArray 0 l.toArray.size (Lib.bitLen l.toArray.size) true true).toList
theorem impl_Plate_38.sorts (l : List S30) : (impl_Plate_38.sorted l).Perm l ∧ (impl_Plate_38.sorted l).Pairwise (fun x y => impl_Plate_38.rk x ≤ impl_Plate_38.rk y) := by
  have h := Sort.pdq_sorts (ltOf impl_Plate_38.cf) impl_Plate_38.swo l.toArray 0 l.toArray.size (Lib.bitLen l.toArray.size) true true (Nat.zero_le _) (Nat.le_refl _) (Or.inl rfl)
  obtain ⟨⟨h1, _, h2⟩, h3⟩ := h
  refine ⟨?_, ?_⟩
  · unfold impl_Plate_38.sorted
    generalize Sort.pdq (ltOf impl_Plate_38.cf) l.toArray 0 l.toArray.size (Lib.bitLen l.toArray.size) true true = d at h1 h2
    rw [← h1] at h2
    simp only [Array.extract_size] at h2
    rw [h1] at h2
    simpa using h2
  · unfold impl_Plate_38.sorted
    generalize Sort.pdq (ltOf impl_Plate_38.cf) l.toArray 0 l.toArray.size (Lib.bitLen l.toArray.size) true true = d at h1 h3
    rw [List.pairwise_iff_getElem]
    intro i j hi hj hij
    have hi' : i < d.size := by simpa using hi
    have hj' : j < d.size := by simpa using hj
    have := h3 i j (Nat.zero_le _) hij (by rw [← h1]; exact hj')
    rw [impl_Plate_38.lt, getElem!_pos d i hi', getElem!_pos d j hj'] at this
    simpa using this
def impl_Plate_38.f (l0 : List (S30)) (a1 : Int) : Option ((List (S30))) := if 0 < l0.length ∧ l0.length ≤ 140737488355328 then some (impl_Plate_38.sorted l0) else none
set_option maxHeartbeats 2000000 in
theorem impl_Plate_38.calls (P0_ : Nat → Prop) (u9000_ : Value) (l0 : List (S30)) (a1 : Int) (r : List (S30)) (w0 w : World) (hB : Below w0.heap.size w0 w) (ho0 : Kd.R k30 30 w w0.heap.size P0_ u9000_ l0) (h : impl_Plate_38.f l0 a1 = some r) :
    Calls Try.prog 38 #[u9000_, .func (.func 39) #[] #[]] w fun e w' => e = .returned (.tuple #[]) ∧ Kd.R k30 30 w' w0.heap.size (fun k_ => (P0_ k_ ∨ w.heap.size ≤ k_)) u9000_ r ∧ Below w0.heap.size w0 w' ∧ Kept w w' (fun k_ => P0_ k_) := by
  unfold impl_Plate_38.f at h
  by_cases c : 0 < l0.length ∧ l0.length ≤ 140737488355328
  · rw [if_pos c] at h
    obtain rfl := Option.some.inj h
    clear h
    obtain ⟨g, cap, rfl, hgb, hgok, hgl, hH, hback⟩ := RowPut.row_sortK (enc := impl_Plate_38.enc) 2 (by decide) rfl (fun _ => rfl) (fun w base ok x cs => ⟨fun h => k30_openM h, fun h => by rw [h]; exact k30_mkM _ _ _ x⟩) ho0 c.1
    have eg : ∀ args w, (callFunc 39 args).run Try.prog w = .ok (.enter 39 args) w := enters_of Try.func39 (by kernel_rfl) rfl
    have hcon := AnyQ.slices_SortFunc_eq Try.sortPlates 2 (fun w => by kernel_rfl) (fun w => by kernel_rfl) impl_Plate_38.enc (fun _ => rfl) (fun x v hv => by simp [impl_Plate_38.enc] at hv; rcases hv with rfl | rfl <;> rfl) impl_Plate_38.cf impl_Plate_38.swo 39 #[] g 0 cap l0.toArray w eg (fun _ _ _ _ x y => impl_Plate_38.cmp x y _) hH hgl (by simp; omega)
    have hsz : l0.toArray.size = l0.length := by simp
    rw [hsz] at hcon
    change Calls Try.prog 38 _ _ _ at hcon
    refine hcon.mono ?_
    rintro e w' ⟨rfl, n, os, rfl⟩
    have hps := (Sort.pdq_sorts (ltOf impl_Plate_38.cf) impl_Plate_38.swo l0.toArray 0 l0.toArray.size (Lib.bitLen l0.toArray.size) true true (Nat.zero_le _) (Nat.le_refl _) (Or.inl rfl)).1.1
    rw [hsz] at hps
    obtain ⟨h1, h2⟩ := hback n os _ hps
    refine ⟨rfl, Kd.R_mono ?_ (fun k hk => .inl hk), hB.grown h2 hB.size (fun k hk => by injection hk with hk; omega), Kept.of_grown h2 (Kept.refl w _) (fun k hk => .inl (by injection hk with hk; rw [← hk]; exact hgok))⟩
    unfold impl_Plate_38.sorted
    rw [hsz]
    exact h1
  · rw [if_neg c] at h
    cases h

/-! ### impl_checkedPlates: function 30 -/
def impl_checkedPlates.f (k : Nat) (l0 : List (S30)) : Option ((List (S30)) × Bool) := (impl_Plate_38.f l0 7777039).bind fun t219 => ((impl_ArePlates.f k t219).bind fun t220 => (if t220 = true then (some (t219, true)) else (some (([] : List (S30)), false))))
theorem impl_checkedPlates.mono : ∀ a0 k, LeO (impl_checkedPlates.f k a0) (impl_checkedPlates.f (k + 1) a0) := by
  intro a0 k
  unfold impl_checkedPlates.f
  repeat' first
      | (with_reducible exact impl_ArePlates.mono _ _)
      | (with_reducible exact LeO.refl _)
      | (with_reducible exact LeO.none _)
      | (with_reducible refine LeO.ite ?_ ?_)
      | (with_reducible refine LeO.bind ?_ (fun _ => ?_))
      | exact impl_ArePlates.mono _ _
      | exact LeO.none _
      | refine LeO.ite ?_ ?_
      | refine LeO.bind ?_ (fun _ => ?_)
set_option maxHeartbeats 8000000 in
set_option maxRecDepth 100000 in
theorem impl_checkedPlates.calls (k : Nat) (P0_ : Nat → Prop) (u9000_ : Value) (l0 : List (S30)) (r1 : List (S30)) (r2 : Bool) (w0 w : World) (hB : Below w0.heap.size w0 w) (ho0 : Kd.R k30 30 w w0.heap.size P0_ u9000_ l0) (h : impl_checkedPlates.f k l0 = some (r1, r2)) :
    Calls Try.prog 30 #[u9000_] w fun e w' => ∃ v0_ : Value, e = .returned (.tuple #[v0_, .bool r2]) ∧ Kd.R k30 30 w' w0.heap.size (fun k_ => (P0_ k_ ∨ w.heap.size ≤ k_)) v0_ r1 ∧ Below w0.heap.size w0 w' ∧ Kept w w' (fun k_ => P0_ k_) := by
  have HO0 := Aside0.mk (show Kd.R k30 30 w w0.heap.size (fun k_ => (P0_ k_ ∨ w.heap.size ≤ k_)) u9000_ l0 from Kd.R_mono ho0 (fun k_ hk => (.inl hk)))
  have HK := Aside0.mk (Kept.refl w (fun k_ => P0_ k_))
  have HW0 := Aside0.mk hB.size
  have HB := Aside0.mk hB
  clear hB
  have H : ((impl_Plate_38.f l0 7777039).bind fun t219 => ((impl_ArePlates.f k t219).bind fun t220 => (if t220 = true then (some (t219, true)) else (some (([] : List (S30)), false))))) = some (r1, r2) := h
  clear h
  replace H := Option.bind_eq_some_iff.mp H
  obtain ⟨t219, A20, H⟩ := H
  replace H : ((impl_ArePlates.f k t219).bind fun t220 => (if t220 = true then (some (t219, true)) else (some (([] : List (S30)), false)))) = some (r1, r2) := H
  have A2 := Aside0.mk A20
  clear A20
  replace H := Option.bind_eq_some_iff.mp H
  obtain ⟨t220, A30, H⟩ := H
  replace H : (if t220 = true then (some (t219, true)) else (some (([] : List (S30)), false))) = some (r1, r2) := H
  have A3 := Aside0.mk A30
  clear A30
  by_cases c4 : t220 = true
  · subst c4
    have H1 : (some (t219, true)) = some (r1, r2) := by rw [if_pos rfl] at H; exact H
    clear H
    have H := H1
    clear H1
    simp only [Option.some.injEq, Prod.mk.injEq] at H
    obtain ⟨rfl, rfl⟩ := H
    obtain ⟨Ao5, co5, eo5⟩ := Kd.R_slice HO0.out
    subst eo5
    go_enter Try.func30, Try.ntmps30
    go_wp2_with (first | ((with_reducible refine gate_callee (f := 38) rfl ?_); refine goesL_ (some 5) rfl rfl Try.func38 (by kernel_rfl) rfl #[.slice Ao5 l0.length co5, .func (.func 39) #[] #[]] rfl (by (try simp only [List.map_toArray, List.map_cons, List.map_nil]); first | done | rfl | (simp only [List.length_drop, List.length_take]; rfl)) ?_; (with_reducible refine (impl_Plate_38.calls (fun k_ => some k_ = (.slice Ao5 l0.length co5 : Value).ownBlock) (.slice Ao5 l0.length co5) l0 7777039 t219 w0 _ ?side1 ?side2 A2.out).mono ?_); (case side1 => repeat (first | (with_reducible first | exact HB.out | apply below_alloc | apply pw_below_drewN | apply below_drew1) | exact HB.out)); (case side2 => exact Kd.R_tight rfl HO0.out); rintro e w6 ⟨rfl, hy0, hb, hkp⟩; refine ⟨_, rfl, ?_⟩; have n0_ := Aside0.mk (Kd.R_reok rfl hy0 (fun k_ e_ => HO0.out.1 k_ e_)); have n1_ := Aside0.mk (Kept.then_ (S := (fun k_ => P0_ k_)) (by repeat (first | (with_reducible first | exact HK.out | apply Kept.alloc | apply Kept.drewN | apply Kept.drew) | exact HK.out)) hkp (fun k_ hs_ => (fun e_ => (HO0.out.1 k_ e_.symm)) hs_)); have n2_ := Aside0.mk (hb); clear HO0; clear HK; clear HB; have HO0 := n0_; have HK := n1_; have HB := n2_; clear n0_ n1_ n2_; (try clear hb); (try clear hkp); (try clear hy0)) | ((with_reducible refine gate_callee (f := 21) rfl ?_); refine goesL_ (some 7) rfl rfl Try.func21 (by kernel_rfl) rfl #[.slice Ao5 t219.length co5] rfl (by (try simp only [List.map_toArray, List.map_cons, List.map_nil]); first | done | (rw [show t219.length = l0.length from (Kd.R_reads' HO0.out).1.symm] <;> rfl) | rfl | (simp only [List.length_drop, List.length_take]; rfl)) ?_; (with_reducible refine (impl_ArePlates.calls k _ _ t219 true _ ?side1 ?side2 A3.out).mono ?_); (case side1 => repeat (first | exact (Kd.R_reads' HO0.out).2.2 | (with_reducible refine Kd.C_alloc ?_ _) | (with_reducible refine Kd.C_drewN ?_ _) | (with_reducible refine Kd.C_drew ?_))); (case side2 => rw [show t219.length = l0.length from (Kd.R_reads' HO0.out).1.symm]; exact (Kd.R_reads' HO0.out).2.1); rintro e w7 ⟨rfl, hb⟩; refine ⟨_, rfl, ?_⟩; have n0_ := Aside0.mk (Kd.R_below (by (with_reducible repeat (first | apply Kd.R_alloc | apply Kd.R_drewN | apply Kd.R_drew)); exact HO0.out) hb); have n1_ := Aside0.mk (Kept.below (S := (fun k_ => P0_ k_)) (by repeat (first | (with_reducible first | exact HK.out | apply Kept.alloc | apply Kept.drewN | apply Kept.drew) | exact HK.out)) hb); have n2_ := Aside0.mk (below_step (by repeat (first | (with_reducible first | exact HB.out | apply below_alloc | apply pw_below_drewN | apply below_drew1) | exact HB.out)) hb); clear HO0; clear HK; clear HB; have HO0 := n0_; have HK := n1_; have HB := n2_; clear n0_ n1_ n2_; (try clear hb); (try clear hb2); (try clear hk); (try clear hi)))
    go_ret2
    exact ⟨_, by first | rfl | (simp [errW_none, errW_some] <;> rfl) | (simp [*, errW_none, errW_some] <;> rfl), by (with_reducible repeat (first | apply Kd.R_alloc | apply Kd.R_drewN | apply Kd.R_drew)); exact HO0.out, by repeat (first | (with_reducible first | exact HB.out | apply below_alloc | apply pw_below_drewN | apply below_drew1) | exact HB.out), by repeat (first | (with_reducible first | exact HK.out | apply Kept.alloc | apply Kept.drewN | apply Kept.drew) | exact HK.out)⟩
  · replace c4 := Bool.eq_false_iff.mpr c4
    subst c4
    have H1 : (some (([] : List (S30)), false)) = some (r1, r2) := by rw [if_neg (show ¬ (false = true) by decide)] at H; exact H
    clear H
    have H := H1
    clear H1
    simp only [Option.some.injEq, Prod.mk.injEq] at H
    obtain ⟨rfl, rfl⟩ := H
    obtain ⟨Ao8, co8, eo8⟩ := Kd.R_slice HO0.out
    subst eo8
    go_enter Try.func30, Try.ntmps30
    go_wp2_with (first | ((with_reducible refine gate_callee (f := 38) rfl ?_); refine goesL_ (some 5) rfl rfl Try.func38 (by kernel_rfl) rfl #[.slice Ao8 l0.length co8, .func (.func 39) #[] #[]] rfl (by (try simp only [List.map_toArray, List.map_cons, List.map_nil]); first | done | rfl | (simp only [List.length_drop, List.length_take]; rfl)) ?_; (with_reducible refine (impl_Plate_38.calls (fun k_ => some k_ = (.slice Ao8 l0.length co8 : Value).ownBlock) (.slice Ao8 l0.length co8) l0 7777039 t219 w0 _ ?side1 ?side2 A2.out).mono ?_); (case side1 => repeat (first | (with_reducible first | exact HB.out | apply below_alloc | apply pw_below_drewN | apply below_drew1) | exact HB.out)); (case side2 => exact Kd.R_tight rfl HO0.out); rintro e w9 ⟨rfl, hy0, hb, hkp⟩; refine ⟨_, rfl, ?_⟩; have n0_ := Aside0.mk (Kd.R_reok rfl hy0 (fun k_ e_ => HO0.out.1 k_ e_)); have n1_ := Aside0.mk (Kept.then_ (S := (fun k_ => P0_ k_)) (by repeat (first | (with_reducible first | exact HK.out | apply Kept.alloc | apply Kept.drewN | apply Kept.drew) | exact HK.out)) hkp (fun k_ hs_ => (fun e_ => (HO0.out.1 k_ e_.symm)) hs_)); have n2_ := Aside0.mk (hb); clear HO0; clear HK; clear HB; have HO0 := n0_; have HK := n1_; have HB := n2_; clear n0_ n1_ n2_; (try clear hb); (try clear hkp); (try clear hy0)) | ((with_reducible refine gate_callee (f := 21) rfl ?_); refine goesL_ (some 7) rfl rfl Try.func21 (by kernel_rfl) rfl #[.slice Ao8 t219.length co8] rfl (by (try simp only [List.map_toArray, List.map_cons, List.map_nil]); first | done | (rw [show t219.length = l0.length from (Kd.R_reads' HO0.out).1.symm] <;> rfl) | rfl | (simp only [List.length_drop, List.length_take]; rfl)) ?_; (with_reducible refine (impl_ArePlates.calls k _ _ t219 false _ ?side1 ?side2 A3.out).mono ?_); (case side1 => repeat (first | exact (Kd.R_reads' HO0.out).2.2 | (with_reducible refine Kd.C_alloc ?_ _) | (with_reducible refine Kd.C_drewN ?_ _) | (with_reducible refine Kd.C_drew ?_))); (case side2 => rw [show t219.length = l0.length from (Kd.R_reads' HO0.out).1.symm]; exact (Kd.R_reads' HO0.out).2.1); rintro e w10 ⟨rfl, hb⟩; refine ⟨_, rfl, ?_⟩; have n0_ := Aside0.mk (Kd.R_below (by (with_reducible repeat (first | apply Kd.R_alloc | apply Kd.R_drewN | apply Kd.R_drew)); exact HO0.out) hb); have n1_ := Aside0.mk (Kept.below (S := (fun k_ => P0_ k_)) (by repeat (first | (with_reducible first | exact HK.out | apply Kept.alloc | apply Kept.drewN | apply Kept.drew) | exact HK.out)) hb); have n2_ := Aside0.mk (below_step (by repeat (first | (with_reducible first | exact HB.out | apply below_alloc | apply pw_below_drewN | apply below_drew1) | exact HB.out)) hb); clear HO0; clear HK; clear HB; have HO0 := n0_; have HK := n1_; have HB := n2_; clear n0_ n1_ n2_; (try clear hb); (try clear hb2); (try clear hk); (try clear hi)))
    go_ret2
    exact ⟨_, by first | rfl | (simp [errW_none, errW_some] <;> rfl) | (simp [*, errW_none, errW_some] <;> rfl), by first | exact Kd.R_nil _ _ _ _ _ | exact Kd.N_nil _ _ _ _ _ | exact Kd.V_nil _ _ _ _ _ | exact Kd.Q_nil _ _ _ _ _ | exact Kd.S_nil _ _ _ _ _, by repeat (first | (with_reducible first | exact HB.out | apply below_alloc | apply pw_below_drewN | apply below_drew1) | exact HB.out), by repeat (first | (with_reducible first | exact HK.out | apply Kept.alloc | apply Kept.drewN | apply Kept.drew) | exact HK.out)⟩

-- NOT PRINTED: function 40 (impl_Plate_40)

-- NOT PRINTED: function 31 (impl_Plate_31)

/-! ### impl_JoinPlates: function 17 (given by hand) -/
def impl_JoinPlates.f (k : Nat) (l0 : List (S30)) (l1 : List (S30)) : Option ((List (S30)) × Bool) := (impl_ArePlates.f k l0).bind fun t1 => (if t1 = true then ((impl_ArePlates.f k l1).bind fun t2 => (if t2 = true then (if 0 < l0.length ∧ l0.length ≤ 1000000 ∧ l1.length ≤ 1000000 then ((impl_checkedPlates.f k (l0 ++ l1)).bind fun bt => (some (bt.1, bt.2))) else (none)) else (some (([] : List (S30)), false)))) else (some (([] : List (S30)), false)))
theorem impl_JoinPlates.mono : ∀ a0 a1 k, LeO (impl_JoinPlates.f k a0 a1) (impl_JoinPlates.f (k + 1) a0 a1) := by
  intro a0 a1 k
  unfold impl_JoinPlates.f
  repeat' first
      | (with_reducible exact impl_ArePlates.mono _ _)
      | (with_reducible exact impl_checkedPlates.mono _ _)
      | (with_reducible exact LeO.refl _)
      | (with_reducible exact LeO.none _)
      | (with_reducible refine LeO.ite ?_ ?_)
      | (with_reducible refine LeO.bind ?_ (fun _ => ?_))
      | exact impl_ArePlates.mono _ _
      | exact LeO.none _
      | refine LeO.ite ?_ ?_
      | refine LeO.bind ?_ (fun _ => ?_)
set_option maxHeartbeats 2000000 in
set_option maxRecDepth 100000 in
theorem impl_JoinPlates.grow (n : Int) (W : World) (h0 : 0 < n) (h1 : n ≤ 4000000) :
    Calls Try.prog 40 #[.slice none 0 0, .int .i64 n] W fun e w' => ∃ v0_ : Value, e = .returned (v0_) ∧ Kd.R k30 30 w' W.heap.size (fun _ => True) v0_ ([] : List (S30)) ∧ Below W.heap.size W w' := by
  obtain ⟨i0, hi0, _, _, _⟩ := info_parts info30
  have c1 : decide (n < 0) = false := decide_eq_false (by omega)
  have c2 : decide (0 < n) = true := decide_eq_true (by omega)
  have hcut := cut_to (P := Try.prog) 26 30 .i64 Try.underlying26 hi0 none 0 0 0 (by omega) (by omega) (by omega)
  rw [show (0 : Int).toNat = 0 from rfl] at hcut
  go_enter Try.func40, Try.ntmps40
  go_wp2_with (first | ((with_reducible refine gate_builtin (b := .append) (xs := #[.tmp 20, .tmp 21]) rfl ?_); at_builtin; refine Kd.R_append_zeros k30 (w0 := W) W.heap.size rfl (.tmp 20) (.tmp 21) 26 3 30 (.agg #[(.int .i64 0), (.int .i64 0)]) 16 rfl Try.underlying26 Try.underlying3 info30 rfl (by decide) (by decide) (.slice none 0 0) [] z30 n (fun _ => True) rfl rfl ?z0 (fun _ _ => trivial) (Kd.R_nil _ _ _ _ _) (by omega) (Below.refl _ _) (Nat.le_refl _) ?l0 ?_; (case z0 => exact k30_mkM _ _ _ z30); (case l0 => simp only [List.length_nil]; omega); intro v1 w1 hR hB hg hat; clear hg hat; obtain ⟨A1, c1_, hv1⟩ := Kd.R_slice hR; subst hv1; have hrd := Kd.R_reads' hR; have hcut1 := cut_to (P := Try.prog) 26 30 .i64 Try.underlying26 hi0 A1 _ c1_ 0 (by omega) (by omega) hrd.2.1; rw [show (0 : Int).toNat = 0 from rfl] at hcut1; have HT := Aside0.mk (Kd.R_take hR (Nat.zero_le _)); have HB := Aside0.mk hB; clear hrd hR hB))
  go_ret
  exact ⟨_, rfl, HT.out, HB.out⟩
def impl_JoinPlates.At1 (n0 n1 : Nat) (sz i : Value) : Prop := (i = .int .i64 0 ∧ sz = .int .i64 0) ∨ (i = .int .i64 1 ∧ sz = .int .i64 n0) ∨ (i = .int .i64 2 ∧ sz = .int .i64 ((n0 : Int) + n1))
def impl_JoinPlates.At2 (w0 : World) (l0 l1 : List (S30)) (v i : Value) (w : World) : Prop := Below w0.heap.size w0 w ∧ ((i = .int .i64 0 ∧ Kd.R k30 30 w w0.heap.size (fun _ => True) v ([] : List (S30))) ∨ (i = .int .i64 1 ∧ Kd.R k30 30 w w0.heap.size (fun _ => True) v l0) ∨ (i = .int .i64 2 ∧ Kd.R k30 30 w w0.heap.size (fun _ => True) v (l0 ++ l1)))
set_option maxHeartbeats 4000000 in
set_option maxRecDepth 100000 in
theorem impl_JoinPlates.concat (g : Nat) (A0 : Option Addr) (c0 : Nat) (l0 : List (S30)) (A1 : Option Addr) (c1 : Nat) (l1 : List (S30)) (W : World) (hr0 : Kd.C k30 W A0 l0.length l0) (hr1 : Kd.C k30 W A1 l1.length l1)
    (hc0 : W.cell? ⟨g, 0, none⟩ = some (.slice A0 l0.length c0)) (hc1 : W.cell? ⟨g, 1, none⟩ = some (.slice A1 l1.length c1)) (hp : 0 < l0.length) (hb0 : l0.length ≤ 1000000) (hb1 : l1.length ≤ 1000000) :
    Calls Try.prog 31 #[.slice (some ⟨g, 0, none⟩) 2 2] W fun e w' => ∃ v0_ : Value, e = .returned (v0_) ∧ Kd.R k30 30 w' W.heap.size (fun _ => True) v0_ (l0 ++ l1) ∧ Below W.heap.size W w' := by
  obtain ⟨n0, hn0⟩ : ∃ n0, l0.length = n0 := ⟨_, rfl⟩
  obtain ⟨n1, hn1⟩ : ∃ n1, l1.length = n1 := ⟨_, rfl⟩
  rw [hn0] at hr0 hc0 hp hb0
  rw [hn1] at hr1 hc1 hb1
  have HN0 := Aside0.mk hn0
  have HN1 := Aside0.mk hn1
  have HR0 := Aside0.mk hr0
  have HR1 := Aside0.mk hr1
  have HC0 := Aside0.mk hc0
  have HC1 := Aside0.mk hc1
  clear hn0 hn1 hr0 hr1
  have s0 : decide ((n0 : Int) < 0) = false := decide_eq_false (by omega)
  have s1 : decide ((n0 : Int) + (n1 : Int) < 0) = false := decide_eq_false (by omega)
  have t0 : (0 : Int) + (n0 : Int) = (n0 : Int) := by omega
  go_enter Try.func31, Try.ntmps31
  go_wp2
  go_loop [3, 11] (fun sz i => impl_JoinPlates.At1 n0 n1 sz i) (fun _ i => 2 - (intOf i).toNat)
  case atStart => exact .inl ⟨rfl, rfl⟩
  case round =>
    rcases hrel with ⟨rfl, rfl⟩ | ⟨rfl, rfl⟩ | ⟨rfl, rfl⟩
    · go_wp2
      go_round
      case rel => exact .inr (.inl ⟨rfl, rfl⟩)
      case measure => simp [intOf]
    · go_wp2
      go_round
      case rel => exact .inr (.inr ⟨rfl, rfl⟩)
      case measure => simp [intOf]
    · clear hc0 hc1
      go_wp2_with (go_at_call 40; refine (impl_JoinPlates.grow _ _ (by omega) (by omega)).mono ?_; rintro e w1 ⟨v1, rfl, hv1, hb1⟩; have HV1 := Aside0.mk hv1; have HB1 := Aside0.mk hb1; clear hv1 hb1)
      go_loopw [6, 27] (fun v i wr => impl_JoinPlates.At2 W l0 l1 v i wr) (fun _ i _ => 2 - (intOf i).toNat)
      case atStart => exact ⟨HB1.out, .inl ⟨rfl, HV1.out⟩⟩
      case round =>
        obtain ⟨hB, hrel⟩ := hrel
        have hc0 : wr.cell? ⟨g, 0, none⟩ = some (.slice A0 n0 c0) := pw_cell_below hB HC0.out
        have hc1 : wr.cell? ⟨g, 1, none⟩ = some (.slice A1 n1 c1) := pw_cell_below hB HC1.out
        have hlt := hB.size
        rcases hrel with ⟨rfl, hv⟩ | ⟨rfl, hv⟩ | ⟨rfl, hv⟩
        · have HV := Aside0.mk hv
          have HB := Aside0.mk hB
          clear hv hB
          go_wp2_with (first | ((with_reducible refine gate_builtin (b := .append) (xs := #[.tmp 31, .tmp 32]) rfl ?_); at_builtin; refine Kd.R_append_rows k30 (w0 := W) W.heap.size rfl (.tmp 31) (.tmp 32) 26 30 (.agg #[(.int .i64 0), (.int .i64 0)]) 16 rfl Try.underlying26 info30 rfl (by decide) (by decide) _ [] l0 A0 n0 c0 (fun _ => True) (fun _ => False) rfl rfl HV.out (Kd.C_below HR0.out HB.out) (fun _ _ h => h) (fun _ h => h.elim) (fun _ _ => trivial) HB.out hlt ?l0 ?_; (case l0 => simp only [List.length_nil]; omega); intro v2 w2 hR2 hB2 hg2 hat2; clear hg2 hat2; have HV2 := Aside0.mk hR2; have HB2 := Aside0.mk hB2; clear hR2 hB2))
          go_roundw
          case rel => exact ⟨HB2.out, .inr (.inl ⟨rfl, HV2.out⟩)⟩
          case measure => simp [intOf]
        · have HV := Aside0.mk hv
          have HB := Aside0.mk hB
          clear hv hB
          go_wp2_with (first | ((with_reducible refine gate_builtin (b := .append) (xs := #[.tmp 31, .tmp 32]) rfl ?_); at_builtin; refine Kd.R_append_rows k30 (w0 := W) W.heap.size rfl (.tmp 31) (.tmp 32) 26 30 (.agg #[(.int .i64 0), (.int .i64 0)]) 16 rfl Try.underlying26 info30 rfl (by decide) (by decide) _ l0 l1 A1 n1 c1 (fun _ => True) (fun _ => False) rfl rfl HV.out (Kd.C_below HR1.out HB.out) (fun _ _ h => h) (fun _ h => h.elim) (fun _ _ => trivial) HB.out hlt ?l0 ?_; (case l0 => rw [HN0.out]; omega); intro v2 w2 hR2 hB2 hg2 hat2; clear hg2 hat2; have HV2 := Aside0.mk hR2; have HB2 := Aside0.mk hB2; clear hR2 hB2))
          go_roundw
          case rel => exact ⟨HB2.out, .inr (.inr ⟨rfl, HV2.out⟩)⟩
          case measure => simp [intOf]
        · have HV := Aside0.mk hv
          have HB := Aside0.mk hB
          clear hv hB hc0 hc1
          go_wp2
          go_ret
          exact ⟨_, rfl, HV.out, HB.out⟩
set_option maxHeartbeats 4000000 in
set_option maxRecDepth 100000 in
theorem impl_JoinPlates.calls (k : Nat) (A0 : Option Addr) (c0 : Nat) (l0 : List (S30)) (A1 : Option Addr) (c1 : Nat) (l1 : List (S30)) (r1 : List (S30)) (r2 : Bool) (w : World) (hr0 : Kd.C k30 w A0 l0.length l0) (hc0 : l0.length ≤ c0) (hr1 : Kd.C k30 w A1 l1.length l1) (hc1 : l1.length ≤ c1) (h : impl_JoinPlates.f k l0 l1 = some (r1, r2)) :
    Calls Try.prog 17 #[.slice A0 l0.length c0, .slice A1 l1.length c1] w fun e w' => ∃ v0_ : Value, e = .returned (.tuple #[v0_, .bool r2]) ∧ Kd.R k30 30 w' w.heap.size (fun _ => True) v0_ r1 ∧ Below w.heap.size w w' := by
  have HR0 := Aside0.mk hr0
  have HR1 := Aside0.mk hr1
  have HC0 := Aside0.mk hc0
  have HC1 := Aside0.mk hc1
  clear hr0 hr1 hc0 hc1
  unfold impl_JoinPlates.f at h
  replace h := Option.bind_eq_some_iff.mp h
  obtain ⟨t1, a1, h⟩ := h
  have A1_ := Aside0.mk a1
  clear a1
  cases t1 with
  | false =>
    rw [if_neg (by decide)] at h
    simp only [Option.some.injEq, Prod.mk.injEq] at h
    obtain ⟨rfl, rfl⟩ := h
    go_enter Try.func17, Try.ntmps17
    go_wp2_with (go_at_call 21; refine (impl_ArePlates.calls k _ _ l0 false _ HR0.out HC0.out A1_.out).mono ?_; rintro e w1 ⟨rfl, hb1⟩; have HB1 := Aside0.mk hb1; clear hb1)
    go_ret2
    exact ⟨_, rfl, Kd.R_nil _ _ _ _ _, HB1.out⟩
  | true =>
    rw [if_pos rfl] at h
    replace h := Option.bind_eq_some_iff.mp h
    obtain ⟨t2, a2, h⟩ := h
    have A2_ := Aside0.mk a2
    clear a2
    cases t2 with
    | false =>
      rw [if_neg (by decide)] at h
      simp only [Option.some.injEq, Prod.mk.injEq] at h
      obtain ⟨rfl, rfl⟩ := h
      go_enter Try.func17, Try.ntmps17
      go_wp2_with (go_at_call 21; first | ((with_reducible refine (impl_ArePlates.calls k A0 c0 l0 true _ HR0.out HC0.out A1_.out).mono ?_); rintro e w1 ⟨rfl, hb1⟩; have HB1 := Aside0.mk hb1; clear hb1) | ((with_reducible refine (impl_ArePlates.calls k A1 c1 l1 false _ (Kd.C_below HR1.out HB1.out) HC1.out A2_.out).mono ?_); rintro e w2 ⟨rfl, hb2⟩; have HB2 := Aside0.mk (below_step HB1.out hb2); clear hb2))
      go_ret2
      exact ⟨_, rfl, Kd.R_nil _ _ _ _ _, HB2.out⟩
    | true =>
      rw [if_pos rfl] at h
      by_cases hb : 0 < l0.length ∧ l0.length ≤ 1000000 ∧ l1.length ≤ 1000000
      · rw [if_pos hb] at h
        replace h := Option.bind_eq_some_iff.mp h
        obtain ⟨⟨q1, q2⟩, a3, h⟩ := h
        have A3_ := Aside0.mk a3
        clear a3
        simp only [Option.some.injEq, Prod.mk.injEq] at h
        obtain ⟨rfl, rfl⟩ := h
        have HBD := Aside0.mk hb
        clear hb
        go_enter Try.func17, Try.ntmps17
        go_wp2_with (first | (go_at_call 21; first | ((with_reducible refine (impl_ArePlates.calls k A0 c0 l0 true _ HR0.out HC0.out A1_.out).mono ?_); rintro e w1 ⟨rfl, hb1⟩; have HB1 := Aside0.mk hb1; clear hb1) | ((with_reducible refine (impl_ArePlates.calls k A1 c1 l1 true _ (Kd.C_below HR1.out HB1.out) HC1.out A2_.out).mono ?_); rintro e w2 ⟨rfl, hb2⟩; have HB2 := Aside0.mk (below_step HB1.out hb2); clear hb2)) | (go_at_call 31; refine (impl_JoinPlates.concat _ A0 c0 l0 A1 c1 l1 _ (Kd.C_alloc (Kd.C_below HR0.out HB2.out) _) (Kd.C_alloc (Kd.C_below HR1.out HB2.out) _) (by simp) (by simp) HBD.out.1 HBD.out.2.1 HBD.out.2.2).mono ?_; rintro e w3 ⟨v3, rfl, hv3, hb3⟩; have HV3 := Aside0.mk hv3; have HB3 := Aside0.mk (below_step (below_alloc HB2.out _) hb3); clear hv3 hb3) | (go_at_call 30; refine (impl_checkedPlates.calls k (fun _ => True) v3 (l0 ++ l1) q1 q2 w _ HB3.out (Kd.R_lower HV3.out (below_size (below_alloc HB2.out _))) A3_.out).mono ?_; rintro e w4 ⟨v4, rfl, hv4, hb4, _⟩; have HV4 := Aside0.mk hv4; have HB4 := Aside0.mk hb4; clear hv4 hb4))
        go_ret2
        exact ⟨_, rfl, Kd.R_mono HV4.out (fun _ _ => trivial), HB4.out⟩
      · rw [if_neg hb] at h
        cases h

end Go.Proofs.Ytflifmlgpndjjaa.PFnExactJoinPlates
