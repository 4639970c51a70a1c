/- Functions that the law FnPlatesInserted reaches, each as a Lean function, and that the Go code comes to just these answers (written by programs). -/
import Derived.Test.YtbnhfipcjbnknaaPFnPlatesInsertedx0
import Derived.Test.YtbnhfipcjbnknaaPFnPlatesInsertedx2
import Derived.Test.YtbnhfipcjbnknaaPFnPlatesInsertedx4
import Derived.Test.YtbnhfipcjbnknaaPFnPlatesInsertedx8
import Derived.Test.YtbnhfipcjbnknaaPFnPlatesInsertedx9
import Derived.Test.YtbnhfipcjbnknaaPFnPlatesInsertedx10
import Derived.Test.YtbnhfipcjbnknaaPFnPlatesInsertedx14
import Derived.Test.YtbnhfipcjbnknaaPFnPlatesInsertedx15
namespace Go.Proofs.Ytbnhfipcjbnknaa.PFnPlatesInserted
open Go.RowKit Go.Proofs.YtbnhfipcjbnknaaW.PrintWords Go.Proofs.YtbnhfipcjbnknaaW.PrintLast Go.Proofs.YtbnhfipcjbnknaaW.PrintMore
attribute [local go_sem] max2_int min2_int max_two min_two max_three min_three max_four min_four   -- for this text's walks alone
set_option linter.unusedVariables false
set_option linter.unusedSimpArgs false

abbrev M16_0 : Array Bool := #[false, false, false, false, false, false, false, false, false, false, false, false]
abbrev M16_1 : Array Bool := #[false, true, false, false, false, false, false, false, false, false, false, false]
abbrev M16_2 : Array Bool := #[false, true, true, false, false, false, false, false, false, false, false, false]
abbrev M16_3 : Array Bool := #[false, true, true, true, false, false, false, false, false, false, false, false]
abbrev M16_4 : Array Bool := #[false, true, true, true, false, true, false, false, false, false, false, false]
abbrev M16_5 : Array Bool := #[false, true, true, true, false, true, true, false, false, false, false, false]
abbrev M16_6 : Array Bool := #[false, true, true, true, false, true, true, true, false, false, false, false]
abbrev M16_7 : Array Bool := #[false, true, true, true, false, true, true, true, true, false, false, false]
abbrev M16_8 : Array Bool := #[true, true, true, true, false, true, true, true, true, false, false, false]
abbrev M16_9 : Array Bool := #[true, true, true, true, true, true, true, true, true, false, false, false]
abbrev M16_10 : Array Bool := #[true, true, true, true, true, true, true, true, true, true, false, false]
abbrev M16_11 : Array Bool := #[true, true, true, true, true, true, true, true, true, true, true, false]
abbrev M16_12 : Array Bool := #[true, true, true, true, true, true, true, true, true, true, true, true]
/-! ### impl_InsertBehind: function 18 -/
def impl_InsertBehind.f (k : Nat) (l0 : List (S26)) (a1 : Int) : Option ((List (S26)) × Bool) := (impl_hasPlate.f k l0 a1).bind fun t465 => (if t465 = true then (if 0 ≤ a1 then (if a1 < (l0.length : Int) then ((impl_NextPlate.f k ((rd_T26 l0 a1).f0) ((rd_T26 l0 a1).f1)).bind fun bt467 => (if bt467.2.2 = true then ((impl_addedPlate.f k l0 bt467.1 bt467.2.1).bind fun bt471 => (some (bt471.1, bt471.2))) else (some (([] : List (S26)), false)))) else (none)) else (none)) else (some (([] : List (S26)), false)))
set_option maxHeartbeats 8000000 in
set_option maxRecDepth 100000 in
theorem impl_InsertBehind.calls (k : Nat) (A0 : Option Addr) (c0 : Nat) (l0 : List (S26)) (a1 : Int) (r1 : List (S26)) (r2 : Bool) (w : World) (hr0 : Kd.C k26 w A0 l0.length l0) (hc0 : l0.length ≤ c0) (h : impl_InsertBehind.f k l0 a1 = some (r1, r2)) :
  Calls Try.prog 18 #[.slice A0 l0.length c0, .int .i64 a1] w fun e w' => ∃ v0_ : Value, e = .returned (.tuple #[v0_, .bool r2]) ∧ Kd.R k26 26 w' w.heap.size (fun _ => True) v0_ r1 ∧ Below w.heap.size w w' := by
 have hu26 := Try.underlying26
 have HR0 := Aside0.mk hr0
 have HC0 := Aside0.mk hc0
 clear hr0 hc0
 have HB := Aside0.mk (Below.refl w.heap.size w)
 have H : ((impl_hasPlate.f k l0 a1).bind fun t465 => (if t465 = true then (if 0 ≤ a1 then (if a1 < (l0.length : Int) then ((impl_NextPlate.f k ((rd_T26 l0 a1).f0) ((rd_T26 l0 a1).f1)).bind fun bt467 => (if bt467.2.2 = true then ((impl_addedPlate.f k l0 bt467.1 bt467.2.1).bind fun bt471 => (some (bt471.1, bt471.2))) else (some (([] : List (S26)), false)))) else (none)) else (none)) else (some (([] : List (S26)), false)))) = some (r1, r2) := h
 clear h
 replace H := Option.bind_eq_some_iff.mp H
 obtain ⟨t465, A30, H⟩ := H
 replace H : (if t465 = true then (if 0 ≤ a1 then (if a1 < (l0.length : Int) then ((impl_NextPlate.f k ((rd_T26 l0 a1).f0) ((rd_T26 l0 a1).f1)).bind fun bt467 => (if bt467.2.2 = true then ((impl_addedPlate.f k l0 bt467.1 bt467.2.1).bind fun bt471 => (some (bt471.1, bt471.2))) else (some (([] : List (S26)), false)))) else (none)) else (none)) else (some (([] : List (S26)), false))) = some (r1, r2) := H
 have A3 := Aside0.mk A30
 clear A30
 by_cases c4 : t465 = true
 ·subst c4
  rw [if_pos rfl] at H
  by_cases c5 : 0 ≤ a1
  ·rw [if_pos c5] at H
   have c5b0 : decide (0 ≤ a1) = true := decide_eq_true c5
   clear c5
   by_cases c6 : a1 < (l0.length : Int)
   ·rw [if_pos c6] at H
    have c6b0 : decide (a1 < (l0.length : Int)) = true := decide_eq_true c6
    clear c6
    replace H := Option.bind_eq_some_iff.mp H
    obtain ⟨⟨t467, t468, t469⟩, A70, H⟩ := H
    replace H : (if t469 = true then ((impl_addedPlate.f k l0 t467 t468).bind fun bt471 => (some (bt471.1, bt471.2))) else (some (([] : List (S26)), false))) = some (r1, r2) := H
    have A7 := Aside0.mk A70
    clear A70
    by_cases c8 : t469 = true
    ·subst c8
     rw [if_pos rfl] at H
     replace H := Option.bind_eq_some_iff.mp H
     obtain ⟨⟨t471, t474⟩, A90, H⟩ := H
     replace H : (some (t471, t474)) = some (r1, r2) := H
     have A9 := Aside0.mk A90
     clear A90
     simp only [Option.some.injEq, Prod.mk.injEq] at H
     obtain ⟨rfl, rfl⟩ := H
     go_enter Try.func18, Try.ntmps18
     go_wp2_with (first | ((with_reducible refine gate_callee (f := 42) rfl ?_); refine goesL_ (some 10) rfl rfl Try.func42 (by kernel_rfl) rfl #[.slice A0 l0.length c0, .int .i64 a1] rfl (by (try simp only [List.map_toArray, List.map_cons, List.map_nil]); first | done | rfl | (simp only [List.length_drop, List.length_take]; rfl)) ?_; (with_reducible refine (impl_hasPlate.calls k _ _ l0 a1 true _ ?side1 ?side2 A3.out).mono ?_); (case side1 => repeat (first | exact HR0.out | (with_reducible refine Kd.C_alloc ?_ _) | (with_reducible refine Kd.C_drewN ?_ _) | (with_reducible refine Kd.C_drew ?_))); (case side2 => exact HC0.out); rintro e w10 ⟨rfl, hb⟩; refine ⟨_, rfl, ?_⟩; replace HB := Aside0.mk (below_step (by repeat first | exact HB.out | apply below_alloc | apply pw_below_drewN | apply below_drew1) hb); have p466 : 0 ≤ (a1 : Int) := of_decide_eq_true (by first | (with_reducible assumption) | assumption); have q466 : a1 < (l0.length : Int) := of_decide_eq_true (by first | (with_reducible assumption) | assumption); obtain ⟨ad466, e466, hx466_0, hx466_1⟩ := at_T26 HR0.out a1 p466 q466; cases e466; replace hx466_0 := (HB.out.cell (World.block_lt_of_cell? w _ hx466_0)).trans hx466_0; replace hx466_1 := (HB.out.cell (World.block_lt_of_cell? w _ hx466_1)).trans hx466_1; replace p466 := eq_true p466; replace q466 := eq_true q466) | ((with_reducible refine gate_callee (f := 30) rfl ?_); refine goesL_ (some 17) rfl rfl Try.func30 (by kernel_rfl) rfl #[.agg #[.int .i64 ((rd_T26 l0 a1).f0), .int .i64 ((rd_T26 l0 a1).f1)]] rfl (by (try simp only [List.map_toArray, List.map_cons, List.map_nil]); first | done | rfl | (simp only [List.length_drop, List.length_take]; rfl)) ?_; (with_reducible refine (impl_NextPlate.calls k ((rd_T26 l0 a1).f0) ((rd_T26 l0 a1).f1) t467 t468 true _ A7.out).mono ?_); rintro e w11 ⟨rfl, hb⟩; refine ⟨_, rfl, ?_⟩; replace HB := Aside0.mk (below_step (by repeat first | exact HB.out | apply below_alloc | apply pw_below_drewN | apply below_drew1) hb)) | ((with_reducible refine gate_dst (N := 6) rfl ?_); refine box_event ?hg (N := 6) ?hd (cs := #[.int .i64 0, .int .i64 0]) (t := 26) ?hr ?_; (case hd => rfl); (case hg => rfl); (case hr => first | (go_simp; done) | (go_simp; rfl)); intro gb470 hg w12 hbox hb; have BK470 := Aside0.mk (hbox); have GW470 := Aside0.mk ((by rw [hg]; exact (below_size (by repeat first | exact HB.out | apply below_alloc | apply pw_below_drewN | apply below_drew1)) : w.heap.size ≤ gb470)); have GE470 := Aside0.mk ((by rw [hg]; exact (below_size (by repeat first | exact HB.out | apply below_alloc | apply pw_below_drewN | apply below_drew1)) : w.heap.size ≤ gb470)); replace HB := Aside0.mk (below_step (by repeat first | exact HB.out | apply below_alloc | apply pw_below_drewN | apply below_drew1) hb); clear hb hbox hg; have hcz13_0 : w12.cell? ⟨gb470, 0, none⟩ = some (.int .i64 0) := (blk_cell BK470.out 0).trans rfl; have hcz13_1 : w12.cell? ⟨gb470, 1, none⟩ = some (.int .i64 0) := (blk_cell BK470.out 1).trans rfl; have hfz13_0 := blk_frozen BK470.out 0; have hfz13_1 := blk_frozen BK470.out 1) | ((with_reducible refine gate_callee (f := 33) rfl ?_); refine goesL_ (some 24) rfl rfl Try.func33 (by kernel_rfl) rfl #[.slice (some ad466) l0.length c0, .agg #[.int .i64 t467, .int .i64 t468]] rfl (by (try simp only [List.map_toArray, List.map_cons, List.map_nil]); first | done | rfl | (simp only [List.length_drop, List.length_take]; rfl)) ?_; (with_reducible refine (impl_addedPlate.calls k _ _ l0 t467 t468 t471 t474 _ ?side1 ?side2 A9.out).mono ?_); (case side1 => exact Kd.C_below HR0.out (by repeat first | exact HB.out | apply below_alloc | apply pw_below_drewN | apply below_drew1 | refine below_set ?_ GE470.out)); (case side2 => exact HC0.out); rintro e w14 ⟨v472, rfl, ho0, hb⟩; refine ⟨_, rfl, ?_⟩; have HO473 := Aside0.mk (Kd.R_lower (Kd.R_newB ho0 (g := gb470) (o := .cells #[.int .i64 t467, .int .i64 t468] 26 (0, 0)) (by (with_reducible repeat (first | refine blk_drewN ?_ _ | refine blk_drew ?_ | refine blk_alloc ?_ _)); refine blk_put (cs := #[.int .i64 t467, .int .i64 0]) ?_ 1 _ rfl; (with_reducible repeat (first | refine blk_drewN ?_ _ | refine blk_drew ?_ | refine blk_alloc ?_ _)); refine blk_put (cs := #[.int .i64 0, .int .i64 0]) ?_ 0 _ rfl; (with_reducible repeat (first | refine blk_drewN ?_ _ | refine blk_drew ?_ | refine blk_alloc ?_ _)); exact BK470.out)) (below_size (by repeat first | exact HB.out | apply below_alloc | apply pw_below_drewN | apply below_drew1 | refine below_set ?_ GE470.out))); replace BK470 := Aside0.mk (blk_below (g := gb470) (o := .cells #[.int .i64 t467, .int .i64 t468] 26 (0, 0)) (by (with_reducible repeat (first | refine blk_drewN ?_ _ | refine blk_drew ?_ | refine blk_alloc ?_ _)); refine blk_put (cs := #[.int .i64 t467, .int .i64 0]) ?_ 1 _ rfl; (with_reducible repeat (first | refine blk_drewN ?_ _ | refine blk_drew ?_ | refine blk_alloc ?_ _)); refine blk_put (cs := #[.int .i64 0, .int .i64 0]) ?_ 0 _ rfl; (with_reducible repeat (first | refine blk_drewN ?_ _ | refine blk_drew ?_ | refine blk_alloc ?_ _)); exact BK470.out) hb); replace HB := Aside0.mk (below_step (by repeat first | exact HB.out | apply below_alloc | apply pw_below_drewN | apply below_drew1 | refine below_set ?_ GE470.out) hb); (try clear ho0)))
     go_ret2
     exact ⟨_, by first | rfl | (simp [errW_none, errW_some] <;> rfl) | (simp [*, errW_none, errW_some] <;> rfl), by (with_reducible repeat (first | apply Kd.R_alloc | apply Kd.R_drewN | apply Kd.R_drew)); exact Kd.R_mono HO473.out (fun _ hk => trivial), by repeat first | exact HB.out | apply below_alloc | apply pw_below_drewN | apply below_drew1 | refine below_set ?_ GE470.out⟩
    ·replace c8 := Bool.eq_false_iff.mpr c8
     subst c8
     rw [if_neg (show ¬ (false = true) by decide)] at H
     simp only [Option.some.injEq, Prod.mk.injEq] at H
     obtain ⟨rfl, rfl⟩ := H
     go_enter Try.func18, Try.ntmps18
     go_wp2_with (first | ((with_reducible refine gate_callee (f := 42) rfl ?_); refine goesL_ (some 10) rfl rfl Try.func42 (by kernel_rfl) rfl #[.slice A0 l0.length c0, .int .i64 a1] rfl (by (try simp only [List.map_toArray, List.map_cons, List.map_nil]); first | done | rfl | (simp only [List.length_drop, List.length_take]; rfl)) ?_; (with_reducible refine (impl_hasPlate.calls k _ _ l0 a1 true _ ?side1 ?side2 A3.out).mono ?_); (case side1 => repeat (first | exact HR0.out | (with_reducible refine Kd.C_alloc ?_ _) | (with_reducible refine Kd.C_drewN ?_ _) | (with_reducible refine Kd.C_drew ?_))); (case side2 => exact HC0.out); rintro e w15 ⟨rfl, hb⟩; refine ⟨_, rfl, ?_⟩; replace HB := Aside0.mk (below_step (by repeat first | exact HB.out | apply below_alloc | apply pw_below_drewN | apply below_drew1) hb); have p466 : 0 ≤ (a1 : Int) := of_decide_eq_true (by first | (with_reducible assumption) | assumption); have q466 : a1 < (l0.length : Int) := of_decide_eq_true (by first | (with_reducible assumption) | assumption); obtain ⟨ad466, e466, hx466_0, hx466_1⟩ := at_T26 HR0.out a1 p466 q466; cases e466; replace hx466_0 := (HB.out.cell (World.block_lt_of_cell? w _ hx466_0)).trans hx466_0; replace hx466_1 := (HB.out.cell (World.block_lt_of_cell? w _ hx466_1)).trans hx466_1; replace p466 := eq_true p466; replace q466 := eq_true q466) | ((with_reducible refine gate_callee (f := 30) rfl ?_); refine goesL_ (some 17) rfl rfl Try.func30 (by kernel_rfl) rfl #[.agg #[.int .i64 ((rd_T26 l0 a1).f0), .int .i64 ((rd_T26 l0 a1).f1)]] rfl (by (try simp only [List.map_toArray, List.map_cons, List.map_nil]); first | done | rfl | (simp only [List.length_drop, List.length_take]; rfl)) ?_; (with_reducible refine (impl_NextPlate.calls k ((rd_T26 l0 a1).f0) ((rd_T26 l0 a1).f1) t467 t468 false _ A7.out).mono ?_); rintro e w16 ⟨rfl, hb⟩; refine ⟨_, rfl, ?_⟩; replace HB := Aside0.mk (below_step (by repeat first | exact HB.out | apply below_alloc | apply pw_below_drewN | apply below_drew1) hb)) | ((with_reducible refine gate_dst (N := 6) rfl ?_); refine box_event ?hg (N := 6) ?hd (cs := #[.int .i64 0, .int .i64 0]) (t := 26) ?hr ?_; (case hd => rfl); (case hg => rfl); (case hr => first | (go_simp; done) | (go_simp; rfl)); intro gb470 hg w17 hbox hb; have BK470 := Aside0.mk (hbox); have GW470 := Aside0.mk ((by rw [hg]; exact (below_size (by repeat first | exact HB.out | apply below_alloc | apply pw_below_drewN | apply below_drew1)) : w.heap.size ≤ gb470)); have GE470 := Aside0.mk ((by rw [hg]; exact (below_size (by repeat first | exact HB.out | apply below_alloc | apply pw_below_drewN | apply below_drew1)) : w.heap.size ≤ gb470)); replace HB := Aside0.mk (below_step (by repeat first | exact HB.out | apply below_alloc | apply pw_below_drewN | apply below_drew1) hb); clear hb hbox hg; have hcz18_0 : w17.cell? ⟨gb470, 0, none⟩ = some (.int .i64 0) := (blk_cell BK470.out 0).trans rfl; have hcz18_1 : w17.cell? ⟨gb470, 1, none⟩ = some (.int .i64 0) := (blk_cell BK470.out 1).trans rfl; have hfz18_0 := blk_frozen BK470.out 0; have hfz18_1 := blk_frozen BK470.out 1))
     go_ret2
     exact ⟨_, by first | rfl | (simp [errW_none, errW_some] <;> rfl) | (simp [*, errW_none, errW_some] <;> rfl), by first | exact Kd.R_nil _ _ _ _ _ | exact Kd.N_nil _ _ _ _ _ | exact Kd.V_nil _ _ _ _ _ | exact Kd.Q_nil _ _ _ _ _ | exact Kd.S_nil _ _ _ _ _, by repeat first | exact HB.out | apply below_alloc | apply pw_below_drewN | apply below_drew1 | refine below_set ?_ GE470.out⟩
   ·rw [if_neg c6] at H
    exact absurd H (by simp)
  ·rw [if_neg c5] at H
   exact absurd H (by simp)
 ·replace c4 := Bool.eq_false_iff.mpr c4
  subst c4
  rw [if_neg (show ¬ (false = true) by decide)] at H
  simp only [Option.some.injEq, Prod.mk.injEq] at H
  obtain ⟨rfl, rfl⟩ := H
  go_enter Try.func18, Try.ntmps18
  go_wp2_with (first | ((with_reducible refine gate_callee (f := 42) rfl ?_); refine goesL_ (some 10) rfl rfl Try.func42 (by kernel_rfl) rfl #[.slice A0 l0.length c0, .int .i64 a1] rfl (by (try simp only [List.map_toArray, List.map_cons, List.map_nil]); first | done | rfl | (simp only [List.length_drop, List.length_take]; rfl)) ?_; (with_reducible refine (impl_hasPlate.calls k _ _ l0 a1 false _ ?side1 ?side2 A3.out).mono ?_); (case side1 => repeat (first | exact HR0.out | (with_reducible refine Kd.C_alloc ?_ _) | (with_reducible refine Kd.C_drewN ?_ _) | (with_reducible refine Kd.C_drew ?_))); (case side2 => exact HC0.out); rintro e w19 ⟨rfl, hb⟩; refine ⟨_, rfl, ?_⟩; replace HB := Aside0.mk (below_step (by repeat first | exact HB.out | apply below_alloc | apply pw_below_drewN | apply below_drew1) hb)))
  go_ret2
  exact ⟨_, by first | rfl | (simp [errW_none, errW_some] <;> rfl) | (simp [*, errW_none, errW_some] <;> rfl), by first | exact Kd.R_nil _ _ _ _ _ | exact Kd.N_nil _ _ _ _ _ | exact Kd.V_nil _ _ _ _ _ | exact Kd.Q_nil _ _ _ _ _ | exact Kd.S_nil _ _ _ _ _, by repeat first | exact HB.out | apply below_alloc | apply pw_below_drewN | apply below_drew1⟩

/-! ### spec_isAsked: function 51 -/
def spec_isAsked.f (k : Nat) (l0 : List (S26)) (a1 : Int) : Option (Bool) := (spec_isGood.f k l0).bind fun t475 => (if t475 = true then ((spec_l1In.f a1 0 (wrap64 ((l0.length : Int) - 1))).bind fun t476 => (some t476)) else (some false))
set_option maxHeartbeats 8000000 in
set_option maxRecDepth 100000 in
theorem spec_isAsked.calls (k : Nat) (A0 : Option Addr) (c0 : Nat) (l0 : List (S26)) (a1 : Int) (r : Bool) (w : World) (hr0 : Kd.C k26 w A0 l0.length l0) (hc0 : l0.length ≤ c0) (h : spec_isAsked.f k l0 a1 = some r) :
  Calls Try.prog 51 #[.slice A0 l0.length c0, .int .i64 a1] w fun e w' => e = .returned (.bool r) ∧ Below w.heap.size w w' := by
 have HR0 := Aside0.mk hr0
 have HC0 := Aside0.mk hc0
 clear hr0 hc0
 have HB := Aside0.mk (Below.refl w.heap.size w)
 have H : ((spec_isGood.f k l0).bind fun t475 => (if t475 = true then ((spec_l1In.f a1 0 (wrap64 ((l0.length : Int) - 1))).bind fun t476 => (some t476)) else (some false))) = some r := h
 clear h
 replace H := Option.bind_eq_some_iff.mp H
 obtain ⟨t475, A30, H⟩ := H
 replace H : (if t475 = true then ((spec_l1In.f a1 0 (wrap64 ((l0.length : Int) - 1))).bind fun t476 => (some t476)) else (some false)) = some r := H
 have A3 := Aside0.mk A30
 clear A30
 by_cases c4 : t475 = true
 ·subst c4
  rw [if_pos rfl] at H
  replace H := Option.bind_eq_some_iff.mp H
  obtain ⟨t476, A50, H⟩ := H
  replace H : (some t476) = some r := H
  have A5 := Aside0.mk A50
  clear A50
  obtain rfl := Option.some.inj H
  go_enter Try.func51, Try.ntmps51
  go_wp2_with (first | ((with_reducible refine gate_callee (f := 34) rfl ?_); refine goesL_ (some 6) rfl rfl Try.func34 (by kernel_rfl) rfl #[.slice A0 l0.length c0] rfl (by (try simp only [List.map_toArray, List.map_cons, List.map_nil]); first | done | rfl | (simp only [List.length_drop, List.length_take]; rfl)) ?_; (with_reducible refine (spec_isGood.calls k _ _ l0 true _ ?side1 ?side2 A3.out).mono ?_); (case side1 => repeat (first | exact HR0.out | (with_reducible refine Kd.C_alloc ?_ _) | (with_reducible refine Kd.C_drewN ?_ _) | (with_reducible refine Kd.C_drew ?_))); (case side2 => exact HC0.out); rintro e w6 ⟨rfl, hb⟩; refine ⟨_, rfl, ?_⟩; replace HB := Aside0.mk (below_step (by repeat first | exact HB.out | apply below_alloc | apply pw_below_drewN | apply below_drew1) hb)) | (go_at_call 54; (with_reducible refine (spec_l1In.calls a1 0 (wrap64 ((l0.length : Int) - 1)) t476 _ A5.out).mono ?_); rintro e w' ⟨rfl, ⟨nd, rfl⟩⟩))
  go_ret
  exact ⟨by first | rfl | (simp [errW_none, errW_some] <;> rfl) | (simp [*, errW_none, errW_some] <;> rfl), by repeat first | exact HB.out | apply below_alloc | apply pw_below_drewN | apply below_drew1⟩
 ·replace c4 := Bool.eq_false_iff.mpr c4
  subst c4
  rw [if_neg (show ¬ (false = true) by decide)] at H
  obtain rfl := Option.some.inj H
  go_enter Try.func51, Try.ntmps51
  go_wp2_with (first | ((with_reducible refine gate_callee (f := 34) rfl ?_); refine goesL_ (some 6) rfl rfl Try.func34 (by kernel_rfl) rfl #[.slice A0 l0.length c0] rfl (by (try simp only [List.map_toArray, List.map_cons, List.map_nil]); first | done | rfl | (simp only [List.length_drop, List.length_take]; rfl)) ?_; (with_reducible refine (spec_isGood.calls k _ _ l0 false _ ?side1 ?side2 A3.out).mono ?_); (case side1 => repeat (first | exact HR0.out | (with_reducible refine Kd.C_alloc ?_ _) | (with_reducible refine Kd.C_drewN ?_ _) | (with_reducible refine Kd.C_drew ?_))); (case side2 => exact HC0.out); rintro e w7 ⟨rfl, hb⟩; refine ⟨_, rfl, ?_⟩; replace HB := Aside0.mk (below_step (by repeat first | exact HB.out | apply below_alloc | apply pw_below_drewN | apply below_drew1) hb)))
  go_ret
  exact ⟨by first | rfl | (simp [errW_none, errW_some] <;> rfl) | (simp [*, errW_none, errW_some] <;> rfl), by repeat first | exact HB.out | apply below_alloc | apply pw_below_drewN | apply below_drew1⟩

/-! ### spec_isOf: function 52 -/
def spec_isOf.f (a0 : Int) : Option (Int × Int) := some (wrap64 (Int.tdiv a0 27), Int.tmod a0 27)
set_option maxHeartbeats 8000000 in
set_option maxRecDepth 100000 in
theorem spec_isOf.calls (a0 : Int) (r1 : Int) (r2 : Int) (w : World) (h : spec_isOf.f a0 = some (r1, r2)) :
  Calls Try.prog 52 #[.int .i64 a0] w fun e w' => e = .returned (.agg #[.int .i64 r1, .int .i64 r2]) ∧ Below w.heap.size w w' := by
 have hu26 := Try.underlying26
 have HB := Aside0.mk (Below.refl w.heap.size w)
 have H : (some (wrap64 (Int.tdiv a0 27), Int.tmod a0 27)) = some (r1, r2) := h
 clear h
 simp only [Option.some.injEq, Prod.mk.injEq] at H
 obtain ⟨rfl, rfl⟩ := H
 go_enter Try.func52, Try.ntmps52
 go_wp2_with (first | ((with_reducible refine gate_dst (N := 2) rfl ?_); refine box_event ?hg (N := 2) ?hd (cs := #[.int .i64 0, .int .i64 0]) (t := 26) ?hr ?_; (case hd => rfl); (case hg => rfl); (case hr => go_simp <;> rfl); intro gb477 hg w2 hbox hb; have BK477 := Aside0.mk (hbox); have GW477 := Aside0.mk ((by rw [hg]; exact (below_size HB.out) : w.heap.size ≤ gb477)); have GE477 := Aside0.mk ((by rw [hg]; exact (below_size HB.out) : w.heap.size ≤ gb477)); replace HB := Aside0.mk (below_step HB.out hb); clear hb hbox hg; have hcz3_0 : w2.cell? ⟨gb477, 0, none⟩ = some (.int .i64 0) := (blk_cell BK477.out 0).trans rfl; have hcz3_1 : w2.cell? ⟨gb477, 1, none⟩ = some (.int .i64 0) := (blk_cell BK477.out 1).trans rfl; have hfz3_0 := blk_frozen BK477.out 0; have hfz3_1 := blk_frozen BK477.out 1))
 refine bodyPost_ret (results_cell_row rfl _ _ gb477 26 #[.int .i64 (wrap64 (Int.tdiv a0 27)), .int .i64 (Int.tmod a0 27)] (0, 0) _ rfl (by refine blk_put (cs := #[.int .i64 (wrap64 (Int.tdiv a0 27)), .int .i64 0]) ?_ 1 _ rfl; refine blk_put (cs := #[.int .i64 0, .int .i64 0]) ?_ 0 _ rfl; exact BK477.out) Try.underlying26 rfl (by kernel_rfl)) rfl ?_
 exact ⟨rfl, by repeat first | exact HB.out | apply below_alloc | apply pw_below_drewN | apply below_drew1 | refine below_set ?_ GE477.out⟩

/-! ### spec_InsertBehind: function 19 -/
def spec_InsertBehind.f (k : Nat) (l0 : List (S26)) (a1 : Int) : Option ((List (S26)) × Bool) := (spec_isAsked.f k l0 a1).bind fun t478 => (if t478 = true then (if 0 ≤ a1 then (if a1 < (l0.length : Int) then ((spec_isRank.f ((rd_T26 l0 a1).f0) ((rd_T26 l0 a1).f1)).bind fun t480 => ((spec_isOf.f (wrap64 (t480 + 1))).bind fun bt481 => ((spec_isPlate.f bt481.1 bt481.2).bind fun t484 => (if t484 = true then ((spec_isAdd.f k l0 bt481.1 bt481.2).bind fun bt485 => (some (bt485.1, bt485.2))) else (some (([] : List (S26)), false)))))) else (none)) else (none)) else (some (([] : List (S26)), false)))
set_option maxHeartbeats 8000000 in
set_option maxRecDepth 100000 in
theorem spec_InsertBehind.calls (k : Nat) (A0 : Option Addr) (c0 : Nat) (l0 : List (S26)) (a1 : Int) (r1 : List (S26)) (r2 : Bool) (w : World) (hr0 : Kd.C k26 w A0 l0.length l0) (hc0 : l0.length ≤ c0) (h : spec_InsertBehind.f k l0 a1 = some (r1, r2)) :
  Calls Try.prog 19 #[.slice A0 l0.length c0, .int .i64 a1] w fun e w' => ∃ v0_ : Value, e = .returned (.tuple #[v0_, .bool r2]) ∧ Kd.R k26 26 w' w.heap.size (fun _ => True) v0_ r1 ∧ Below w.heap.size w w' := by
 have hu26 := Try.underlying26
 have HR0 := Aside0.mk hr0
 have HC0 := Aside0.mk hc0
 clear hr0 hc0
 have HB := Aside0.mk (Below.refl w.heap.size w)
 have H : ((spec_isAsked.f k l0 a1).bind fun t478 => (if t478 = true then (if 0 ≤ a1 then (if a1 < (l0.length : Int) then ((spec_isRank.f ((rd_T26 l0 a1).f0) ((rd_T26 l0 a1).f1)).bind fun t480 => ((spec_isOf.f (wrap64 (t480 + 1))).bind fun bt481 => ((spec_isPlate.f bt481.1 bt481.2).bind fun t484 => (if t484 = true then ((spec_isAdd.f k l0 bt481.1 bt481.2).bind fun bt485 => (some (bt485.1, bt485.2))) else (some (([] : List (S26)), false)))))) else (none)) else (none)) else (some (([] : List (S26)), false)))) = some (r1, r2) := h
 clear h
 replace H := Option.bind_eq_some_iff.mp H
 obtain ⟨t478, A30, H⟩ := H
 replace H : (if t478 = true then (if 0 ≤ a1 then (if a1 < (l0.length : Int) then ((spec_isRank.f ((rd_T26 l0 a1).f0) ((rd_T26 l0 a1).f1)).bind fun t480 => ((spec_isOf.f (wrap64 (t480 + 1))).bind fun bt481 => ((spec_isPlate.f bt481.1 bt481.2).bind fun t484 => (if t484 = true then ((spec_isAdd.f k l0 bt481.1 bt481.2).bind fun bt485 => (some (bt485.1, bt485.2))) else (some (([] : List (S26)), false)))))) else (none)) else (none)) else (some (([] : List (S26)), false))) = some (r1, r2) := H
 have A3 := Aside0.mk A30
 clear A30
 by_cases c4 : t478 = true
 ·subst c4
  rw [if_pos rfl] at H
  by_cases c5 : 0 ≤ a1
  ·rw [if_pos c5] at H
   have c5b0 : decide (0 ≤ a1) = true := decide_eq_true c5
   clear c5
   by_cases c6 : a1 < (l0.length : Int)
   ·rw [if_pos c6] at H
    have c6b0 : decide (a1 < (l0.length : Int)) = true := decide_eq_true c6
    clear c6
    replace H := Option.bind_eq_some_iff.mp H
    obtain ⟨t480, A70, H⟩ := H
    replace H : ((spec_isOf.f (wrap64 (t480 + 1))).bind fun bt481 => ((spec_isPlate.f bt481.1 bt481.2).bind fun t484 => (if t484 = true then ((spec_isAdd.f k l0 bt481.1 bt481.2).bind fun bt485 => (some (bt485.1, bt485.2))) else (some (([] : List (S26)), false))))) = some (r1, r2) := H
    have A7 := Aside0.mk A70
    clear A70
    replace H := Option.bind_eq_some_iff.mp H
    obtain ⟨⟨t481, t482⟩, A80, H⟩ := H
    replace H : ((spec_isPlate.f t481 t482).bind fun t484 => (if t484 = true then ((spec_isAdd.f k l0 t481 t482).bind fun bt485 => (some (bt485.1, bt485.2))) else (some (([] : List (S26)), false)))) = some (r1, r2) := H
    have A8 := Aside0.mk A80
    clear A80
    replace H := Option.bind_eq_some_iff.mp H
    obtain ⟨t484, A90, H⟩ := H
    replace H : (if t484 = true then ((spec_isAdd.f k l0 t481 t482).bind fun bt485 => (some (bt485.1, bt485.2))) else (some (([] : List (S26)), false))) = some (r1, r2) := H
    have A9 := Aside0.mk A90
    clear A90
    by_cases c10 : t484 = true
    ·subst c10
     rw [if_pos rfl] at H
     replace H := Option.bind_eq_some_iff.mp H
     obtain ⟨⟨t485, t488⟩, A110, H⟩ := H
     replace H : (some (t485, t488)) = some (r1, r2) := H
     have A11 := Aside0.mk A110
     clear A110
     simp only [Option.some.injEq, Prod.mk.injEq] at H
     obtain ⟨rfl, rfl⟩ := H
     go_enter Try.func19, Try.ntmps19
     go_wp2_with (first | ((with_reducible refine gate_callee (f := 51) rfl ?_); refine goesL_ (some 9) rfl rfl Try.func51 (by kernel_rfl) rfl #[.slice A0 l0.length c0, .int .i64 a1] rfl (by (try simp only [List.map_toArray, List.map_cons, List.map_nil]); first | done | rfl | (simp only [List.length_drop, List.length_take]; rfl)) ?_; (with_reducible refine (spec_isAsked.calls k _ _ l0 a1 true _ ?side1 ?side2 A3.out).mono ?_); (case side1 => repeat (first | exact HR0.out | (with_reducible refine Kd.C_alloc ?_ _) | (with_reducible refine Kd.C_drewN ?_ _) | (with_reducible refine Kd.C_drew ?_))); (case side2 => exact HC0.out); rintro e w12 ⟨rfl, hb⟩; refine ⟨_, rfl, ?_⟩; replace HB := Aside0.mk (below_step (by repeat (first | (with_reducible first | exact HB.out | apply below_alloc | apply pw_below_drewN | apply below_drew1) | exact HB.out)) hb); (try clear hb); (try clear hb2); (try clear hk); (try clear hi); have p479 : 0 ≤ (a1 : Int) := of_decide_eq_true (by first | (with_reducible assumption) | assumption); have q479 : a1 < (l0.length : Int) := of_decide_eq_true (by first | (with_reducible assumption) | assumption); obtain ⟨ad479, e479, hx479_0, hx479_1⟩ := at_T26 HR0.out a1 p479 q479; cases e479; replace hx479_0 := (HB.out.cell (World.block_lt_of_cell? w _ hx479_0)).trans hx479_0; replace hx479_1 := (HB.out.cell (World.block_lt_of_cell? w _ hx479_1)).trans hx479_1; replace p479 := eq_true p479; replace q479 := eq_true q479) | ((with_reducible refine gate_callee (f := 53) rfl ?_); refine goesL_ (some 15) rfl rfl Try.func53 (by kernel_rfl) rfl #[.agg #[.int .i64 ((rd_T26 l0 a1).f0), .int .i64 ((rd_T26 l0 a1).f1)]] rfl (by (try simp only [List.map_toArray, List.map_cons, List.map_nil]); first | done | rfl | (simp only [List.length_drop, List.length_take]; rfl)) ?_; (with_reducible refine (spec_isRank.calls ((rd_T26 l0 a1).f0) ((rd_T26 l0 a1).f1) t480 _ A7.out).mono ?_); rintro e w13 ⟨rfl, hb⟩; refine ⟨_, rfl, ?_⟩; replace HB := Aside0.mk (below_step (by repeat (first | (with_reducible first | exact HB.out | apply below_alloc | apply pw_below_drewN | apply below_drew1) | exact HB.out)) hb); (try clear hb); (try clear hb2); (try clear hk); (try clear hi)) | ((with_reducible refine gate_callee (f := 52) rfl ?_); refine goesL_ (some 17) rfl rfl Try.func52 (by kernel_rfl) rfl #[.int .i64 (wrap64 (t480 + 1))] rfl (by (try simp only [List.map_toArray, List.map_cons, List.map_nil]); first | done | rfl | (simp only [List.length_drop, List.length_take]; rfl)) ?_; (with_reducible refine (spec_isOf.calls (wrap64 (t480 + 1)) t481 t482 _ A8.out).mono ?_); rintro e w14 ⟨rfl, hb⟩; refine ⟨_, rfl, ?_⟩; replace HB := Aside0.mk (below_step (by repeat (first | (with_reducible first | exact HB.out | apply below_alloc | apply pw_below_drewN | apply below_drew1) | exact HB.out)) hb); (try clear hb); (try clear hb2); (try clear hk); (try clear hi)) | ((with_reducible refine gate_dst (N := 6) rfl ?_); refine box_event ?hg (N := 6) ?hd (cs := #[.int .i64 0, .int .i64 0]) (t := 26) ?hr ?_; (case hd => rfl); (case hg => rfl); (case hr => first | (go_simp; done) | (go_simp; rfl)); intro gb483 hg w15 hbox hb; have BK483 := Aside0.mk (hbox); have GW483 := Aside0.mk ((by rw [hg]; exact (below_size (by repeat (first | (with_reducible first | exact HB.out | apply below_alloc | apply pw_below_drewN | apply below_drew1) | exact HB.out))) : w.heap.size ≤ gb483)); have GE483 := Aside0.mk ((by rw [hg]; exact (below_size (by repeat (first | (with_reducible first | exact HB.out | apply below_alloc | apply pw_below_drewN | apply below_drew1) | exact HB.out))) : w.heap.size ≤ gb483)); replace HB := Aside0.mk (below_step (by repeat (first | (with_reducible first | exact HB.out | apply below_alloc | apply pw_below_drewN | apply below_drew1) | exact HB.out)) hb); clear hb hbox hg; have hcz16_0 : w15.cell? ⟨gb483, 0, none⟩ = some (.int .i64 0) := (blk_cell BK483.out 0).trans rfl; have hcz16_1 : w15.cell? ⟨gb483, 1, none⟩ = some (.int .i64 0) := (blk_cell BK483.out 1).trans rfl; have hfz16_0 := blk_frozen BK483.out 0; have hfz16_1 := blk_frozen BK483.out 1) | ((with_reducible refine gate_callee (f := 35) rfl ?_); refine goesL_ (some 19) rfl rfl Try.func35 (by kernel_rfl) rfl #[.agg #[.int .i64 t481, .int .i64 t482]] rfl (by (try simp only [List.map_toArray, List.map_cons, List.map_nil]); first | done | rfl | (simp only [List.length_drop, List.length_take]; rfl)) ?_; (with_reducible refine (spec_isPlate.calls t481 t482 true _ A9.out).mono ?_); rintro e w17 ⟨rfl, hb⟩; refine ⟨_, rfl, ?_⟩; replace BK483 := Aside0.mk (blk_below (g := gb483) (o := .cells #[.int .i64 t481, .int .i64 t482] 26 (0, 0)) (by (with_reducible repeat (first | refine blk_drewN ?_ _ | refine blk_drew ?_ | refine blk_alloc ?_ _)); refine blk_put (cs := #[.int .i64 t481, .int .i64 0]) ?_ 1 _ rfl; (with_reducible repeat (first | refine blk_drewN ?_ _ | refine blk_drew ?_ | refine blk_alloc ?_ _)); refine blk_put (cs := #[.int .i64 0, .int .i64 0]) ?_ 0 _ rfl; (with_reducible repeat (first | refine blk_drewN ?_ _ | refine blk_drew ?_ | refine blk_alloc ?_ _)); exact BK483.out) hb); replace HB := Aside0.mk (below_step (by repeat (first | (with_reducible first | exact HB.out | apply below_alloc | apply pw_below_drewN | apply below_drew1 | refine below_set ?_ GE483.out) | exact HB.out)) hb); (try clear hb); (try clear hb2); (try clear hk); (try clear hi); have hcz18_0 : w17.cell? ⟨gb483, 0, none⟩ = some (.int .i64 t481) := (blk_cell BK483.out 0).trans rfl; have hcz18_1 : w17.cell? ⟨gb483, 1, none⟩ = some (.int .i64 t482) := (blk_cell BK483.out 1).trans rfl; have hfz18_0 := blk_frozen BK483.out 0; have hfz18_1 := blk_frozen BK483.out 1) | ((with_reducible refine gate_callee (f := 36) rfl ?_); refine goesL_ (some 23) rfl rfl Try.func36 (by kernel_rfl) rfl #[.slice (some ad479) l0.length c0, .agg #[.int .i64 t481, .int .i64 t482]] rfl (by (try simp only [List.map_toArray, List.map_cons, List.map_nil]); first | done | rfl | (simp only [List.length_drop, List.length_take]; rfl)) ?_; (with_reducible refine (spec_isAdd.calls k _ _ l0 t481 t482 t485 t488 _ ?side1 ?side2 A11.out).mono ?_); (case side1 => repeat (first | exact (Kd.C_below HR0.out HB.out) | (with_reducible refine Kd.C_alloc ?_ _) | (with_reducible refine Kd.C_drewN ?_ _) | (with_reducible refine Kd.C_drew ?_))); (case side2 => exact HC0.out); rintro e w19 ⟨v486, rfl, ho0, hb⟩; refine ⟨_, rfl, ?_⟩; have HO487 := Aside0.mk (Kd.R_lower (Kd.R_newB ho0 (g := gb483) (o := .cells #[.int .i64 t481, .int .i64 t482] 26 (0, 0)) (by (with_reducible repeat (first | refine blk_drewN ?_ _ | refine blk_drew ?_ | refine blk_alloc ?_ _)); exact BK483.out)) (below_size (by repeat (first | (with_reducible first | exact HB.out | apply below_alloc | apply pw_below_drewN | apply below_drew1 | refine below_set ?_ GE483.out) | exact HB.out)))); replace BK483 := Aside0.mk (blk_below (g := gb483) (o := .cells #[.int .i64 t481, .int .i64 t482] 26 (0, 0)) (by (with_reducible repeat (first | refine blk_drewN ?_ _ | refine blk_drew ?_ | refine blk_alloc ?_ _)); exact BK483.out) hb); replace HB := Aside0.mk (below_step (by repeat (first | (with_reducible first | exact HB.out | apply below_alloc | apply pw_below_drewN | apply below_drew1 | refine below_set ?_ GE483.out) | exact HB.out)) hb); (try clear hb); (try clear hb2); (try clear hk); (try clear hi); (try clear ho0)))
     go_ret2
     exact ⟨_, by first | rfl | (simp [errW_none, errW_some] <;> rfl) | (simp [*, errW_none, errW_some] <;> rfl), by (with_reducible repeat (first | apply Kd.R_alloc | apply Kd.R_drewN | apply Kd.R_drew)); exact Kd.R_mono HO487.out (fun _ hk => trivial), by repeat (first | (with_reducible first | exact HB.out | apply below_alloc | apply pw_below_drewN | apply below_drew1 | refine below_set ?_ GE483.out) | exact HB.out)⟩
    ·replace c10 := Bool.eq_false_iff.mpr c10
     subst c10
     rw [if_neg (show ¬ (false = true) by decide)] at H
     simp only [Option.some.injEq, Prod.mk.injEq] at H
     obtain ⟨rfl, rfl⟩ := H
     go_enter Try.func19, Try.ntmps19
     go_wp2_with (first | ((with_reducible refine gate_callee (f := 51) rfl ?_); refine goesL_ (some 9) rfl rfl Try.func51 (by kernel_rfl) rfl #[.slice A0 l0.length c0, .int .i64 a1] rfl (by (try simp only [List.map_toArray, List.map_cons, List.map_nil]); first | done | rfl | (simp only [List.length_drop, List.length_take]; rfl)) ?_; (with_reducible refine (spec_isAsked.calls k _ _ l0 a1 true _ ?side1 ?side2 A3.out).mono ?_); (case side1 => repeat (first | exact HR0.out | (with_reducible refine Kd.C_alloc ?_ _) | (with_reducible refine Kd.C_drewN ?_ _) | (with_reducible refine Kd.C_drew ?_))); (case side2 => exact HC0.out); rintro e w20 ⟨rfl, hb⟩; refine ⟨_, rfl, ?_⟩; replace HB := Aside0.mk (below_step (by repeat (first | (with_reducible first | exact HB.out | apply below_alloc | apply pw_below_drewN | apply below_drew1) | exact HB.out)) hb); (try clear hb); (try clear hb2); (try clear hk); (try clear hi); have p479 : 0 ≤ (a1 : Int) := of_decide_eq_true (by first | (with_reducible assumption) | assumption); have q479 : a1 < (l0.length : Int) := of_decide_eq_true (by first | (with_reducible assumption) | assumption); obtain ⟨ad479, e479, hx479_0, hx479_1⟩ := at_T26 HR0.out a1 p479 q479; cases e479; replace hx479_0 := (HB.out.cell (World.block_lt_of_cell? w _ hx479_0)).trans hx479_0; replace hx479_1 := (HB.out.cell (World.block_lt_of_cell? w _ hx479_1)).trans hx479_1; replace p479 := eq_true p479; replace q479 := eq_true q479) | ((with_reducible refine gate_callee (f := 53) rfl ?_); refine goesL_ (some 15) rfl rfl Try.func53 (by kernel_rfl) rfl #[.agg #[.int .i64 ((rd_T26 l0 a1).f0), .int .i64 ((rd_T26 l0 a1).f1)]] rfl (by (try simp only [List.map_toArray, List.map_cons, List.map_nil]); first | done | rfl | (simp only [List.length_drop, List.length_take]; rfl)) ?_; (with_reducible refine (spec_isRank.calls ((rd_T26 l0 a1).f0) ((rd_T26 l0 a1).f1) t480 _ A7.out).mono ?_); rintro e w21 ⟨rfl, hb⟩; refine ⟨_, rfl, ?_⟩; replace HB := Aside0.mk (below_step (by repeat (first | (with_reducible first | exact HB.out | apply below_alloc | apply pw_below_drewN | apply below_drew1) | exact HB.out)) hb); (try clear hb); (try clear hb2); (try clear hk); (try clear hi)) | ((with_reducible refine gate_callee (f := 52) rfl ?_); refine goesL_ (some 17) rfl rfl Try.func52 (by kernel_rfl) rfl #[.int .i64 (wrap64 (t480 + 1))] rfl (by (try simp only [List.map_toArray, List.map_cons, List.map_nil]); first | done | rfl | (simp only [List.length_drop, List.length_take]; rfl)) ?_; (with_reducible refine (spec_isOf.calls (wrap64 (t480 + 1)) t481 t482 _ A8.out).mono ?_); rintro e w22 ⟨rfl, hb⟩; refine ⟨_, rfl, ?_⟩; replace HB := Aside0.mk (below_step (by repeat (first | (with_reducible first | exact HB.out | apply below_alloc | apply pw_below_drewN | apply below_drew1) | exact HB.out)) hb); (try clear hb); (try clear hb2); (try clear hk); (try clear hi)) | ((with_reducible refine gate_dst (N := 6) rfl ?_); refine box_event ?hg (N := 6) ?hd (cs := #[.int .i64 0, .int .i64 0]) (t := 26) ?hr ?_; (case hd => rfl); (case hg => rfl); (case hr => first | (go_simp; done) | (go_simp; rfl)); intro gb483 hg w23 hbox hb; have BK483 := Aside0.mk (hbox); have GW483 := Aside0.mk ((by rw [hg]; exact (below_size (by repeat (first | (with_reducible first | exact HB.out | apply below_alloc | apply pw_below_drewN | apply below_drew1) | exact HB.out))) : w.heap.size ≤ gb483)); have GE483 := Aside0.mk ((by rw [hg]; exact (below_size (by repeat (first | (with_reducible first | exact HB.out | apply below_alloc | apply pw_below_drewN | apply below_drew1) | exact HB.out))) : w.heap.size ≤ gb483)); replace HB := Aside0.mk (below_step (by repeat (first | (with_reducible first | exact HB.out | apply below_alloc | apply pw_below_drewN | apply below_drew1) | exact HB.out)) hb); clear hb hbox hg; have hcz24_0 : w23.cell? ⟨gb483, 0, none⟩ = some (.int .i64 0) := (blk_cell BK483.out 0).trans rfl; have hcz24_1 : w23.cell? ⟨gb483, 1, none⟩ = some (.int .i64 0) := (blk_cell BK483.out 1).trans rfl; have hfz24_0 := blk_frozen BK483.out 0; have hfz24_1 := blk_frozen BK483.out 1) | ((with_reducible refine gate_callee (f := 35) rfl ?_); refine goesL_ (some 19) rfl rfl Try.func35 (by kernel_rfl) rfl #[.agg #[.int .i64 t481, .int .i64 t482]] rfl (by (try simp only [List.map_toArray, List.map_cons, List.map_nil]); first | done | rfl | (simp only [List.length_drop, List.length_take]; rfl)) ?_; (with_reducible refine (spec_isPlate.calls t481 t482 false _ A9.out).mono ?_); rintro e w25 ⟨rfl, hb⟩; refine ⟨_, rfl, ?_⟩; replace BK483 := Aside0.mk (blk_below (g := gb483) (o := .cells #[.int .i64 t481, .int .i64 t482] 26 (0, 0)) (by (with_reducible repeat (first | refine blk_drewN ?_ _ | refine blk_drew ?_ | refine blk_alloc ?_ _)); refine blk_put (cs := #[.int .i64 t481, .int .i64 0]) ?_ 1 _ rfl; (with_reducible repeat (first | refine blk_drewN ?_ _ | refine blk_drew ?_ | refine blk_alloc ?_ _)); refine blk_put (cs := #[.int .i64 0, .int .i64 0]) ?_ 0 _ rfl; (with_reducible repeat (first | refine blk_drewN ?_ _ | refine blk_drew ?_ | refine blk_alloc ?_ _)); exact BK483.out) hb); replace HB := Aside0.mk (below_step (by repeat (first | (with_reducible first | exact HB.out | apply below_alloc | apply pw_below_drewN | apply below_drew1 | refine below_set ?_ GE483.out) | exact HB.out)) hb); (try clear hb); (try clear hb2); (try clear hk); (try clear hi)))
     go_ret2
     exact ⟨_, by first | rfl | (simp [errW_none, errW_some] <;> rfl) | (simp [*, errW_none, errW_some] <;> rfl), by first | exact Kd.R_nil _ _ _ _ _ | exact Kd.N_nil _ _ _ _ _ | exact Kd.V_nil _ _ _ _ _ | exact Kd.Q_nil _ _ _ _ _ | exact Kd.S_nil _ _ _ _ _, by repeat (first | (with_reducible first | exact HB.out | apply below_alloc | apply pw_below_drewN | apply below_drew1 | refine below_set ?_ GE483.out) | exact HB.out)⟩
   ·rw [if_neg c6] at H
    exact absurd H (by simp)
  ·rw [if_neg c5] at H
   exact absurd H (by simp)
 ·replace c4 := Bool.eq_false_iff.mpr c4
  subst c4
  rw [if_neg (show ¬ (false = true) by decide)] at H
  simp only [Option.some.injEq, Prod.mk.injEq] at H
  obtain ⟨rfl, rfl⟩ := H
  go_enter Try.func19, Try.ntmps19
  go_wp2_with (first | ((with_reducible refine gate_callee (f := 51) rfl ?_); refine goesL_ (some 9) rfl rfl Try.func51 (by kernel_rfl) rfl #[.slice A0 l0.length c0, .int .i64 a1] rfl (by (try simp only [List.map_toArray, List.map_cons, List.map_nil]); first | done | rfl | (simp only [List.length_drop, List.length_take]; rfl)) ?_; (with_reducible refine (spec_isAsked.calls k _ _ l0 a1 false _ ?side1 ?side2 A3.out).mono ?_); (case side1 => repeat (first | exact HR0.out | (with_reducible refine Kd.C_alloc ?_ _) | (with_reducible refine Kd.C_drewN ?_ _) | (with_reducible refine Kd.C_drew ?_))); (case side2 => exact HC0.out); rintro e w26 ⟨rfl, hb⟩; refine ⟨_, rfl, ?_⟩; replace HB := Aside0.mk (below_step (by repeat (first | (with_reducible first | exact HB.out | apply below_alloc | apply pw_below_drewN | apply below_drew1) | exact HB.out)) hb); (try clear hb); (try clear hb2); (try clear hk); (try clear hi)))
  go_ret2
  exact ⟨_, by first | rfl | (simp [errW_none, errW_some] <;> rfl) | (simp [*, errW_none, errW_some] <;> rfl), by first | exact Kd.R_nil _ _ _ _ _ | exact Kd.N_nil _ _ _ _ _ | exact Kd.V_nil _ _ _ _ _ | exact Kd.Q_nil _ _ _ _ _ | exact Kd.S_nil _ _ _ _ _, by repeat (first | (with_reducible first | exact HB.out | apply below_alloc | apply pw_below_drewN | apply below_drew1) | exact HB.out)⟩

/-! ### impl_RoomBehind: function 20 -/
def impl_RoomBehind.f (k : Nat) (l0 : List (S26)) (a1 : Int) : Option (Int × Bool) := (impl_hasPlate.f k l0 a1).bind fun t489 => (if t489 = true then (if (wrap64 (a1 + 1)) < (l0.length : Int) then (if 0 ≤ (wrap64 (a1 + 1)) then (if 0 ≤ a1 then (if a1 < (l0.length : Int) then (if ((rd_T26 l0 (wrap64 (a1 + 1))).f0) = ((rd_T26 l0 a1).f0) then (some (wrap64 ((wrap64 (((rd_T26 l0 (wrap64 (a1 + 1))).f1) - ((rd_T26 l0 a1).f1))) - 1), true)) else (some (wrap64 ((wrap64 (27 - ((rd_T26 l0 a1).f1))) - 1), true))) else (none)) else (none)) else (none)) else (if 0 ≤ a1 then (if a1 < (l0.length : Int) then (some (wrap64 ((wrap64 (27 - ((rd_T26 l0 a1).f1))) - 1), true)) else (none)) else (none))) else (some (0, false)))
set_option maxHeartbeats 8000000 in
set_option maxRecDepth 100000 in
theorem impl_RoomBehind.calls (k : Nat) (A0 : Option Addr) (c0 : Nat) (l0 : List (S26)) (a1 : Int) (r1 : Int) (r2 : Bool) (w : World) (hr0 : Kd.C k26 w A0 l0.length l0) (hc0 : l0.length ≤ c0) (h : impl_RoomBehind.f k l0 a1 = some (r1, r2)) :
  Calls Try.prog 20 #[.slice A0 l0.length c0, .int .i64 a1] w fun e w' => e = .returned (.tuple #[.int .i64 r1, .bool r2]) ∧ Below w.heap.size w w' := by
 have HR0 := Aside0.mk hr0
 have HC0 := Aside0.mk hc0
 clear hr0 hc0
 have HB := Aside0.mk (Below.refl w.heap.size w)
 have H : ((impl_hasPlate.f k l0 a1).bind fun t489 => (if t489 = true then (if (wrap64 (a1 + 1)) < (l0.length : Int) then (if 0 ≤ (wrap64 (a1 + 1)) then (if 0 ≤ a1 then (if a1 < (l0.length : Int) then (if ((rd_T26 l0 (wrap64 (a1 + 1))).f0) = ((rd_T26 l0 a1).f0) then (some (wrap64 ((wrap64 (((rd_T26 l0 (wrap64 (a1 + 1))).f1) - ((rd_T26 l0 a1).f1))) - 1), true)) else (some (wrap64 ((wrap64 (27 - ((rd_T26 l0 a1).f1))) - 1), true))) else (none)) else (none)) else (none)) else (if 0 ≤ a1 then (if a1 < (l0.length : Int) then (some (wrap64 ((wrap64 (27 - ((rd_T26 l0 a1).f1))) - 1), true)) else (none)) else (none))) else (some (0, false)))) = some (r1, r2) := h
 clear h
 replace H := Option.bind_eq_some_iff.mp H
 obtain ⟨t489, A30, H⟩ := H
 replace H : (if t489 = true then (if (wrap64 (a1 + 1)) < (l0.length : Int) then (if 0 ≤ (wrap64 (a1 + 1)) then (if 0 ≤ a1 then (if a1 < (l0.length : Int) then (if ((rd_T26 l0 (wrap64 (a1 + 1))).f0) = ((rd_T26 l0 a1).f0) then (some (wrap64 ((wrap64 (((rd_T26 l0 (wrap64 (a1 + 1))).f1) - ((rd_T26 l0 a1).f1))) - 1), true)) else (some (wrap64 ((wrap64 (27 - ((rd_T26 l0 a1).f1))) - 1), true))) else (none)) else (none)) else (none)) else (if 0 ≤ a1 then (if a1 < (l0.length : Int) then (some (wrap64 ((wrap64 (27 - ((rd_T26 l0 a1).f1))) - 1), true)) else (none)) else (none))) else (some (0, false))) = some (r1, r2) := H
 have A3 := Aside0.mk A30
 clear A30
 by_cases c4 : t489 = true
 ·subst c4
  rw [if_pos rfl] at H
  by_cases c5 : (wrap64 (a1 + 1)) < (l0.length : Int)
  ·rw [if_pos c5] at H
   have c5b0 : decide ((wrap64 (a1 + 1)) < (l0.length : Int)) = true := decide_eq_true c5
   clear c5
   obtain ⟨ji6, hji6⟩ : ∃ j_ : Int, (wrap64 (a1 + 1)) = j_ := ⟨_, rfl⟩
   replace H : (if 0 ≤ (ji6) then (if 0 ≤ a1 then (if a1 < (l0.length : Int) then (if ((rd_T26 l0 (ji6)).f0) = ((rd_T26 l0 a1).f0) then (some (wrap64 ((wrap64 (((rd_T26 l0 (ji6)).f1) - ((rd_T26 l0 a1).f1))) - 1), true)) else (some (wrap64 ((wrap64 (27 - ((rd_T26 l0 a1).f1))) - 1), true))) else (none)) else (none)) else (none)) = some (r1, r2) := by first | (rw [hji6] at H; exact H) | (simp only [hji6] at H ⊢; exact H)
   (try rw [hji6] at c5b0)
   (try rw [hji6] at A3)
   have hji6w : (IntKind.i64.wrap (a1 + 1)) = ji6 := (i64_w _).trans hji6
   by_cases c7 : 0 ≤ (ji6)
   ·rw [if_pos c7] at H
    have c7b0 : decide (0 ≤ (ji6)) = true := decide_eq_true c7
    clear c7
    by_cases c8 : 0 ≤ a1
    ·rw [if_pos c8] at H
     have c8b0 : decide (0 ≤ a1) = true := decide_eq_true c8
     clear c8
     by_cases c9 : a1 < (l0.length : Int)
     ·rw [if_pos c9] at H
      have c9b0 : decide (a1 < (l0.length : Int)) = true := decide_eq_true c9
      clear c9
      by_cases c10 : ((rd_T26 l0 (ji6)).f0) = ((rd_T26 l0 a1).f0)
      ·rw [if_pos c10] at H
       have c10b0 : (((rd_T26 l0 (ji6)).f0) == ((rd_T26 l0 a1).f0)) = true := beq_iff_eq.mpr c10
       have c10b1 : (((rd_T26 l0 (ji6)).f0) != ((rd_T26 l0 a1).f0)) = false := bne_eq_false_iff_eq.mpr c10
       clear c10
       simp only [Option.some.injEq, Prod.mk.injEq] at H
       obtain ⟨rfl, rfl⟩ := H
       go_enter Try.func20, Try.ntmps20
       go_wp2_with (first | (go_at_call 42; (with_reducible refine (impl_hasPlate.calls k _ _ l0 a1 true _ ?side1 ?side2 A3.out).mono ?_); (case side1 => repeat (first | exact HR0.out | (with_reducible refine Kd.C_alloc ?_ _) | (with_reducible refine Kd.C_drewN ?_ _) | (with_reducible refine Kd.C_drew ?_))); (case side2 => exact HC0.out); rintro e w11 ⟨rfl, hb⟩; replace HB := Aside0.mk (below_step HB.out hb); have p490 : 0 ≤ ((ji6) : Int) := of_decide_eq_true (by assumption); have q490 : (ji6) < (l0.length : Int) := of_decide_eq_true (by assumption); obtain ⟨ad490, e490, hx490_0, hx490_1⟩ := at_T26 HR0.out (ji6) p490 q490; cases e490; replace hx490_0 := (HB.out.cell (World.block_lt_of_cell? w _ hx490_0)).trans hx490_0; replace hx490_1 := (HB.out.cell (World.block_lt_of_cell? w _ hx490_1)).trans hx490_1; replace p490 := eq_true p490; replace q490 := eq_true q490; have p491 : 0 ≤ (a1 : Int) := of_decide_eq_true (by assumption); have q491 : a1 < (l0.length : Int) := of_decide_eq_true (by assumption); obtain ⟨ad491, e491, hx491_0, hx491_1⟩ := at_T26 HR0.out a1 p491 q491; obtain rfl : ad490 = ad491 := (by injection e491); replace hx491_0 := (HB.out.cell (World.block_lt_of_cell? w _ hx491_0)).trans hx491_0; replace hx491_1 := (HB.out.cell (World.block_lt_of_cell? w _ hx491_1)).trans hx491_1; replace p491 := eq_true p491; replace q491 := eq_true q491; have p492 : 0 ≤ ((ji6) : Int) := of_decide_eq_true (by assumption); have q492 : (ji6) < (l0.length : Int) := of_decide_eq_true (by assumption); obtain ⟨ad492, e492, hx492_0, hx492_1⟩ := at_T26 HR0.out (ji6) p492 q492; obtain rfl : ad490 = ad492 := (by injection e492); replace hx492_0 := (HB.out.cell (World.block_lt_of_cell? w _ hx492_0)).trans hx492_0; replace hx492_1 := (HB.out.cell (World.block_lt_of_cell? w _ hx492_1)).trans hx492_1; replace p492 := eq_true p492; replace q492 := eq_true q492; have p493 : 0 ≤ (a1 : Int) := of_decide_eq_true (by assumption); have q493 : a1 < (l0.length : Int) := of_decide_eq_true (by assumption); obtain ⟨ad493, e493, hx493_0, hx493_1⟩ := at_T26 HR0.out a1 p493 q493; obtain rfl : ad490 = ad493 := (by injection e493); replace hx493_0 := (HB.out.cell (World.block_lt_of_cell? w _ hx493_0)).trans hx493_0; replace hx493_1 := (HB.out.cell (World.block_lt_of_cell? w _ hx493_1)).trans hx493_1; replace p493 := eq_true p493; replace q493 := eq_true q493))
       repeat (go_quiet (first | (go_at_call 42; (with_reducible refine (impl_hasPlate.calls k _ _ l0 a1 true _ ?side1 ?side2 A3.out).mono ?_); (case side1 => repeat (first | exact HR0.out | (with_reducible refine Kd.C_alloc ?_ _) | (with_reducible refine Kd.C_drewN ?_ _) | (with_reducible refine Kd.C_drew ?_))); (case side2 => exact HC0.out); rintro e w11 ⟨rfl, hb⟩; replace HB := Aside0.mk (below_step HB.out hb); have p490 : 0 ≤ ((ji6) : Int) := of_decide_eq_true (by assumption); have q490 : (ji6) < (l0.length : Int) := of_decide_eq_true (by assumption); obtain ⟨ad490, e490, hx490_0, hx490_1⟩ := at_T26 HR0.out (ji6) p490 q490; cases e490; replace hx490_0 := (HB.out.cell (World.block_lt_of_cell? w _ hx490_0)).trans hx490_0; replace hx490_1 := (HB.out.cell (World.block_lt_of_cell? w _ hx490_1)).trans hx490_1; replace p490 := eq_true p490; replace q490 := eq_true q490; have p491 : 0 ≤ (a1 : Int) := of_decide_eq_true (by assumption); have q491 : a1 < (l0.length : Int) := of_decide_eq_true (by assumption); obtain ⟨ad491, e491, hx491_0, hx491_1⟩ := at_T26 HR0.out a1 p491 q491; obtain rfl : ad490 = ad491 := (by injection e491); replace hx491_0 := (HB.out.cell (World.block_lt_of_cell? w _ hx491_0)).trans hx491_0; replace hx491_1 := (HB.out.cell (World.block_lt_of_cell? w _ hx491_1)).trans hx491_1; replace p491 := eq_true p491; replace q491 := eq_true q491; have p492 : 0 ≤ ((ji6) : Int) := of_decide_eq_true (by assumption); have q492 : (ji6) < (l0.length : Int) := of_decide_eq_true (by assumption); obtain ⟨ad492, e492, hx492_0, hx492_1⟩ := at_T26 HR0.out (ji6) p492 q492; obtain rfl : ad490 = ad492 := (by injection e492); replace hx492_0 := (HB.out.cell (World.block_lt_of_cell? w _ hx492_0)).trans hx492_0; replace hx492_1 := (HB.out.cell (World.block_lt_of_cell? w _ hx492_1)).trans hx492_1; replace p492 := eq_true p492; replace q492 := eq_true q492; have p493 : 0 ≤ (a1 : Int) := of_decide_eq_true (by assumption); have q493 : a1 < (l0.length : Int) := of_decide_eq_true (by assumption); obtain ⟨ad493, e493, hx493_0, hx493_1⟩ := at_T26 HR0.out a1 p493 q493; obtain rfl : ad490 = ad493 := (by injection e493); replace hx493_0 := (HB.out.cell (World.block_lt_of_cell? w _ hx493_0)).trans hx493_0; replace hx493_1 := (HB.out.cell (World.block_lt_of_cell? w _ hx493_1)).trans hx493_1; replace p493 := eq_true p493; replace q493 := eq_true q493)); try go_wp2_with (first | (go_at_call 42; (with_reducible refine (impl_hasPlate.calls k _ _ l0 a1 true _ ?side1 ?side2 A3.out).mono ?_); (case side1 => repeat (first | exact HR0.out | (with_reducible refine Kd.C_alloc ?_ _) | (with_reducible refine Kd.C_drewN ?_ _) | (with_reducible refine Kd.C_drew ?_))); (case side2 => exact HC0.out); rintro e w11 ⟨rfl, hb⟩; replace HB := Aside0.mk (below_step HB.out hb); have p490 : 0 ≤ ((ji6) : Int) := of_decide_eq_true (by assumption); have q490 : (ji6) < (l0.length : Int) := of_decide_eq_true (by assumption); obtain ⟨ad490, e490, hx490_0, hx490_1⟩ := at_T26 HR0.out (ji6) p490 q490; cases e490; replace hx490_0 := (HB.out.cell (World.block_lt_of_cell? w _ hx490_0)).trans hx490_0; replace hx490_1 := (HB.out.cell (World.block_lt_of_cell? w _ hx490_1)).trans hx490_1; replace p490 := eq_true p490; replace q490 := eq_true q490; have p491 : 0 ≤ (a1 : Int) := of_decide_eq_true (by assumption); have q491 : a1 < (l0.length : Int) := of_decide_eq_true (by assumption); obtain ⟨ad491, e491, hx491_0, hx491_1⟩ := at_T26 HR0.out a1 p491 q491; obtain rfl : ad490 = ad491 := (by injection e491); replace hx491_0 := (HB.out.cell (World.block_lt_of_cell? w _ hx491_0)).trans hx491_0; replace hx491_1 := (HB.out.cell (World.block_lt_of_cell? w _ hx491_1)).trans hx491_1; replace p491 := eq_true p491; replace q491 := eq_true q491; have p492 : 0 ≤ ((ji6) : Int) := of_decide_eq_true (by assumption); have q492 : (ji6) < (l0.length : Int) := of_decide_eq_true (by assumption); obtain ⟨ad492, e492, hx492_0, hx492_1⟩ := at_T26 HR0.out (ji6) p492 q492; obtain rfl : ad490 = ad492 := (by injection e492); replace hx492_0 := (HB.out.cell (World.block_lt_of_cell? w _ hx492_0)).trans hx492_0; replace hx492_1 := (HB.out.cell (World.block_lt_of_cell? w _ hx492_1)).trans hx492_1; replace p492 := eq_true p492; replace q492 := eq_true q492; have p493 : 0 ≤ (a1 : Int) := of_decide_eq_true (by assumption); have q493 : a1 < (l0.length : Int) := of_decide_eq_true (by assumption); obtain ⟨ad493, e493, hx493_0, hx493_1⟩ := at_T26 HR0.out a1 p493 q493; obtain rfl : ad490 = ad493 := (by injection e493); replace hx493_0 := (HB.out.cell (World.block_lt_of_cell? w _ hx493_0)).trans hx493_0; replace hx493_1 := (HB.out.cell (World.block_lt_of_cell? w _ hx493_1)).trans hx493_1; replace p493 := eq_true p493; replace q493 := eq_true q493)))
       go_ret2
       exact ⟨by first | rfl | (simp [errW_none, errW_some] <;> rfl) | (simp only [← hji6]; first | rfl | (simp [errW_none, errW_some] <;> rfl)) | (simp [*, errW_none, errW_some] <;> rfl), by repeat first | exact HB.out | apply below_alloc | apply pw_below_drewN | apply below_drew1⟩
      ·rw [if_neg c10] at H
       have c10b0 : (((rd_T26 l0 (ji6)).f0) == ((rd_T26 l0 a1).f0)) = false := beq_eq_false_iff_ne.mpr c10
       have c10b1 : (((rd_T26 l0 (ji6)).f0) != ((rd_T26 l0 a1).f0)) = true := bne_iff_ne.mpr c10
       simp only [Option.some.injEq, Prod.mk.injEq] at H
       obtain ⟨rfl, rfl⟩ := H
       go_enter Try.func20, Try.ntmps20
       go_wp2_with (first | (go_at_call 42; (with_reducible refine (impl_hasPlate.calls k _ _ l0 a1 true _ ?side1 ?side2 A3.out).mono ?_); (case side1 => repeat (first | exact HR0.out | (with_reducible refine Kd.C_alloc ?_ _) | (with_reducible refine Kd.C_drewN ?_ _) | (with_reducible refine Kd.C_drew ?_))); (case side2 => exact HC0.out); rintro e w12 ⟨rfl, hb⟩; replace HB := Aside0.mk (below_step HB.out hb); have p490 : 0 ≤ ((ji6) : Int) := of_decide_eq_true (by assumption); have q490 : (ji6) < (l0.length : Int) := of_decide_eq_true (by assumption); obtain ⟨ad490, e490, hx490_0, hx490_1⟩ := at_T26 HR0.out (ji6) p490 q490; cases e490; replace hx490_0 := (HB.out.cell (World.block_lt_of_cell? w _ hx490_0)).trans hx490_0; replace hx490_1 := (HB.out.cell (World.block_lt_of_cell? w _ hx490_1)).trans hx490_1; replace p490 := eq_true p490; replace q490 := eq_true q490; have p491 : 0 ≤ (a1 : Int) := of_decide_eq_true (by assumption); have q491 : a1 < (l0.length : Int) := of_decide_eq_true (by assumption); obtain ⟨ad491, e491, hx491_0, hx491_1⟩ := at_T26 HR0.out a1 p491 q491; obtain rfl : ad490 = ad491 := (by injection e491); replace hx491_0 := (HB.out.cell (World.block_lt_of_cell? w _ hx491_0)).trans hx491_0; replace hx491_1 := (HB.out.cell (World.block_lt_of_cell? w _ hx491_1)).trans hx491_1; replace p491 := eq_true p491; replace q491 := eq_true q491; have p494 : 0 ≤ (a1 : Int) := of_decide_eq_true (by assumption); have q494 : a1 < (l0.length : Int) := of_decide_eq_true (by assumption); obtain ⟨ad494, e494, hx494_0, hx494_1⟩ := at_T26 HR0.out a1 p494 q494; obtain rfl : ad490 = ad494 := (by injection e494); replace hx494_0 := (HB.out.cell (World.block_lt_of_cell? w _ hx494_0)).trans hx494_0; replace hx494_1 := (HB.out.cell (World.block_lt_of_cell? w _ hx494_1)).trans hx494_1; replace p494 := eq_true p494; replace q494 := eq_true q494))
       repeat (go_quiet (first | (go_at_call 42; (with_reducible refine (impl_hasPlate.calls k _ _ l0 a1 true _ ?side1 ?side2 A3.out).mono ?_); (case side1 => repeat (first | exact HR0.out | (with_reducible refine Kd.C_alloc ?_ _) | (with_reducible refine Kd.C_drewN ?_ _) | (with_reducible refine Kd.C_drew ?_))); (case side2 => exact HC0.out); rintro e w12 ⟨rfl, hb⟩; replace HB := Aside0.mk (below_step HB.out hb); have p490 : 0 ≤ ((ji6) : Int) := of_decide_eq_true (by assumption); have q490 : (ji6) < (l0.length : Int) := of_decide_eq_true (by assumption); obtain ⟨ad490, e490, hx490_0, hx490_1⟩ := at_T26 HR0.out (ji6) p490 q490; cases e490; replace hx490_0 := (HB.out.cell (World.block_lt_of_cell? w _ hx490_0)).trans hx490_0; replace hx490_1 := (HB.out.cell (World.block_lt_of_cell? w _ hx490_1)).trans hx490_1; replace p490 := eq_true p490; replace q490 := eq_true q490; have p491 : 0 ≤ (a1 : Int) := of_decide_eq_true (by assumption); have q491 : a1 < (l0.length : Int) := of_decide_eq_true (by assumption); obtain ⟨ad491, e491, hx491_0, hx491_1⟩ := at_T26 HR0.out a1 p491 q491; obtain rfl : ad490 = ad491 := (by injection e491); replace hx491_0 := (HB.out.cell (World.block_lt_of_cell? w _ hx491_0)).trans hx491_0; replace hx491_1 := (HB.out.cell (World.block_lt_of_cell? w _ hx491_1)).trans hx491_1; replace p491 := eq_true p491; replace q491 := eq_true q491; have p494 : 0 ≤ (a1 : Int) := of_decide_eq_true (by assumption); have q494 : a1 < (l0.length : Int) := of_decide_eq_true (by assumption); obtain ⟨ad494, e494, hx494_0, hx494_1⟩ := at_T26 HR0.out a1 p494 q494; obtain rfl : ad490 = ad494 := (by injection e494); replace hx494_0 := (HB.out.cell (World.block_lt_of_cell? w _ hx494_0)).trans hx494_0; replace hx494_1 := (HB.out.cell (World.block_lt_of_cell? w _ hx494_1)).trans hx494_1; replace p494 := eq_true p494; replace q494 := eq_true q494)); try go_wp2_with (first | (go_at_call 42; (with_reducible refine (impl_hasPlate.calls k _ _ l0 a1 true _ ?side1 ?side2 A3.out).mono ?_); (case side1 => repeat (first | exact HR0.out | (with_reducible refine Kd.C_alloc ?_ _) | (with_reducible refine Kd.C_drewN ?_ _) | (with_reducible refine Kd.C_drew ?_))); (case side2 => exact HC0.out); rintro e w12 ⟨rfl, hb⟩; replace HB := Aside0.mk (below_step HB.out hb); have p490 : 0 ≤ ((ji6) : Int) := of_decide_eq_true (by assumption); have q490 : (ji6) < (l0.length : Int) := of_decide_eq_true (by assumption); obtain ⟨ad490, e490, hx490_0, hx490_1⟩ := at_T26 HR0.out (ji6) p490 q490; cases e490; replace hx490_0 := (HB.out.cell (World.block_lt_of_cell? w _ hx490_0)).trans hx490_0; replace hx490_1 := (HB.out.cell (World.block_lt_of_cell? w _ hx490_1)).trans hx490_1; replace p490 := eq_true p490; replace q490 := eq_true q490; have p491 : 0 ≤ (a1 : Int) := of_decide_eq_true (by assumption); have q491 : a1 < (l0.length : Int) := of_decide_eq_true (by assumption); obtain ⟨ad491, e491, hx491_0, hx491_1⟩ := at_T26 HR0.out a1 p491 q491; obtain rfl : ad490 = ad491 := (by injection e491); replace hx491_0 := (HB.out.cell (World.block_lt_of_cell? w _ hx491_0)).trans hx491_0; replace hx491_1 := (HB.out.cell (World.block_lt_of_cell? w _ hx491_1)).trans hx491_1; replace p491 := eq_true p491; replace q491 := eq_true q491; have p494 : 0 ≤ (a1 : Int) := of_decide_eq_true (by assumption); have q494 : a1 < (l0.length : Int) := of_decide_eq_true (by assumption); obtain ⟨ad494, e494, hx494_0, hx494_1⟩ := at_T26 HR0.out a1 p494 q494; obtain rfl : ad490 = ad494 := (by injection e494); replace hx494_0 := (HB.out.cell (World.block_lt_of_cell? w _ hx494_0)).trans hx494_0; replace hx494_1 := (HB.out.cell (World.block_lt_of_cell? w _ hx494_1)).trans hx494_1; replace p494 := eq_true p494; replace q494 := eq_true q494)))
       go_ret2
       exact ⟨by first | rfl | (simp [errW_none, errW_some] <;> rfl) | (simp only [← hji6]; first | rfl | (simp [errW_none, errW_some] <;> rfl)) | (simp [*, errW_none, errW_some] <;> rfl), by repeat first | exact HB.out | apply below_alloc | apply pw_below_drewN | apply below_drew1⟩
     ·rw [if_neg c9] at H
      exact absurd H (by simp)
    ·rw [if_neg c8] at H
     exact absurd H (by simp)
   ·rw [if_neg c7] at H
    exact absurd H (by simp)
  ·rw [if_neg c5] at H
   have c5b0 : decide ((wrap64 (a1 + 1)) < (l0.length : Int)) = false := decide_eq_false c5
   clear c5
   by_cases c13 : 0 ≤ a1
   ·rw [if_pos c13] at H
    have c13b0 : decide (0 ≤ a1) = true := decide_eq_true c13
    clear c13
    by_cases c14 : a1 < (l0.length : Int)
    ·rw [if_pos c14] at H
     have c14b0 : decide (a1 < (l0.length : Int)) = true := decide_eq_true c14
     clear c14
     simp only [Option.some.injEq, Prod.mk.injEq] at H
     obtain ⟨rfl, rfl⟩ := H
     go_enter Try.func20, Try.ntmps20
     go_wp2_with (first | (go_at_call 42; (with_reducible refine (impl_hasPlate.calls k _ _ l0 a1 true _ ?side1 ?side2 A3.out).mono ?_); (case side1 => repeat (first | exact HR0.out | (with_reducible refine Kd.C_alloc ?_ _) | (with_reducible refine Kd.C_drewN ?_ _) | (with_reducible refine Kd.C_drew ?_))); (case side2 => exact HC0.out); rintro e w15 ⟨rfl, hb⟩; replace HB := Aside0.mk (below_step HB.out hb); have p495 : 0 ≤ (a1 : Int) := of_decide_eq_true (by assumption); have q495 : a1 < (l0.length : Int) := of_decide_eq_true (by assumption); obtain ⟨ad495, e495, hx495_0, hx495_1⟩ := at_T26 HR0.out a1 p495 q495; cases e495; replace hx495_0 := (HB.out.cell (World.block_lt_of_cell? w _ hx495_0)).trans hx495_0; replace hx495_1 := (HB.out.cell (World.block_lt_of_cell? w _ hx495_1)).trans hx495_1; replace p495 := eq_true p495; replace q495 := eq_true q495))
     repeat (go_quiet (first | (go_at_call 42; (with_reducible refine (impl_hasPlate.calls k _ _ l0 a1 true _ ?side1 ?side2 A3.out).mono ?_); (case side1 => repeat (first | exact HR0.out | (with_reducible refine Kd.C_alloc ?_ _) | (with_reducible refine Kd.C_drewN ?_ _) | (with_reducible refine Kd.C_drew ?_))); (case side2 => exact HC0.out); rintro e w15 ⟨rfl, hb⟩; replace HB := Aside0.mk (below_step HB.out hb); have p495 : 0 ≤ (a1 : Int) := of_decide_eq_true (by assumption); have q495 : a1 < (l0.length : Int) := of_decide_eq_true (by assumption); obtain ⟨ad495, e495, hx495_0, hx495_1⟩ := at_T26 HR0.out a1 p495 q495; cases e495; replace hx495_0 := (HB.out.cell (World.block_lt_of_cell? w _ hx495_0)).trans hx495_0; replace hx495_1 := (HB.out.cell (World.block_lt_of_cell? w _ hx495_1)).trans hx495_1; replace p495 := eq_true p495; replace q495 := eq_true q495)); try go_wp2_with (first | (go_at_call 42; (with_reducible refine (impl_hasPlate.calls k _ _ l0 a1 true _ ?side1 ?side2 A3.out).mono ?_); (case side1 => repeat (first | exact HR0.out | (with_reducible refine Kd.C_alloc ?_ _) | (with_reducible refine Kd.C_drewN ?_ _) | (with_reducible refine Kd.C_drew ?_))); (case side2 => exact HC0.out); rintro e w15 ⟨rfl, hb⟩; replace HB := Aside0.mk (below_step HB.out hb); have p495 : 0 ≤ (a1 : Int) := of_decide_eq_true (by assumption); have q495 : a1 < (l0.length : Int) := of_decide_eq_true (by assumption); obtain ⟨ad495, e495, hx495_0, hx495_1⟩ := at_T26 HR0.out a1 p495 q495; cases e495; replace hx495_0 := (HB.out.cell (World.block_lt_of_cell? w _ hx495_0)).trans hx495_0; replace hx495_1 := (HB.out.cell (World.block_lt_of_cell? w _ hx495_1)).trans hx495_1; replace p495 := eq_true p495; replace q495 := eq_true q495)))
     go_ret2
     exact ⟨rfl, by repeat first | exact HB.out | apply below_alloc | apply pw_below_drewN | apply below_drew1⟩
    ·rw [if_neg c14] at H
     exact absurd H (by simp)
   ·rw [if_neg c13] at H
    exact absurd H (by simp)
 ·replace c4 := Bool.eq_false_iff.mpr c4
  subst c4
  rw [if_neg (show ¬ (false = true) by decide)] at H
  simp only [Option.some.injEq, Prod.mk.injEq] at H
  obtain ⟨rfl, rfl⟩ := H
  go_enter Try.func20, Try.ntmps20
  go_wp2_with (first | (go_at_call 42; (with_reducible refine (impl_hasPlate.calls k _ _ l0 a1 false _ ?side1 ?side2 A3.out).mono ?_); (case side1 => repeat (first | exact HR0.out | (with_reducible refine Kd.C_alloc ?_ _) | (with_reducible refine Kd.C_drewN ?_ _) | (with_reducible refine Kd.C_drew ?_))); (case side2 => exact HC0.out); rintro e w16 ⟨rfl, hb⟩; replace HB := Aside0.mk (below_step HB.out hb)))
  repeat (go_quiet (first | (go_at_call 42; (with_reducible refine (impl_hasPlate.calls k _ _ l0 a1 false _ ?side1 ?side2 A3.out).mono ?_); (case side1 => repeat (first | exact HR0.out | (with_reducible refine Kd.C_alloc ?_ _) | (with_reducible refine Kd.C_drewN ?_ _) | (with_reducible refine Kd.C_drew ?_))); (case side2 => exact HC0.out); rintro e w16 ⟨rfl, hb⟩; replace HB := Aside0.mk (below_step HB.out hb))); try go_wp2_with (first | (go_at_call 42; (with_reducible refine (impl_hasPlate.calls k _ _ l0 a1 false _ ?side1 ?side2 A3.out).mono ?_); (case side1 => repeat (first | exact HR0.out | (with_reducible refine Kd.C_alloc ?_ _) | (with_reducible refine Kd.C_drewN ?_ _) | (with_reducible refine Kd.C_drew ?_))); (case side2 => exact HC0.out); rintro e w16 ⟨rfl, hb⟩; replace HB := Aside0.mk (below_step HB.out hb))))
  go_ret2
  exact ⟨rfl, HB.out⟩

/-! ### spec_RoomBehind: function 21 -/
def spec_RoomBehind.f (k : Nat) (l0 : List (S26)) (a1 : Int) : Option (Int × Bool) := (spec_isAsked.f k l0 a1).bind fun t496 => (if t496 = true then (if (wrap64 (a1 + 1)) < (l0.length : Int) then (if 0 ≤ (wrap64 (a1 + 1)) then (if 0 ≤ a1 then (if a1 < (l0.length : Int) then (if ((rd_T26 l0 (wrap64 (a1 + 1))).f0) = ((rd_T26 l0 a1).f0) then (some (wrap64 ((wrap64 (((rd_T26 l0 (wrap64 (a1 + 1))).f1) - ((rd_T26 l0 a1).f1))) - 1), true)) else (some (wrap64 ((wrap64 (27 - ((rd_T26 l0 a1).f1))) - 1), true))) else (none)) else (none)) else (none)) else (if 0 ≤ a1 then (if a1 < (l0.length : Int) then (some (wrap64 ((wrap64 (27 - ((rd_T26 l0 a1).f1))) - 1), true)) else (none)) else (none))) else (some (0, false)))
set_option maxHeartbeats 8000000 in
set_option maxRecDepth 100000 in
theorem spec_RoomBehind.calls (k : Nat) (A0 : Option Addr) (c0 : Nat) (l0 : List (S26)) (a1 : Int) (r1 : Int) (r2 : Bool) (w : World) (hr0 : Kd.C k26 w A0 l0.length l0) (hc0 : l0.length ≤ c0) (h : spec_RoomBehind.f k l0 a1 = some (r1, r2)) :
  Calls Try.prog 21 #[.slice A0 l0.length c0, .int .i64 a1] w fun e w' => e = .returned (.tuple #[.int .i64 r1, .bool r2]) ∧ Below w.heap.size w w' := by
 have HR0 := Aside0.mk hr0
 have HC0 := Aside0.mk hc0
 clear hr0 hc0
 have HB := Aside0.mk (Below.refl w.heap.size w)
 have H : ((spec_isAsked.f k l0 a1).bind fun t496 => (if t496 = true then (if (wrap64 (a1 + 1)) < (l0.length : Int) then (if 0 ≤ (wrap64 (a1 + 1)) then (if 0 ≤ a1 then (if a1 < (l0.length : Int) then (if ((rd_T26 l0 (wrap64 (a1 + 1))).f0) = ((rd_T26 l0 a1).f0) then (some (wrap64 ((wrap64 (((rd_T26 l0 (wrap64 (a1 + 1))).f1) - ((rd_T26 l0 a1).f1))) - 1), true)) else (some (wrap64 ((wrap64 (27 - ((rd_T26 l0 a1).f1))) - 1), true))) else (none)) else (none)) else (none)) else (if 0 ≤ a1 then (if a1 < (l0.length : Int) then (some (wrap64 ((wrap64 (27 - ((rd_T26 l0 a1).f1))) - 1), true)) else (none)) else (none))) else (some (0, false)))) = some (r1, r2) := h
 clear h
 replace H := Option.bind_eq_some_iff.mp H
 obtain ⟨t496, A30, H⟩ := H
 replace H : (if t496 = true then (if (wrap64 (a1 + 1)) < (l0.length : Int) then (if 0 ≤ (wrap64 (a1 + 1)) then (if 0 ≤ a1 then (if a1 < (l0.length : Int) then (if ((rd_T26 l0 (wrap64 (a1 + 1))).f0) = ((rd_T26 l0 a1).f0) then (some (wrap64 ((wrap64 (((rd_T26 l0 (wrap64 (a1 + 1))).f1) - ((rd_T26 l0 a1).f1))) - 1), true)) else (some (wrap64 ((wrap64 (27 - ((rd_T26 l0 a1).f1))) - 1), true))) else (none)) else (none)) else (none)) else (if 0 ≤ a1 then (if a1 < (l0.length : Int) then (some (wrap64 ((wrap64 (27 - ((rd_T26 l0 a1).f1))) - 1), true)) else (none)) else (none))) else (some (0, false))) = some (r1, r2) := H
 have A3 := Aside0.mk A30
 clear A30
 by_cases c4 : t496 = true
 ·subst c4
  rw [if_pos rfl] at H
  by_cases c5 : (wrap64 (a1 + 1)) < (l0.length : Int)
  ·rw [if_pos c5] at H
   have c5b0 : decide ((wrap64 (a1 + 1)) < (l0.length : Int)) = true := decide_eq_true c5
   clear c5
   obtain ⟨ji6, hji6⟩ : ∃ j_ : Int, (wrap64 (a1 + 1)) = j_ := ⟨_, rfl⟩
   replace H : (if 0 ≤ (ji6) then (if 0 ≤ a1 then (if a1 < (l0.length : Int) then (if ((rd_T26 l0 (ji6)).f0) = ((rd_T26 l0 a1).f0) then (some (wrap64 ((wrap64 (((rd_T26 l0 (ji6)).f1) - ((rd_T26 l0 a1).f1))) - 1), true)) else (some (wrap64 ((wrap64 (27 - ((rd_T26 l0 a1).f1))) - 1), true))) else (none)) else (none)) else (none)) = some (r1, r2) := by first | (rw [hji6] at H; exact H) | (simp only [hji6] at H ⊢; exact H)
   (try rw [hji6] at c5b0)
   (try rw [hji6] at A3)
   have hji6w : (IntKind.i64.wrap (a1 + 1)) = ji6 := (i64_w _).trans hji6
   by_cases c7 : 0 ≤ (ji6)
   ·rw [if_pos c7] at H
    have c7b0 : decide (0 ≤ (ji6)) = true := decide_eq_true c7
    clear c7
    by_cases c8 : 0 ≤ a1
    ·rw [if_pos c8] at H
     have c8b0 : decide (0 ≤ a1) = true := decide_eq_true c8
     clear c8
     by_cases c9 : a1 < (l0.length : Int)
     ·rw [if_pos c9] at H
      have c9b0 : decide (a1 < (l0.length : Int)) = true := decide_eq_true c9
      clear c9
      by_cases c10 : ((rd_T26 l0 (ji6)).f0) = ((rd_T26 l0 a1).f0)
      ·rw [if_pos c10] at H
       have c10b0 : (((rd_T26 l0 (ji6)).f0) == ((rd_T26 l0 a1).f0)) = true := beq_iff_eq.mpr c10
       have c10b1 : (((rd_T26 l0 (ji6)).f0) != ((rd_T26 l0 a1).f0)) = false := bne_eq_false_iff_eq.mpr c10
       clear c10
       simp only [Option.some.injEq, Prod.mk.injEq] at H
       obtain ⟨rfl, rfl⟩ := H
       go_enter Try.func21, Try.ntmps21
       go_wp2_with (first | (go_at_call 51; (with_reducible refine (spec_isAsked.calls k _ _ l0 a1 true _ ?side1 ?side2 A3.out).mono ?_); (case side1 => repeat (first | exact HR0.out | (with_reducible refine Kd.C_alloc ?_ _) | (with_reducible refine Kd.C_drewN ?_ _) | (with_reducible refine Kd.C_drew ?_))); (case side2 => exact HC0.out); rintro e w11 ⟨rfl, hb⟩; replace HB := Aside0.mk (below_step HB.out hb); have p497 : 0 ≤ ((ji6) : Int) := of_decide_eq_true (by assumption); have q497 : (ji6) < (l0.length : Int) := of_decide_eq_true (by assumption); obtain ⟨ad497, e497, hx497_0, hx497_1⟩ := at_T26 HR0.out (ji6) p497 q497; cases e497; replace hx497_0 := (HB.out.cell (World.block_lt_of_cell? w _ hx497_0)).trans hx497_0; replace hx497_1 := (HB.out.cell (World.block_lt_of_cell? w _ hx497_1)).trans hx497_1; replace p497 := eq_true p497; replace q497 := eq_true q497; have p498 : 0 ≤ (a1 : Int) := of_decide_eq_true (by assumption); have q498 : a1 < (l0.length : Int) := of_decide_eq_true (by assumption); obtain ⟨ad498, e498, hx498_0, hx498_1⟩ := at_T26 HR0.out a1 p498 q498; obtain rfl : ad497 = ad498 := (by injection e498); replace hx498_0 := (HB.out.cell (World.block_lt_of_cell? w _ hx498_0)).trans hx498_0; replace hx498_1 := (HB.out.cell (World.block_lt_of_cell? w _ hx498_1)).trans hx498_1; replace p498 := eq_true p498; replace q498 := eq_true q498; have p499 : 0 ≤ ((ji6) : Int) := of_decide_eq_true (by assumption); have q499 : (ji6) < (l0.length : Int) := of_decide_eq_true (by assumption); obtain ⟨ad499, e499, hx499_0, hx499_1⟩ := at_T26 HR0.out (ji6) p499 q499; obtain rfl : ad497 = ad499 := (by injection e499); replace hx499_0 := (HB.out.cell (World.block_lt_of_cell? w _ hx499_0)).trans hx499_0; replace hx499_1 := (HB.out.cell (World.block_lt_of_cell? w _ hx499_1)).trans hx499_1; replace p499 := eq_true p499; replace q499 := eq_true q499; have p500 : 0 ≤ (a1 : Int) := of_decide_eq_true (by assumption); have q500 : a1 < (l0.length : Int) := of_decide_eq_true (by assumption); obtain ⟨ad500, e500, hx500_0, hx500_1⟩ := at_T26 HR0.out a1 p500 q500; obtain rfl : ad497 = ad500 := (by injection e500); replace hx500_0 := (HB.out.cell (World.block_lt_of_cell? w _ hx500_0)).trans hx500_0; replace hx500_1 := (HB.out.cell (World.block_lt_of_cell? w _ hx500_1)).trans hx500_1; replace p500 := eq_true p500; replace q500 := eq_true q500))
       repeat (go_quiet (first | (go_at_call 51; (with_reducible refine (spec_isAsked.calls k _ _ l0 a1 true _ ?side1 ?side2 A3.out).mono ?_); (case side1 => repeat (first | exact HR0.out | (with_reducible refine Kd.C_alloc ?_ _) | (with_reducible refine Kd.C_drewN ?_ _) | (with_reducible refine Kd.C_drew ?_))); (case side2 => exact HC0.out); rintro e w11 ⟨rfl, hb⟩; replace HB := Aside0.mk (below_step HB.out hb); have p497 : 0 ≤ ((ji6) : Int) := of_decide_eq_true (by assumption); have q497 : (ji6) < (l0.length : Int) := of_decide_eq_true (by assumption); obtain ⟨ad497, e497, hx497_0, hx497_1⟩ := at_T26 HR0.out (ji6) p497 q497; cases e497; replace hx497_0 := (HB.out.cell (World.block_lt_of_cell? w _ hx497_0)).trans hx497_0; replace hx497_1 := (HB.out.cell (World.block_lt_of_cell? w _ hx497_1)).trans hx497_1; replace p497 := eq_true p497; replace q497 := eq_true q497; have p498 : 0 ≤ (a1 : Int) := of_decide_eq_true (by assumption); have q498 : a1 < (l0.length : Int) := of_decide_eq_true (by assumption); obtain ⟨ad498, e498, hx498_0, hx498_1⟩ := at_T26 HR0.out a1 p498 q498; obtain rfl : ad497 = ad498 := (by injection e498); replace hx498_0 := (HB.out.cell (World.block_lt_of_cell? w _ hx498_0)).trans hx498_0; replace hx498_1 := (HB.out.cell (World.block_lt_of_cell? w _ hx498_1)).trans hx498_1; replace p498 := eq_true p498; replace q498 := eq_true q498; have p499 : 0 ≤ ((ji6) : Int) := of_decide_eq_true (by assumption); have q499 : (ji6) < (l0.length : Int) := of_decide_eq_true (by assumption); obtain ⟨ad499, e499, hx499_0, hx499_1⟩ := at_T26 HR0.out (ji6) p499 q499; obtain rfl : ad497 = ad499 := (by injection e499); replace hx499_0 := (HB.out.cell (World.block_lt_of_cell? w _ hx499_0)).trans hx499_0; replace hx499_1 := (HB.out.cell (World.block_lt_of_cell? w _ hx499_1)).trans hx499_1; replace p499 := eq_true p499; replace q499 := eq_true q499; have p500 : 0 ≤ (a1 : Int) := of_decide_eq_true (by assumption); have q500 : a1 < (l0.length : Int) := of_decide_eq_true (by assumption); obtain ⟨ad500, e500, hx500_0, hx500_1⟩ := at_T26 HR0.out a1 p500 q500; obtain rfl : ad497 = ad500 := (by injection e500); replace hx500_0 := (HB.out.cell (World.block_lt_of_cell? w _ hx500_0)).trans hx500_0; replace hx500_1 := (HB.out.cell (World.block_lt_of_cell? w _ hx500_1)).trans hx500_1; replace p500 := eq_true p500; replace q500 := eq_true q500)); try go_wp2_with (first | (go_at_call 51; (with_reducible refine (spec_isAsked.calls k _ _ l0 a1 true _ ?side1 ?side2 A3.out).mono ?_); (case side1 => repeat (first | exact HR0.out | (with_reducible refine Kd.C_alloc ?_ _) | (with_reducible refine Kd.C_drewN ?_ _) | (with_reducible refine Kd.C_drew ?_))); (case side2 => exact HC0.out); rintro e w11 ⟨rfl, hb⟩; replace HB := Aside0.mk (below_step HB.out hb); have p497 : 0 ≤ ((ji6) : Int) := of_decide_eq_true (by assumption); have q497 : (ji6) < (l0.length : Int) := of_decide_eq_true (by assumption); obtain ⟨ad497, e497, hx497_0, hx497_1⟩ := at_T26 HR0.out (ji6) p497 q497; cases e497; replace hx497_0 := (HB.out.cell (World.block_lt_of_cell? w _ hx497_0)).trans hx497_0; replace hx497_1 := (HB.out.cell (World.block_lt_of_cell? w _ hx497_1)).trans hx497_1; replace p497 := eq_true p497; replace q497 := eq_true q497; have p498 : 0 ≤ (a1 : Int) := of_decide_eq_true (by assumption); have q498 : a1 < (l0.length : Int) := of_decide_eq_true (by assumption); obtain ⟨ad498, e498, hx498_0, hx498_1⟩ := at_T26 HR0.out a1 p498 q498; obtain rfl : ad497 = ad498 := (by injection e498); replace hx498_0 := (HB.out.cell (World.block_lt_of_cell? w _ hx498_0)).trans hx498_0; replace hx498_1 := (HB.out.cell (World.block_lt_of_cell? w _ hx498_1)).trans hx498_1; replace p498 := eq_true p498; replace q498 := eq_true q498; have p499 : 0 ≤ ((ji6) : Int) := of_decide_eq_true (by assumption); have q499 : (ji6) < (l0.length : Int) := of_decide_eq_true (by assumption); obtain ⟨ad499, e499, hx499_0, hx499_1⟩ := at_T26 HR0.out (ji6) p499 q499; obtain rfl : ad497 = ad499 := (by injection e499); replace hx499_0 := (HB.out.cell (World.block_lt_of_cell? w _ hx499_0)).trans hx499_0; replace hx499_1 := (HB.out.cell (World.block_lt_of_cell? w _ hx499_1)).trans hx499_1; replace p499 := eq_true p499; replace q499 := eq_true q499; have p500 : 0 ≤ (a1 : Int) := of_decide_eq_true (by assumption); have q500 : a1 < (l0.length : Int) := of_decide_eq_true (by assumption); obtain ⟨ad500, e500, hx500_0, hx500_1⟩ := at_T26 HR0.out a1 p500 q500; obtain rfl : ad497 = ad500 := (by injection e500); replace hx500_0 := (HB.out.cell (World.block_lt_of_cell? w _ hx500_0)).trans hx500_0; replace hx500_1 := (HB.out.cell (World.block_lt_of_cell? w _ hx500_1)).trans hx500_1; replace p500 := eq_true p500; replace q500 := eq_true q500)))
       go_ret2
       exact ⟨by first | rfl | (simp [errW_none, errW_some] <;> rfl) | (simp only [← hji6]; first | rfl | (simp [errW_none, errW_some] <;> rfl)) | (simp [*, errW_none, errW_some] <;> rfl), by repeat first | exact HB.out | apply below_alloc | apply pw_below_drewN | apply below_drew1⟩
      ·rw [if_neg c10] at H
       have c10b0 : (((rd_T26 l0 (ji6)).f0) == ((rd_T26 l0 a1).f0)) = false := beq_eq_false_iff_ne.mpr c10
       have c10b1 : (((rd_T26 l0 (ji6)).f0) != ((rd_T26 l0 a1).f0)) = true := bne_iff_ne.mpr c10
       simp only [Option.some.injEq, Prod.mk.injEq] at H
       obtain ⟨rfl, rfl⟩ := H
       go_enter Try.func21, Try.ntmps21
       go_wp2_with (first | (go_at_call 51; (with_reducible refine (spec_isAsked.calls k _ _ l0 a1 true _ ?side1 ?side2 A3.out).mono ?_); (case side1 => repeat (first | exact HR0.out | (with_reducible refine Kd.C_alloc ?_ _) | (with_reducible refine Kd.C_drewN ?_ _) | (with_reducible refine Kd.C_drew ?_))); (case side2 => exact HC0.out); rintro e w12 ⟨rfl, hb⟩; replace HB := Aside0.mk (below_step HB.out hb); have p497 : 0 ≤ ((ji6) : Int) := of_decide_eq_true (by assumption); have q497 : (ji6) < (l0.length : Int) := of_decide_eq_true (by assumption); obtain ⟨ad497, e497, hx497_0, hx497_1⟩ := at_T26 HR0.out (ji6) p497 q497; cases e497; replace hx497_0 := (HB.out.cell (World.block_lt_of_cell? w _ hx497_0)).trans hx497_0; replace hx497_1 := (HB.out.cell (World.block_lt_of_cell? w _ hx497_1)).trans hx497_1; replace p497 := eq_true p497; replace q497 := eq_true q497; have p498 : 0 ≤ (a1 : Int) := of_decide_eq_true (by assumption); have q498 : a1 < (l0.length : Int) := of_decide_eq_true (by assumption); obtain ⟨ad498, e498, hx498_0, hx498_1⟩ := at_T26 HR0.out a1 p498 q498; obtain rfl : ad497 = ad498 := (by injection e498); replace hx498_0 := (HB.out.cell (World.block_lt_of_cell? w _ hx498_0)).trans hx498_0; replace hx498_1 := (HB.out.cell (World.block_lt_of_cell? w _ hx498_1)).trans hx498_1; replace p498 := eq_true p498; replace q498 := eq_true q498; have p501 : 0 ≤ (a1 : Int) := of_decide_eq_true (by assumption); have q501 : a1 < (l0.length : Int) := of_decide_eq_true (by assumption); obtain ⟨ad501, e501, hx501_0, hx501_1⟩ := at_T26 HR0.out a1 p501 q501; obtain rfl : ad497 = ad501 := (by injection e501); replace hx501_0 := (HB.out.cell (World.block_lt_of_cell? w _ hx501_0)).trans hx501_0; replace hx501_1 := (HB.out.cell (World.block_lt_of_cell? w _ hx501_1)).trans hx501_1; replace p501 := eq_true p501; replace q501 := eq_true q501))
       repeat (go_quiet (first | (go_at_call 51; (with_reducible refine (spec_isAsked.calls k _ _ l0 a1 true _ ?side1 ?side2 A3.out).mono ?_); (case side1 => repeat (first | exact HR0.out | (with_reducible refine Kd.C_alloc ?_ _) | (with_reducible refine Kd.C_drewN ?_ _) | (with_reducible refine Kd.C_drew ?_))); (case side2 => exact HC0.out); rintro e w12 ⟨rfl, hb⟩; replace HB := Aside0.mk (below_step HB.out hb); have p497 : 0 ≤ ((ji6) : Int) := of_decide_eq_true (by assumption); have q497 : (ji6) < (l0.length : Int) := of_decide_eq_true (by assumption); obtain ⟨ad497, e497, hx497_0, hx497_1⟩ := at_T26 HR0.out (ji6) p497 q497; cases e497; replace hx497_0 := (HB.out.cell (World.block_lt_of_cell? w _ hx497_0)).trans hx497_0; replace hx497_1 := (HB.out.cell (World.block_lt_of_cell? w _ hx497_1)).trans hx497_1; replace p497 := eq_true p497; replace q497 := eq_true q497; have p498 : 0 ≤ (a1 : Int) := of_decide_eq_true (by assumption); have q498 : a1 < (l0.length : Int) := of_decide_eq_true (by assumption); obtain ⟨ad498, e498, hx498_0, hx498_1⟩ := at_T26 HR0.out a1 p498 q498; obtain rfl : ad497 = ad498 := (by injection e498); replace hx498_0 := (HB.out.cell (World.block_lt_of_cell? w _ hx498_0)).trans hx498_0; replace hx498_1 := (HB.out.cell (World.block_lt_of_cell? w _ hx498_1)).trans hx498_1; replace p498 := eq_true p498; replace q498 := eq_true q498; have p501 : 0 ≤ (a1 : Int) := of_decide_eq_true (by assumption); have q501 : a1 < (l0.length : Int) := of_decide_eq_true (by assumption); obtain ⟨ad501, e501, hx501_0, hx501_1⟩ := at_T26 HR0.out a1 p501 q501; obtain rfl : ad497 = ad501 := (by injection e501); replace hx501_0 := (HB.out.cell (World.block_lt_of_cell? w _ hx501_0)).trans hx501_0; replace hx501_1 := (HB.out.cell (World.block_lt_of_cell? w _ hx501_1)).trans hx501_1; replace p501 := eq_true p501; replace q501 := eq_true q501)); try go_wp2_with (first | (go_at_call 51; (with_reducible refine (spec_isAsked.calls k _ _ l0 a1 true _ ?side1 ?side2 A3.out).mono ?_); (case side1 => repeat (first | exact HR0.out | (with_reducible refine Kd.C_alloc ?_ _) | (with_reducible refine Kd.C_drewN ?_ _) | (with_reducible refine Kd.C_drew ?_))); (case side2 => exact HC0.out); rintro e w12 ⟨rfl, hb⟩; replace HB := Aside0.mk (below_step HB.out hb); have p497 : 0 ≤ ((ji6) : Int) := of_decide_eq_true (by assumption); have q497 : (ji6) < (l0.length : Int) := of_decide_eq_true (by assumption); obtain ⟨ad497, e497, hx497_0, hx497_1⟩ := at_T26 HR0.out (ji6) p497 q497; cases e497; replace hx497_0 := (HB.out.cell (World.block_lt_of_cell? w _ hx497_0)).trans hx497_0; replace hx497_1 := (HB.out.cell (World.block_lt_of_cell? w _ hx497_1)).trans hx497_1; replace p497 := eq_true p497; replace q497 := eq_true q497; have p498 : 0 ≤ (a1 : Int) := of_decide_eq_true (by assumption); have q498 : a1 < (l0.length : Int) := of_decide_eq_true (by assumption); obtain ⟨ad498, e498, hx498_0, hx498_1⟩ := at_T26 HR0.out a1 p498 q498; obtain rfl : ad497 = ad498 := (by injection e498); replace hx498_0 := (HB.out.cell (World.block_lt_of_cell? w _ hx498_0)).trans hx498_0; replace hx498_1 := (HB.out.cell (World.block_lt_of_cell? w _ hx498_1)).trans hx498_1; replace p498 := eq_true p498; replace q498 := eq_true q498; have p501 : 0 ≤ (a1 : Int) := of_decide_eq_true (by assumption); have q501 : a1 < (l0.length : Int) := of_decide_eq_true (by assumption); obtain ⟨ad501, e501, hx501_0, hx501_1⟩ := at_T26 HR0.out a1 p501 q501; obtain rfl : ad497 = ad501 := (by injection e501); replace hx501_0 := (HB.out.cell (World.block_lt_of_cell? w _ hx501_0)).trans hx501_0; replace hx501_1 := (HB.out.cell (World.block_lt_of_cell? w _ hx501_1)).trans hx501_1; replace p501 := eq_true p501; replace q501 := eq_true q501)))
       go_ret2
       exact ⟨by first | rfl | (simp [errW_none, errW_some] <;> rfl) | (simp only [← hji6]; first | rfl | (simp [errW_none, errW_some] <;> rfl)) | (simp [*, errW_none, errW_some] <;> rfl), by repeat first | exact HB.out | apply below_alloc | apply pw_below_drewN | apply below_drew1⟩
     ·rw [if_neg c9] at H
      exact absurd H (by simp)
    ·rw [if_neg c8] at H
     exact absurd H (by simp)
   ·rw [if_neg c7] at H
    exact absurd H (by simp)
  ·rw [if_neg c5] at H
   have c5b0 : decide ((wrap64 (a1 + 1)) < (l0.length : Int)) = false := decide_eq_false c5
   clear c5
   by_cases c13 : 0 ≤ a1
   ·rw [if_pos c13] at H
    have c13b0 : decide (0 ≤ a1) = true := decide_eq_true c13
    clear c13
    by_cases c14 : a1 < (l0.length : Int)
    ·rw [if_pos c14] at H
     have c14b0 : decide (a1 < (l0.length : Int)) = true := decide_eq_true c14
     clear c14
     simp only [Option.some.injEq, Prod.mk.injEq] at H
     obtain ⟨rfl, rfl⟩ := H
     go_enter Try.func21, Try.ntmps21
     go_wp2_with (first | (go_at_call 51; (with_reducible refine (spec_isAsked.calls k _ _ l0 a1 true _ ?side1 ?side2 A3.out).mono ?_); (case side1 => repeat (first | exact HR0.out | (with_reducible refine Kd.C_alloc ?_ _) | (with_reducible refine Kd.C_drewN ?_ _) | (with_reducible refine Kd.C_drew ?_))); (case side2 => exact HC0.out); rintro e w15 ⟨rfl, hb⟩; replace HB := Aside0.mk (below_step HB.out hb); have p502 : 0 ≤ (a1 : Int) := of_decide_eq_true (by assumption); have q502 : a1 < (l0.length : Int) := of_decide_eq_true (by assumption); obtain ⟨ad502, e502, hx502_0, hx502_1⟩ := at_T26 HR0.out a1 p502 q502; cases e502; replace hx502_0 := (HB.out.cell (World.block_lt_of_cell? w _ hx502_0)).trans hx502_0; replace hx502_1 := (HB.out.cell (World.block_lt_of_cell? w _ hx502_1)).trans hx502_1; replace p502 := eq_true p502; replace q502 := eq_true q502))
     repeat (go_quiet (first | (go_at_call 51; (with_reducible refine (spec_isAsked.calls k _ _ l0 a1 true _ ?side1 ?side2 A3.out).mono ?_); (case side1 => repeat (first | exact HR0.out | (with_reducible refine Kd.C_alloc ?_ _) | (with_reducible refine Kd.C_drewN ?_ _) | (with_reducible refine Kd.C_drew ?_))); (case side2 => exact HC0.out); rintro e w15 ⟨rfl, hb⟩; replace HB := Aside0.mk (below_step HB.out hb); have p502 : 0 ≤ (a1 : Int) := of_decide_eq_true (by assumption); have q502 : a1 < (l0.length : Int) := of_decide_eq_true (by assumption); obtain ⟨ad502, e502, hx502_0, hx502_1⟩ := at_T26 HR0.out a1 p502 q502; cases e502; replace hx502_0 := (HB.out.cell (World.block_lt_of_cell? w _ hx502_0)).trans hx502_0; replace hx502_1 := (HB.out.cell (World.block_lt_of_cell? w _ hx502_1)).trans hx502_1; replace p502 := eq_true p502; replace q502 := eq_true q502)); try go_wp2_with (first | (go_at_call 51; (with_reducible refine (spec_isAsked.calls k _ _ l0 a1 true _ ?side1 ?side2 A3.out).mono ?_); (case side1 => repeat (first | exact HR0.out | (with_reducible refine Kd.C_alloc ?_ _) | (with_reducible refine Kd.C_drewN ?_ _) | (with_reducible refine Kd.C_drew ?_))); (case side2 => exact HC0.out); rintro e w15 ⟨rfl, hb⟩; replace HB := Aside0.mk (below_step HB.out hb); have p502 : 0 ≤ (a1 : Int) := of_decide_eq_true (by assumption); have q502 : a1 < (l0.length : Int) := of_decide_eq_true (by assumption); obtain ⟨ad502, e502, hx502_0, hx502_1⟩ := at_T26 HR0.out a1 p502 q502; cases e502; replace hx502_0 := (HB.out.cell (World.block_lt_of_cell? w _ hx502_0)).trans hx502_0; replace hx502_1 := (HB.out.cell (World.block_lt_of_cell? w _ hx502_1)).trans hx502_1; replace p502 := eq_true p502; replace q502 := eq_true q502)))
     go_ret2
     exact ⟨rfl, by repeat first | exact HB.out | apply below_alloc | apply pw_below_drewN | apply below_drew1⟩
    ·rw [if_neg c14] at H
     exact absurd H (by simp)
   ·rw [if_neg c13] at H
    exact absurd H (by simp)
 ·replace c4 := Bool.eq_false_iff.mpr c4
  subst c4
  rw [if_neg (show ¬ (false = true) by decide)] at H
  simp only [Option.some.injEq, Prod.mk.injEq] at H
  obtain ⟨rfl, rfl⟩ := H
  go_enter Try.func21, Try.ntmps21
  go_wp2_with (first | (go_at_call 51; (with_reducible refine (spec_isAsked.calls k _ _ l0 a1 false _ ?side1 ?side2 A3.out).mono ?_); (case side1 => repeat (first | exact HR0.out | (with_reducible refine Kd.C_alloc ?_ _) | (with_reducible refine Kd.C_drewN ?_ _) | (with_reducible refine Kd.C_drew ?_))); (case side2 => exact HC0.out); rintro e w16 ⟨rfl, hb⟩; replace HB := Aside0.mk (below_step HB.out hb)))
  repeat (go_quiet (first | (go_at_call 51; (with_reducible refine (spec_isAsked.calls k _ _ l0 a1 false _ ?side1 ?side2 A3.out).mono ?_); (case side1 => repeat (first | exact HR0.out | (with_reducible refine Kd.C_alloc ?_ _) | (with_reducible refine Kd.C_drewN ?_ _) | (with_reducible refine Kd.C_drew ?_))); (case side2 => exact HC0.out); rintro e w16 ⟨rfl, hb⟩; replace HB := Aside0.mk (below_step HB.out hb))); try go_wp2_with (first | (go_at_call 51; (with_reducible refine (spec_isAsked.calls k _ _ l0 a1 false _ ?side1 ?side2 A3.out).mono ?_); (case side1 => repeat (first | exact HR0.out | (with_reducible refine Kd.C_alloc ?_ _) | (with_reducible refine Kd.C_drewN ?_ _) | (with_reducible refine Kd.C_drew ?_))); (case side2 => exact HC0.out); rintro e w16 ⟨rfl, hb⟩; replace HB := Aside0.mk (below_step HB.out hb))))
  go_ret2
  exact ⟨rfl, HB.out⟩

/-! ### spec_DropPlate: function 22 -/
def spec_DropPlate.f (k : Nat) (l0 : List (S26)) (a1 : Int) : Option ((List (S26)) × Bool) := (spec_isAsked.f k l0 a1).bind fun t503 => (if t503 = true then (if (l0.length : Int) = 1 then (some (([] : List (S26)), false)) else ((some (([] : List (S26)) : List (S26))).bind fun y504 => (if 0 ≤ a1 then (if a1 ≤ (l0.length : Int) then ((some (l0.take (a1 : Int).toNat : List (S26))).bind fun y507 => (if y504.length + y507.length < 8796093022208 then ((some (y504 ++ y507 : List (S26))).bind fun y511 => (if 0 ≤ (wrap64 (a1 + 1)) then (if (wrap64 (a1 + 1)) ≤ (l0.length : Int) then ((some (l0.drop ((wrap64 (a1 + 1)) : Int).toNat : List (S26))).bind fun y514 => (if y511.length + y514.length < 8796093022208 then (some ((y511 ++ y514), true)) else (none))) else (none)) else (none))) else (none))) else (none)) else (none)))) else (some (([] : List (S26)), false)))
def spec_DropPlate.T3 : Bool × List (List Nat × List Nat) := (true, [([], []), ([], []), ([], []), ([1, 2], [1, 2]), ([0, 3], [0, 3]), ([], []), ([], []), ([6], [6]), ([5, 7], [5, 7]), ([4, 8, 4], [4, 8]), ([9, 9, 0, 1, 2, 3, 4, 5, 6, 7, 8, 9], [9]), ([10, 0, 1, 2, 3, 4, 5, 6, 7, 8, 9, 10], [])])
def spec_DropPlate.B3 : List Nat := [0, 0, 0, 6, 15, 0, 0, 64, 224, 511, 1023, 2047]
theorem spec_DropPlate.tab3 : rtab .any (opsOf Try.f22 3) = spec_DropPlate.T3 := by kernel_rfl
theorem spec_DropPlate.bits3 : waitsOk spec_DropPlate.T3.2 spec_DropPlate.B3 = true := by kernel_rfl
set_option maxHeartbeats 8000000 in
set_option maxRecDepth 100000 in
theorem spec_DropPlate.calls (k : Nat) (A0 : Option Addr) (c0 : Nat) (l0 : List (S26)) (a1 : Int) (r1 : List (S26)) (r2 : Bool) (w : World) (hr0 : Kd.C k26 w A0 l0.length l0) (hc0 : l0.length ≤ c0) (h : spec_DropPlate.f k l0 a1 = some (r1, r2)) :
  Calls Try.prog 22 #[.slice A0 l0.length c0, .int .i64 a1] w fun e w' => ∃ v0_ : Value, e = .returned (.tuple #[v0_, .bool r2]) ∧ Kd.R k26 26 w' w.heap.size (fun _ => True) v0_ r1 ∧ Below w.heap.size w w' := by
 have HR0 := Aside0.mk hr0
 have HC0 := Aside0.mk hc0
 clear hr0 hc0
 have HB := Aside0.mk (Below.refl w.heap.size w)
 have H : ((spec_isAsked.f k l0 a1).bind fun t503 => (if t503 = true then (if (l0.length : Int) = 1 then (some (([] : List (S26)), false)) else ((some (([] : List (S26)) : List (S26))).bind fun y504 => (if 0 ≤ a1 then (if a1 ≤ (l0.length : Int) then ((some (l0.take (a1 : Int).toNat : List (S26))).bind fun y507 => (if y504.length + y507.length < 8796093022208 then ((some (y504 ++ y507 : List (S26))).bind fun y511 => (if 0 ≤ (wrap64 (a1 + 1)) then (if (wrap64 (a1 + 1)) ≤ (l0.length : Int) then ((some (l0.drop ((wrap64 (a1 + 1)) : Int).toNat : List (S26))).bind fun y514 => (if y511.length + y514.length < 8796093022208 then (some ((y511 ++ y514), true)) else (none))) else (none)) else (none))) else (none))) else (none)) else (none)))) else (some (([] : List (S26)), false)))) = some (r1, r2) := h
 clear h
 replace H := Option.bind_eq_some_iff.mp H
 obtain ⟨t503, A30, H⟩ := H

 have A3 := Aside0.mk A30
 clear A30
 by_cases c4 : t503 = true
 ·subst c4
  rw [if_pos rfl] at H
  by_cases c5 : (l0.length : Int) = 1
  ·rw [if_pos c5] at H
   have c5b0 : ((l0.length : Int) == 1) = true := beq_iff_eq.mpr c5
   have c5b1 : ((l0.length : Int) != 1) = false := bne_eq_false_iff_eq.mpr c5
   clear c5
   simp only [Option.some.injEq, Prod.mk.injEq] at H
   obtain ⟨rfl, rfl⟩ := H
   go_enter Try.func22, Try.ntmps22
   go_wp2_with (first | ((with_reducible refine gate_callee (f := 51) rfl ?_); refine goesL_ (some 8) rfl rfl Try.func51 (by kernel_rfl) rfl #[.slice A0 l0.length c0, .int .i64 a1] rfl (by (try simp only [List.map_toArray, List.map_cons, List.map_nil]); first | done | rfl | (simp only [List.length_drop, List.length_take]; rfl)) ?_; (with_reducible refine (spec_isAsked.calls k _ _ l0 a1 true _ ?side1 ?side2 A3.out).mono ?_); (case side1 => exact HR0.out); (case side2 => exact HC0.out); rintro e w6 ⟨rfl, hb⟩; refine ⟨_, rfl, ?_⟩; replace HB := Aside0.mk (below_step (by repeat first | exact HB.out | apply below_alloc | apply pw_below_drewN | apply below_drew1) hb)))
   go_ret2
   exact ⟨_, rfl, Kd.R_nil _ _ _ _ _, HB.out⟩
  ·rw [if_neg c5] at H
   have c5b0 : ((l0.length : Int) == 1) = false := beq_eq_false_iff_ne.mpr c5
   have c5b1 : ((l0.length : Int) != 1) = true := bne_iff_ne.mpr c5
   obtain ⟨y504, hy504⟩ : ∃ y_ : List (S26), y_ = (([] : List (S26))) := ⟨_, rfl⟩
   replace H : (if 0 ≤ a1 then (if a1 ≤ (l0.length : Int) then ((some (l0.take (a1 : Int).toNat : List (S26))).bind fun y507 => (if y504.length + y507.length < 8796093022208 then ((some (y504 ++ y507 : List (S26))).bind fun y511 => (if 0 ≤ (wrap64 (a1 + 1)) then (if (wrap64 (a1 + 1)) ≤ (l0.length : Int) then ((some (l0.drop ((wrap64 (a1 + 1)) : Int).toNat : List (S26))).bind fun y514 => (if y511.length + y514.length < 8796093022208 then (some ((y511 ++ y514), true)) else (none))) else (none)) else (none))) else (none))) else (none)) else (none)) = some (r1, r2) := by first | (rw [hy504]; with_reducible exact H) | (have H2_ := (Option.bind_some _ _).symm.trans H; rw [hy504]; with_reducible exact H2_) | (have H2_ := (Option.bind_some _ _).symm.trans H; with_reducible exact H2_) | with_reducible exact H | (rw [hy504]; exact H) | exact H
   have Ny504 := Aside0.mk hy504
   clear hy504
   by_cases c7 : 0 ≤ a1
   ·rw [if_pos c7] at H
    have c7b0 := eq_true c7
    have c7b1 : decide (0 ≤ a1) = true := decide_eq_true c7
    clear c7
    by_cases c8 : a1 ≤ (l0.length : Int)
    ·rw [if_pos c8] at H
     have c8b0 := eq_true c8
     have c8b1 : decide (a1 ≤ (l0.length : Int)) = true := decide_eq_true c8
     clear c8
     obtain ⟨y507, hy507⟩ : ∃ y_ : List (S26), y_ = (l0.take (a1 : Int).toNat) := ⟨_, rfl⟩
     replace H : (if y504.length + y507.length < 8796093022208 then ((some (y504 ++ y507 : List (S26))).bind fun y511 => (if 0 ≤ (wrap64 (a1 + 1)) then (if (wrap64 (a1 + 1)) ≤ (l0.length : Int) then ((some (l0.drop ((wrap64 (a1 + 1)) : Int).toNat : List (S26))).bind fun y514 => (if y511.length + y514.length < 8796093022208 then (some ((y511 ++ y514), true)) else (none))) else (none)) else (none))) else (none)) = some (r1, r2) := by first | (rw [hy507]; with_reducible exact H) | (have H2_ := (Option.bind_some _ _).symm.trans H; rw [hy507]; with_reducible exact H2_) | (have H2_ := (Option.bind_some _ _).symm.trans H; with_reducible exact H2_) | with_reducible exact H | (rw [hy507]; exact H) | exact H
     have Ny507 := Aside0.mk hy507
     clear hy507
     by_cases c9 : y504.length + y507.length < 8796093022208
     ·rw [if_pos c9] at H
      have LMc9 := Aside0.mk c9
      clear c9
      obtain ⟨y511, hy511⟩ : ∃ y_ : List (S26), y_ = (y504 ++ y507) := ⟨_, rfl⟩
      rw [← hy511] at H
      have Ny511 := Aside0.mk hy511
      clear hy511
      obtain ⟨ji10, hji10⟩ : ∃ j_ : Int, (wrap64 (a1 + 1)) = j_ := ⟨_, rfl⟩
      replace H : (if 0 ≤ (ji10) then (if (ji10) ≤ (l0.length : Int) then ((some (l0.drop ((ji10) : Int).toNat : List (S26))).bind fun y514 => (if y511.length + y514.length < 8796093022208 then (some ((y511 ++ y514), true)) else (none))) else (none)) else (none)) = some (r1, r2) := by first | (rw [hji10] at H; exact H) | (simp only [hji10] at H ⊢; exact H)
      (try rw [hji10] at A3)
      have hji10w : (IntKind.i64.wrap (a1 + 1)) = ji10 := (i64_w _).trans hji10
      by_cases c11 : 0 ≤ (ji10)
      ·rw [if_pos c11] at H
       have c11b0 := eq_true c11
       have c11b1 : decide (0 ≤ (ji10)) = true := decide_eq_true c11
       clear c11
       by_cases c12 : (ji10) ≤ (l0.length : Int)
       ·rw [if_pos c12] at H
        have c12b0 := eq_true c12
        have c12b1 : decide ((ji10) ≤ (l0.length : Int)) = true := decide_eq_true c12
        clear c12
        obtain ⟨y514, hy514⟩ : ∃ y_ : List (S26), y_ = (l0.drop ((ji10) : Int).toNat) := ⟨_, rfl⟩
        replace H : (if y511.length + y514.length < 8796093022208 then (some ((y511 ++ y514), true)) else (none)) = some (r1, r2) := by first | (rw [hy514]; with_reducible exact H) | (have H2_ := (Option.bind_some _ _).symm.trans H; rw [hy514]; with_reducible exact H2_) | (have H2_ := (Option.bind_some _ _).symm.trans H; with_reducible exact H2_) | with_reducible exact H | (rw [hy514]; exact H) | exact H
        have Ny514 := Aside0.mk hy514
        clear hy514
        by_cases c13 : y511.length + y514.length < 8796093022208
        ·rw [if_pos c13] at H
         have LMc13 := Aside0.mk c13
         clear c13
         obtain ⟨y518, hy518⟩ : ∃ y_ : List (S26), y_ = (y511 ++ y514) := ⟨_, rfl⟩
         rw [← hy518] at H
         have Ny518 := Aside0.mk hy518
         clear hy518
         simp only [Option.some.injEq, Prod.mk.injEq] at H
         obtain ⟨rfl, rfl⟩ := H
         go_enter Try.func22, Try.ntmps22
         try go_wp2_with (first | ((with_reducible refine gate_callee (f := 51) rfl ?_); refine goesL_ (some 8) rfl rfl Try.func51 (by kernel_rfl) rfl #[.slice A0 l0.length c0, .int .i64 a1] rfl (by (try simp only [List.map_toArray, List.map_cons, List.map_nil]); first | done | rfl | (simp only [List.length_drop, List.length_take]; rfl)) ?_; (with_reducible refine (spec_isAsked.calls k _ _ l0 a1 true _ ?side1 ?side2 A3.out).mono ?_); (case side1 => exact HR0.out); (case side2 => exact HC0.out); rintro e w14 ⟨rfl, hb⟩; refine ⟨_, rfl, ?_⟩; replace HB := Aside0.mk (below_step (by repeat first | exact HB.out | apply below_alloc | apply pw_below_drewN | apply below_drew1) hb)))
         replace HB := Aside0.mk (below_drew1 HB.out)
         have q16 : (a1 : Int) ≤ ((l0.length : Int) : Int) := of_decide_eq_true (by assumption)
         obtain ⟨i016, hi016, _, hsz16, _⟩ := info_parts info26
         have hroom16 : l0.length ≤ c0 := HC0.out
         have hC16 : Kd.C k26 _ A0 l0.length l0 := HR0.out
         have hcut16 := cut_to (P := Try.prog) 24 26 .i64 Try.underlying24 hi016 A0 l0.length c0 a1 (of_decide_eq_true (by assumption)) q16 hroom16
         have hr16 := Kd.C_take (m := (a1 : Int).toNat) hC16 (by omega)
         have hy16 : y507.length = (a1 : Int).toNat := (by rw [Ny507.out, List.length_take]; omega)
         rw [← Ny507.out] at hr16
         rw [← hy16] at hcut16
         have HR510 := Aside0.mk hr16
         have HC510 := Aside0.mk (show y507.length ≤ c0 from by omega)
         clear hr16 hC16 hroom16 hi016 hsz16
         have KY16 := Aside0.mk hy16
         clear hy16
         replace q16 := eq_true q16
         have q17 : ((ji10) : Int) ≤ ((l0.length : Int) : Int) := of_decide_eq_true (by assumption)
         obtain ⟨i017, hi017, _, hsz17, _⟩ := info_parts info26
         have hroom17 : l0.length ≤ c0 := HC0.out
         have hC17 : Kd.C k26 _ A0 l0.length l0 := HR0.out
         have q017 : (0 : Int) ≤ ((ji10) : Int) := of_decide_eq_true (by assumption)
         have hcut17 := cut_from (P := Try.prog) 24 26 .i64 Try.underlying24 hi017 2 hsz17 A0 l0.length c0 (ji10) q017 q17
         have hr17 := Kd.C_drop (m := ((ji10) : Int).toNat) (c := c0) hC17 (by omega) hroom17
         obtain ⟨A17, hA17⟩ : ∃ A1, A1 = (if c0 = ((ji10) : Int).toNat then A0 else (A0 : Option Addr).map (·.add (((ji10) : Int).toNat * 2))) := ⟨_, rfl⟩
         obtain ⟨c17, hc17⟩ : ∃ c1, c1 = c0 - ((ji10) : Int).toNat := ⟨_, rfl⟩
         have hy17 : y514.length = l0.length - ((ji10) : Int).toNat := (by rw [Ny514.out, List.length_drop] <;> omega)
         rw [show (l0).drop ((ji10) : Int).toNat = y514 from Ny514.out.symm] at hr17
         replace hr17 : Kd.C k26 _ A17 y514.length y514 := (by rw [hA17]; exact hr17)
         rw [← hy17, ← hA17, ← hc17] at hcut17
         have HR517 := Aside0.mk hr17
         have HC517 := Aside0.mk (show y514.length ≤ c17 from by rw [hy17, hc17]; exact Nat.sub_le_sub_right hroom17 _)
         clear hr17 hC17 hroom17 hi017 hsz17 hc17
         have KY17 := Aside0.mk hy17
         have KA17 := Aside0.mk hA17
         clear hy17 hA17
         replace q17 := eq_true q17
         refine start_ (n := 12) (S := fun w' => True) (ds := []) M16_0 (by kernel_rfl) rfl rfl trivial (fun hHeld => ?_); refine with_tabW spec_DropPlate.tab3 spec_DropPlate.bits3 (fun HT_ HW_ => ?_)
         generalize w14.drew = w15 at HB HR510 HR517 hHeld ⊢
         refine pure_ (i := 1) (N := some 16) (v := ?_) (a' := ?_) M16_1 rfl rfl (any_of HT_.out (by kernel_rfl)) (fun _ _ _ h => h) (Or.inl ⟨by rfl, ?_⟩) ?_ ?_
         rotate_left
         ·intro w'
          go_simp
          with_reducible rfl
         rotate_left
         ·simp only [sp_]
          rfl
         refine pure_ (i := 2) (N := some 17) (v := ?_) (a' := ?_) M16_2 rfl rfl (any_of HT_.out (by kernel_rfl)) (fun _ _ _ h => h) (Or.inl ⟨by rfl, ?_⟩) ?_ ?_
         rotate_left
         ·intro w'
          go_simp
          with_reducible rfl
         rotate_left
         ·simp only [sp_]
          rfl
         refine pure_ (i := 3) (N := some 18) (v := ?_) (a' := ?_) M16_3 rfl rfl (any_of HT_.out (by kernel_rfl)) (fun _ _ _ h => h) (Or.inl ⟨by rfl, ?_⟩) ?_ ?_
         rotate_left
         ·intro w'
          go_simp
          with_reducible rfl
         rotate_left
         ·simp only [sp_]
          rfl
         refine pure_ (i := 5) (N := some 20) (v := ?_) (a' := ?_) M16_4 rfl rfl (any_of HT_.out (by kernel_rfl)) (fun _ _ _ h => h) (Or.inl ⟨by rfl, ?_⟩) ?_ ?_
         rotate_left
         ·intro w'
          go_simp
          with_reducible rfl
         rotate_left
         ·simp only [sp_]
          rfl
         refine pure_ (i := 6) (N := some 21) (v := ?_) (a' := ?_) M16_5 rfl rfl (any_of HT_.out (by kernel_rfl)) (fun _ _ _ h => h) (Or.inl ⟨by rfl, ?_⟩) ?_ ?_
         rotate_left
         ·intro w'
          go_simp
          with_reducible rfl
         rotate_left
         ·simp only [sp_]
          rfl
         refine pure_ (i := 7) (N := some 22) (v := ?_) (a' := ?_) M16_6 rfl rfl (any_of HT_.out (by kernel_rfl)) (fun _ _ _ h => h) (Or.inl ⟨by rfl, ?_⟩) ?_ ?_
         rotate_left
         ·intro w'
          go_simp
          with_reducible rfl
         rotate_left
         ·simp only [sp_]
          rfl
         refine pure_ (i := 8) (N := some 23) (v := ?_) (a' := ?_) M16_7 rfl rfl (any_of HT_.out (by kernel_rfl)) (fun _ _ _ h => h) (Or.inl ⟨by rfl, ?_⟩) ?_ ?_
         rotate_left
         ·intro w'
          go_simp
          with_reducible rfl
         rotate_left
         ·simp only [sp_]
          rfl
         refine one_ (i := 0) (N := some 15) M16_8 rfl rfl (one_of HT_.out (by kernel_rfl)) (by decide) (fun K hK => ?_)
         refine Kd.R_lit_step k26 _ 26 ?hg (N := 15) ?hd (xs := ([] : List (S26))) (inner := []) (ok := fun _ => True) (okp := fun _ => True) ?hr ?hp (fun _ hk => hk) trivial (Below.refl _ _) (Nat.le_refl _) (by simp) ?_; (case hd => rfl); (case hg => rfl); (case hr => go_simp <;> rfl); (case hp => exact (Reps.none _ _))
         intro v505 w18 ho19 hb hg_ hnew_
         clear hg_ hnew_
         (first | rw [← Ny504.out] at ho19 | (simp only [Int.reduceToNat] at ho19; rw [← Ny504.out] at ho19))
         have HO506 := Aside0.mk (Kd.R_lower ho19 (below_size HB.out))
         replace HB := Aside0.mk (below_step HB.out hb)
         clear hb ho19
         refine hK.out _ _ trivial (fun hHeld => ?_)
         clear hK K
         refine norm_ (a' := ?_) ?_ ?_
         rotate_left
         ·show Act.put _ (some 15) _ = _
          simp only [sp_]
          rfl
         refine one_ (i := 4) (N := some 19) M16_9 rfl rfl (one_of HT_.out (by kernel_rfl)) (by decide) (fun K hK => ?_)
         refine Kd.R_append_rows_step k26 (w0 := w) w.heap.size (by rfl) (.tmp 15) (.tmp 18) 24 26 (.agg #[(.int .i64 0), (.int .i64 0)]) 16 rfl Try.underlying24 info26 rfl (by decide) (by omega) v505 y504 y507 _ _ _ (fun _ => True) (fun _ => False) rfl rfl ?aO ?aR (fun _ _ h => h) (fun _ h => h.elim) ?aF ?aB ?aS ?aL ?_
         (case aR => exact (Kd.C_below HR510.out HB.out))
         (case aB => exact HB.out)
         (case aF => exact (fun _ _ => trivial))
         (case aO => exact HO506.out)
         (case aS => exact (below_size HB.out))
         (case aL => have := LMc9.out; omega)
         intro v512 w20 ho hb hg hat
         rw [← Ny511.out] at ho
         have n0_ := Aside0.mk (hb)
         have n1_ := Aside0.mk (ho)
         clear HB HO506
         have HB := n0_
         have HO513 := n1_
         clear n0_ n1_
         clear ho hb hg hat
         refine hK.out _ _ trivial (fun hHeld => ?_)
         clear hK K
         refine norm_ (a' := ?_) ?_ ?_
         rotate_left
         ·show Act.put _ (some 19) _ = _
          simp only [sp_]
          rfl
         refine one_ (i := 9) (N := some 24) M16_10 rfl rfl (one_of HT_.out (by kernel_rfl)) (by decide) (fun K hK => ?_)
         refine Kd.R_append_rows_step k26 (w0 := w) w.heap.size (by rfl) (.tmp 19) (.tmp 23) 24 26 (.agg #[(.int .i64 0), (.int .i64 0)]) 16 rfl Try.underlying24 info26 rfl (by decide) (by omega) v512 y511 y514 _ _ _ (fun _ => True) (fun _ => False) rfl rfl ?aO ?aR (fun _ _ h => h) (fun _ h => h.elim) ?aF ?aB ?aS ?aL ?_
         (case aR => exact (Kd.C_below HR517.out HB.out))
         (case aB => exact HB.out)
         (case aF => exact (fun _ _ => trivial))
         (case aO => exact HO513.out)
         (case aS => exact (below_size HB.out))
         (case aL => have := LMc13.out; omega)
         intro v519 w21 ho hb hg hat
         rw [← Ny518.out] at ho
         have n0_ := Aside0.mk (hb)
         have n1_ := Aside0.mk (ho)
         clear HB HO513
         have HB := n0_
         have HO520 := n1_
         clear n0_ n1_
         clear ho hb hg hat
         refine hK.out _ _ trivial (fun hHeld => ?_)
         clear hK K
         refine norm_ (a' := ?_) ?_ ?_
         rotate_left
         ·show Act.put _ (some 24) _ = _
          simp only [sp_]
          rfl
         refine pure_ (i := 10) (N := some 4) (v := ?_) (a' := ?_) M16_11 rfl rfl (any_of HT_.out (by kernel_rfl)) (fun _ _ _ h => h) (Or.inl ⟨by rfl, ?_⟩) ?_ ?_
         rotate_left
         ·intro w'
          go_simp
          with_reducible rfl
         rotate_left
         ·simp only [sp_]
          rfl
         refine pure_ (i := 11) (N := some 5) (v := ?_) (a' := ?_) M16_12 rfl rfl (any_of HT_.out (by kernel_rfl)) (fun _ _ _ h => h) (Or.inl ⟨by rfl, ?_⟩) ?_ ?_
         rotate_left
         ·intro w'
          go_simp
          with_reducible rfl
         rotate_left
         ·simp only [sp_]
          rfl
         refine done_ (done_of HT_.out (by kernel_rfl)) ?_
         try go_wp2
         go_ret2
         exact ⟨_, by first | rfl | (simp [errW_none, errW_some] <;> rfl) | (simp only [← hji10]; first | rfl | (simp [errW_none, errW_some] <;> rfl)) | (simp [*, errW_none, errW_some] <;> rfl), by exact HO520.out, HB.out⟩
        ·rw [if_neg c13] at H
         exact absurd H (by simp)
       ·rw [if_neg c12] at H
        exact absurd H (by simp)
      ·rw [if_neg c11] at H
       exact absurd H (by simp)
     ·rw [if_neg c9] at H
      exact absurd H (by simp)
    ·rw [if_neg c8] at H
     exact absurd H (by simp)
   ·rw [if_neg c7] at H
    exact absurd H (by simp)
 ·replace c4 := Bool.eq_false_iff.mpr c4
  subst c4
  rw [if_neg (show ¬ (false = true) by decide)] at H
  simp only [Option.some.injEq, Prod.mk.injEq] at H
  obtain ⟨rfl, rfl⟩ := H
  go_enter Try.func22, Try.ntmps22
  go_wp2_with (first | ((with_reducible refine gate_callee (f := 51) rfl ?_); refine goesL_ (some 8) rfl rfl Try.func51 (by kernel_rfl) rfl #[.slice A0 l0.length c0, .int .i64 a1] rfl (by (try simp only [List.map_toArray, List.map_cons, List.map_nil]); first | done | rfl | (simp only [List.length_drop, List.length_take]; rfl)) ?_; (with_reducible refine (spec_isAsked.calls k _ _ l0 a1 false _ ?side1 ?side2 A3.out).mono ?_); (case side1 => exact HR0.out); (case side2 => exact HC0.out); rintro e w22 ⟨rfl, hb⟩; refine ⟨_, rfl, ?_⟩; replace HB := Aside0.mk (below_step (by repeat first | exact HB.out | apply below_alloc | apply pw_below_drewN | apply below_drew1) hb)))
  go_ret2
  exact ⟨_, rfl, Kd.R_nil _ _ _ _ _, HB.out⟩

end Go.Proofs.Ytbnhfipcjbnknaa.PFnPlatesInserted
