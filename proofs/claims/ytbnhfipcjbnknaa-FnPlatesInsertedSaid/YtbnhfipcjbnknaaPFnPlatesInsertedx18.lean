/- Functions that the law FnPlatesInserted reaches, each as a Lean function, and that the Go code comes to just these answers (written by programs). -/
import Derived.Test.YtbnhfipcjbnknaaPFnPlatesInsertedx0
import Derived.Test.YtbnhfipcjbnknaaPFnPlatesInsertedx4
import Derived.Test.YtbnhfipcjbnknaaPFnPlatesInsertedx10
namespace Go.Proofs.Ytbnhfipcjbnknaa.PFnPlatesInserted
open Go.RowKit Go.Proofs.YtbnhfipcjbnknaaW.PrintWords Go.Proofs.YtbnhfipcjbnknaaW.PrintLast Go.Proofs.YtbnhfipcjbnknaaW.PrintMore
attribute [local go_sem] max2_int min2_int max_two min_two max_three min_three max_four min_four   -- for this text's walks alone
set_option linter.unusedVariables false
set_option linter.unusedSimpArgs false

/-! ### spec_JoinPlates: function 29 -/
mutual
def spec_JoinPlates.j0 : Nat → List (S26) → List (S26) → Bool → Option ((List (S26)) × Bool)
 | 0, _, _, _ => none
 | k + 1, x0, x1, x18 => if x18 = true then (some (([] : List (S26)), false)) else ((some (([] : List (S26)) : List (S26))).bind fun y569 => (if y569.length + x0.length < 8796093022208 then (spec_JoinPlates.l0 k (y569 ++ x0) x1 (x1.length : Int) 0) else (none)))
def spec_JoinPlates.l0 : Nat → List (S26) → List (S26) → Int → Int → Option ((List (S26)) × Bool)
 | 0, _, _, _, _ => none
 | k + 1, x6, x22, x23, x24 => if x24 < x23 then (if 0 ≤ x24 then (if x24 < (x22.length : Int) then ((spec_isAdd.f k x6 ((rd_T26 x22 x24).f0) ((rd_T26 x22 x24).f1)).bind fun bt577 => (if bt577.2 = true then (spec_JoinPlates.l0 k bt577.1 x22 x23 (wrap64 (x24 + 1))) else (some (([] : List (S26)), false)))) else (none)) else (none)) else (some (x6, true))
end
def spec_JoinPlates.f (k : Nat) (l0 : List (S26)) (l1 : List (S26)) : Option ((List (S26)) × Bool) := (spec_isGood.f k l0).bind fun t567 => (if t567 = true then ((spec_isGood.f k l1).bind fun t568 => (spec_JoinPlates.j0 k l0 l1 (!t568))) else (spec_JoinPlates.j0 k l0 l1 true))
set_option maxHeartbeats 8000000 in
set_option maxRecDepth 100000 in
theorem spec_JoinPlates.calls (k : Nat) (A0 : Option Addr) (c0 : Nat) (l0 : List (S26)) (A1 : Option Addr) (c1 : Nat) (l1 : List (S26)) (r1 : List (S26)) (r2 : Bool) (w : World) (hr0 : Kd.C k26 w A0 l0.length l0) (hc0 : l0.length ≤ c0) (hr1 : Kd.C k26 w A1 l1.length l1) (hc1 : l1.length ≤ c1) (h : spec_JoinPlates.f k l0 l1 = some (r1, r2)) :
  Calls Try.prog 29 #[.slice A0 l0.length c0, .slice A1 l1.length c1] w fun e w' => ∃ v0_ : Value, e = .returned (.tuple #[v0_, .bool r2]) ∧ Kd.R k26 26 w' w.heap.size (fun _ => True) v0_ r1 ∧ Below w.heap.size w w' := by
 have hu26 := Try.underlying26
 have HR0 := Aside0.mk hr0
 have HC0 := Aside0.mk hc0
 clear hr0 hc0
 have HR1 := Aside0.mk hr1
 have HC1 := Aside0.mk hc1
 clear hr1 hc1
 have HB := Aside0.mk (Below.refl w.heap.size w)
 have H : ((spec_isGood.f k l0).bind fun t567 => (if t567 = true then ((spec_isGood.f k l1).bind fun t568 => (spec_JoinPlates.j0 k l0 l1 (!t568))) else (spec_JoinPlates.j0 k l0 l1 true))) = some (r1, r2) := h
 clear h
 have HC3 := Aside0.mk H
 clear H
 go_enter Try.func29, Try.ntmps29
 go_upto_region 1 with (fail)
 go_cut [18] (fun v18 wc => ∃ (kq : Nat) (x18_2 : Bool), v18 = .bool x18_2 ∧ Aside0 (spec_JoinPlates.j0 kq l0 l1 x18_2 = some (r1, r2)) ∧ Aside0 (kq ≤ k) ∧ Aside0 (Below w.heap.size w wc))
 case first =>
  have H := HC3.out
  clear HC3
  replace H := Option.bind_eq_some_iff.mp H
  obtain ⟨t567, A40, H⟩ := H

  have A4 := Aside0.mk A40
  clear A40
  by_cases c5 : t567 = true
  ·subst c5
   have H1 : ((spec_isGood.f k l1).bind fun t568 => (spec_JoinPlates.j0 k l0 l1 (!t568))) = some (r1, r2) := by rw [if_pos rfl] at H; exact H
   clear H
   have H := H1
   clear H1
   replace H := Option.bind_eq_some_iff.mp H
   obtain ⟨t568, A60, H⟩ := H

   have A6 := Aside0.mk A60
   clear A60
   have H' := Aside0.mk H
   clear H
   go_wp2_with (first | ((with_reducible refine gate_callee (f := 34) rfl ?_); refine goesL_ (some 12) rfl rfl Try.func34 (by kernel_rfl) rfl #[.slice A0 l0.length c0] rfl (by (try simp only [List.map_toArray, List.map_cons, List.map_nil]); first | done | rfl | (simp only [List.length_drop, List.length_take]; rfl)) ?_; (with_reducible refine (spec_isGood.calls k _ _ l0 true _ ?side1 ?side2 A4.out).mono ?_); (case side1 => exact (Kd.C_below HR0.out HB.out)); (case side2 => exact HC0.out); rintro e w7 ⟨rfl, hb⟩; refine ⟨_, rfl, ?_⟩; have n0_ := Aside0.mk (below_step (by repeat first | exact HB.out | apply below_alloc | apply pw_below_drewN | apply below_drew1) hb); clear HB; have HB := n0_; clear n0_) | (go_at_call 34; (with_reducible refine (spec_isGood.calls k _ _ l1 t568 _ ?side1 ?side2 A6.out).mono ?_); (case side1 => exact (Kd.C_below HR1.out HB.out)); (case side2 => exact HC1.out); rintro e w8 ⟨rfl, hb⟩; have n0_ := Aside0.mk (below_step (by repeat first | exact HB.out | apply below_alloc | apply pw_below_drewN | apply below_drew1) hb); clear HB; have HB := n0_; clear n0_))
   go_meet
   case rel => exact ⟨_, (!t568), rfl, H', ⟨by first | omega | exact Nat.le_refl _⟩, ⟨HB.out⟩⟩
  ·replace c5 := Bool.eq_false_iff.mpr c5
   subst c5
   have H1 : (spec_JoinPlates.j0 k l0 l1 true) = some (r1, r2) := by rw [if_neg (show ¬ (false = true) by decide)] at H; exact H
   clear H
   have H := H1
   clear H1
   have H' := Aside0.mk H
   clear H
   go_wp2_with (first | ((with_reducible refine gate_callee (f := 34) rfl ?_); refine goesL_ (some 12) rfl rfl Try.func34 (by kernel_rfl) rfl #[.slice A0 l0.length c0] rfl (by (try simp only [List.map_toArray, List.map_cons, List.map_nil]); first | done | rfl | (simp only [List.length_drop, List.length_take]; rfl)) ?_; (with_reducible refine (spec_isGood.calls k _ _ l0 false _ ?side1 ?side2 A4.out).mono ?_); (case side1 => exact (Kd.C_below HR0.out HB.out)); (case side2 => exact HC0.out); rintro e w9 ⟨rfl, hb⟩; refine ⟨_, rfl, ?_⟩; have n0_ := Aside0.mk (below_step (by repeat first | exact HB.out | apply below_alloc | apply pw_below_drewN | apply below_drew1) hb); clear HB; have HB := n0_; clear n0_))
   go_meet
   case rel => exact ⟨_, (true), rfl, H', ⟨by first | omega | exact Nat.le_refl _⟩, ⟨HB.out⟩⟩
 case rest =>
  clear HC3
  try clear c1
  try clear c2
  try clear p2
  try clear c3
  try clear c5
  obtain ⟨kq, x18_2, rfl, HA, HJ2, HB⟩ := hcut
  cases kq with
  | zero => exact absurd HA.out (by simp [spec_JoinPlates.j0])
  | succ kj2 =>
   have H := HA.out
   clear HA
   simp only [spec_JoinPlates.j0] at H
   by_cases c10 : x18_2 = true
   ·subst c10
    have H1 : (some (([] : List (S26)), false)) = some (r1, r2) := by rw [if_pos rfl] at H; exact H
    clear H
    have H := H1
    clear H1
    simp only [Option.some.injEq, Prod.mk.injEq] at H
    obtain ⟨rfl, rfl⟩ := H
    go_wp2
    go_ret2
    exact ⟨_, rfl, Kd.R_nil _ _ _ _ _, HB.out⟩
   ·replace c10 := Bool.eq_false_iff.mpr c10
    subst c10
    have H1 : ((some (([] : List (S26)) : List (S26))).bind fun y569 => (if y569.length + l0.length < 8796093022208 then (spec_JoinPlates.l0 kj2 (y569 ++ l0) l1 (l1.length : Int) 0) else (none))) = some (r1, r2) := by rw [if_neg (show ¬ (false = true) by decide)] at H; exact H
    clear H
    have H := H1
    clear H1
    obtain ⟨y569, hy569⟩ : ∃ y_ : List (S26), y_ = (([] : List (S26))) := ⟨_, rfl⟩
    replace H : (if y569.length + l0.length < 8796093022208 then (spec_JoinPlates.l0 kj2 (y569 ++ l0) l1 (l1.length : Int) 0) else (none)) = some (r1, r2) := by first | (rw [hy569]; with_reducible exact H) | (have H2_ := (Option.bind_some _ _).symm.trans H; rw [hy569]; with_reducible exact H2_) | (have H2_ := (Option.bind_some _ _).symm.trans H; with_reducible exact H2_) | with_reducible exact H | (rw [hy569]; exact H) | exact H
    have Ny569 := Aside0.mk hy569
    clear hy569
    by_cases c11 : y569.length + l0.length < 8796093022208
    ·rw [if_pos c11] at H
     have LMc11 := Aside0.mk c11
     clear c11
     obtain ⟨y572, hy572⟩ : ∃ y_ : List (S26), y_ = (y569 ++ l0) := ⟨_, rfl⟩
     rw [← hy572] at H
     have Ny572 := Aside0.mk hy572
     clear hy572
     have H' := Aside0.mk H
     clear H
     go_wp2_with (first | ((with_reducible refine gate_dst (N := 19) rfl ?_); refine Kd.R_lit k26 _ 26 ?hg (N := 19) ?hd (xs := ([] : List (S26))) (inner := []) (ok := fun _ => True) (okp := fun _ => True) ?hr ?hp (fun _ hk => hk) trivial (Below.refl _ _) (Nat.le_refl _) (by simp) ?_; (case hd => rfl); (case hg => rfl); (case hr => go_simp <;> rfl); (case hp => exact (Reps.none _ _)); intro v570 w12 ho13 hb hg_ hnew_; clear hg_ hnew_; (first | rw [← Ny569.out] at ho13 | (simp only [Int.reduceToNat] at ho13; rw [← Ny569.out] at ho13)); have n0_ := Aside0.mk (Kd.R_lower ho13 (below_size HB.out)); have n1_ := Aside0.mk (below_step HB.out hb); clear HB; have HO571 := n0_; have HB := n1_; clear n0_ n1_; clear hb ho13) | ((with_reducible refine gate_builtin (b := .append) (xs := #[.tmp 19, .tmp 20]) rfl ?_); at_builtin; refine Kd.R_append_rows k26 (w0 := w) w.heap.size rfl (.tmp 19) (.tmp 20) 24 26 (.agg #[(.int .i64 0), (.int .i64 0)]) 16 rfl Try.underlying24 info26 rfl (by decide) (by omega) v570 y569 l0 _ _ _ (fun _ => True) (fun _ => False) rfl rfl ?aO ?aR (fun _ _ h => h) (fun _ h => h.elim) ?aF ?aB ?aS ?aL ?_; (case aR => exact (Kd.C_below HR0.out HB.out)); (case aB => exact HB.out); (case aF => exact (fun _ _ => trivial)); (case aO => exact HO571.out); (case aS => exact (below_size HB.out)); (case aL => have := LMc11.out; omega); intro v573 w14 ho hb hg hat; rw [← Ny572.out] at ho; have n0_ := Aside0.mk (hb); have n1_ := Aside0.mk (ho); clear HB; clear HO571; have HB := n0_; have HO574 := n1_; clear n0_ n1_; clear ho hb hg hat))
     go_loopg [6, 24] kj2 (fun kq v6 v24 w' => ∃ (x6_2 : List (S26)) (x24_2 : Int), v24 = .int .i64 x24_2 ∧ Aside0 (spec_JoinPlates.l0 kq x6_2 l1 (l1.length : Int) x24_2 = some (r1, r2)) ∧ Aside0 (kq ≤ kj2) ∧ Aside0 (Kd.R k26 26 w' w.heap.size (fun _ => True) v6 x6_2) ∧ Aside0 (Below w.heap.size w w'))
     case atStart => exact ⟨(y572), (0), rfl, H', ⟨Nat.le_refl _⟩, ⟨by exact HO574.out⟩, ⟨HB.out⟩⟩
     case round =>
      clear H'
      try clear c1
      try clear c2
      try clear p2
      try clear c3
      try clear c5
      try clear c10
      try clear c11
      try clear p2
      obtain ⟨x6_2, x24_2, rfl, HA, HK2, HO_6, HB⟩ := hrel
      cases gk with
      | zero => exact absurd HA.out (by simp [spec_JoinPlates.l0])
      | succ k2 =>
       have H := HA.out
       clear HA
       simp only [spec_JoinPlates.l0] at H
       by_cases c15 : x24_2 < (l1.length : Int)
       ·rw [if_pos c15] at H
        have c15b0 : decide (x24_2 < (l1.length : Int)) = true := decide_eq_true c15
        clear c15
        by_cases c16 : 0 ≤ x24_2
        ·rw [if_pos c16] at H
         have c16b0 : decide (0 ≤ x24_2) = true := decide_eq_true c16
         clear c16
         by_cases c17 : x24_2 < (l1.length : Int)
         ·rw [if_pos c17] at H
          have c17b0 : decide (x24_2 < (l1.length : Int)) = true := decide_eq_true c17
          clear c17
          replace H := Option.bind_eq_some_iff.mp H
          obtain ⟨⟨t577, t580⟩, A180, H⟩ := H

          have A18 := Aside0.mk A180
          clear A180
          by_cases c19 : t580 = true
          ·subst c19
           have H1 : (spec_JoinPlates.l0 k2 t577 l1 (l1.length : Int) (wrap64 (x24_2 + 1))) = some (r1, r2) := by rw [if_pos rfl] at H; exact H
           clear H
           have H := H1
           clear H1
           have H' := Aside0.mk H
           clear H
           have p575 : 0 ≤ (x24_2 : Int) := of_decide_eq_true (by assumption)
           have q575 : x24_2 < (l1.length : Int) := of_decide_eq_true (by assumption)
           obtain ⟨ad575, e575, hx575_0, hx575_1⟩ := at_T26 HR1.out x24_2 p575 q575
           cases e575
           replace hx575_0 := (HB.out.cell (World.block_lt_of_cell? w _ hx575_0)).trans hx575_0
           replace hx575_1 := (HB.out.cell (World.block_lt_of_cell? w _ hx575_1)).trans hx575_1
           replace p575 := eq_true p575
           replace q575 := eq_true q575
           go_wp2_with (first | ((with_reducible refine gate_dst (N := 8) rfl ?_); refine box_event ?hg (N := 8) ?hd (cs := #[.int .i64 0, .int .i64 0]) (t := 26) ?hr ?_; (case hd => rfl); (case hg => rfl); (case hr => go_simp <;> rfl); intro gb576 hg w20 hbox hb; have n0_ := Aside0.mk (Kd.R_below (Kd.R_elderB HO_6.out gb576 (Nat.le_of_eq hg.symm)) hb); have n1_ := Aside0.mk (below_step HB.out hb); have n2_ := Aside0.mk (hbox); have n3_ := Aside0.mk ((by rw [hg]; exact (below_size HB.out) : w.heap.size ≤ gb576)); have n4_ := n3_; clear HO_6; clear HB; have HO_6 := n0_; have HB := n1_; have BK576 := n2_; have GW576 := n3_; have GE576 := n4_; clear n0_ n1_ n2_ n3_ n4_; clear hb hbox hg; have hcz21_0 : w20.cell? ⟨gb576, 0, none⟩ = some (.int .i64 0) := (blk_cell BK576.out 0).trans rfl; have hcz21_1 : w20.cell? ⟨gb576, 1, none⟩ = some (.int .i64 0) := (blk_cell BK576.out 1).trans rfl; have hfz21_0 := blk_frozen BK576.out 0; have hfz21_1 := blk_frozen BK576.out 1; obtain ⟨Ao22, co22, eo22⟩ := Kd.R_slice HO_6.out; subst eo22) | ((with_reducible refine gate_callee (f := 36) rfl ?_); refine goesL_ (some 31) rfl rfl Try.func36 (by kernel_rfl) rfl #[.slice Ao22 x6_2.length co22, .agg #[.int .i64 ((rd_T26 l1 x24_2).f0), .int .i64 ((rd_T26 l1 x24_2).f1)]] rfl (by (try simp only [List.map_toArray, List.map_cons, List.map_nil]); first | done | rfl | (simp only [List.length_drop, List.length_take]; rfl)) ?_; (with_reducible refine (spec_isAdd.calls k2 _ _ x6_2 ((rd_T26 l1 x24_2).f0) ((rd_T26 l1 x24_2).f1) t577 true _ ?side1 ?side2 A18.out).mono ?_); (case side1 => refine (Kd.R_reads' (e := 26) (base := w.heap.size) (ok := fun k_ => (True ∧ k_ ≠ gb576)) (n := x6_2.length) (c := co22) ?_).2.2; exact (by (with_reducible repeat (first | apply Kd.R_alloc | apply Kd.R_drewN | apply Kd.R_drew)); exact (Kd.R_mono (Kd.R_far (p := ⟨gb576, 1, none⟩) (Kd.R_far (p := ⟨gb576, 0, none⟩) (Kd.R_mono HO_6.out (fun k_ hk => (⟨hk, hk.2⟩ : _ ∧ k_ ≠ gb576))) (fun _ hk => by first | exact hk.2 | (simp only [and_assoc] at hk; simp only [hk]; done) | (simp only [and_assoc] at hk; simp [hk]; done) | simp_all) (.int .i64 ((rd_T26 l1 x24_2).f0))) (fun _ hk => by first | exact hk.2 | (simp only [and_assoc] at hk; simp only [hk]; done) | (simp only [and_assoc] at hk; simp [hk]; done) | simp_all) (.int .i64 ((rd_T26 l1 x24_2).f1))) (fun _ h_ => h_.1)))); (case side2 => exact (Kd.R_reads' HO_6.out).2.1); rintro e w23 ⟨v578, rfl, ho0, hb⟩; refine ⟨_, rfl, ?_⟩; have n0_ := Aside0.mk (Kd.R_elder' (by (with_reducible repeat (first | apply Kd.R_alloc | apply Kd.R_drewN | apply Kd.R_drew)); exact (Kd.R_mono (Kd.R_far (p := ⟨gb576, 1, none⟩) (Kd.R_far (p := ⟨gb576, 0, none⟩) (Kd.R_mono HO_6.out (fun k_ hk => (⟨hk, hk.2⟩ : _ ∧ k_ ≠ gb576))) (fun _ hk => by first | exact hk.2 | (simp only [and_assoc] at hk; simp only [hk]; done) | (simp only [and_assoc] at hk; simp [hk]; done) | simp_all) (.int .i64 ((rd_T26 l1 x24_2).f0))) (fun _ hk => by first | exact hk.2 | (simp only [and_assoc] at hk; simp only [hk]; done) | (simp only [and_assoc] at hk; simp [hk]; done) | simp_all) (.int .i64 ((rd_T26 l1 x24_2).f1))) (fun _ h_ => h_.1))) (Kd.R_base ho0) hb); have n1_ := Aside0.mk (Kd.R_lower (Kd.R_newB (Kd.R_new' ho0 (Kd.R_lt (by (with_reducible repeat (first | apply Kd.R_alloc | apply Kd.R_drewN | apply Kd.R_drew)); exact (Kd.R_mono (Kd.R_far (p := ⟨gb576, 1, none⟩) (Kd.R_far (p := ⟨gb576, 0, none⟩) (Kd.R_mono HO_6.out (fun k_ hk => (⟨hk, hk.2⟩ : _ ∧ k_ ≠ gb576))) (fun _ hk => by first | exact hk.2 | (simp only [and_assoc] at hk; simp only [hk]; done) | (simp only [and_assoc] at hk; simp [hk]; done) | simp_all) (.int .i64 ((rd_T26 l1 x24_2).f0))) (fun _ hk => by first | exact hk.2 | (simp only [and_assoc] at hk; simp only [hk]; done) | (simp only [and_assoc] at hk; simp [hk]; done) | simp_all) (.int .i64 ((rd_T26 l1 x24_2).f1))) (fun _ h_ => h_.1))))) (g := gb576) (o := .cells #[.int .i64 ((rd_T26 l1 x24_2).f0), .int .i64 ((rd_T26 l1 x24_2).f1)] 26 (0, 0)) (by (with_reducible repeat (first | refine blk_drewN ?_ _ | refine blk_drew ?_ | refine blk_alloc ?_ _)); refine blk_put (cs := #[.int .i64 ((rd_T26 l1 x24_2).f0), .int .i64 0]) ?_ 1 _ rfl; (with_reducible repeat (first | refine blk_drewN ?_ _ | refine blk_drew ?_ | refine blk_alloc ?_ _)); refine blk_put (cs := #[.int .i64 0, .int .i64 0]) ?_ 0 _ rfl; (with_reducible repeat (first | refine blk_drewN ?_ _ | refine blk_drew ?_ | refine blk_alloc ?_ _)); exact BK576.out)) (below_size (by repeat first | exact HB.out | apply below_alloc | apply pw_below_drewN | apply below_drew1 | refine below_set ?_ GE576.out))); have n2_ := Aside0.mk (blk_below (g := gb576) (o := .cells #[.int .i64 ((rd_T26 l1 x24_2).f0), .int .i64 ((rd_T26 l1 x24_2).f1)] 26 (0, 0)) (by (with_reducible repeat (first | refine blk_drewN ?_ _ | refine blk_drew ?_ | refine blk_alloc ?_ _)); refine blk_put (cs := #[.int .i64 ((rd_T26 l1 x24_2).f0), .int .i64 0]) ?_ 1 _ rfl; (with_reducible repeat (first | refine blk_drewN ?_ _ | refine blk_drew ?_ | refine blk_alloc ?_ _)); refine blk_put (cs := #[.int .i64 0, .int .i64 0]) ?_ 0 _ rfl; (with_reducible repeat (first | refine blk_drewN ?_ _ | refine blk_drew ?_ | refine blk_alloc ?_ _)); exact BK576.out) hb); have n3_ := Aside0.mk (below_step (by repeat first | exact HB.out | apply below_alloc | apply pw_below_drewN | apply below_drew1 | refine below_set ?_ GE576.out) hb); clear HO_6; clear BK576; clear HB; have HO_6 := n0_; have HO579 := n1_; have BK576 := n2_; have HB := n3_; clear n0_ n1_ n2_ n3_; (try clear ho0)))
           go_roundg k2
           case measure => have := HJ2.out; have := HK2.out; omega
           case rel => exact ⟨(t577), (wrap64 (x24_2 + 1)), rfl, H', ⟨by have := HJ2.out; have := HK2.out; omega⟩, ⟨by exact Kd.R_mono HO579.out (fun _ hk => trivial)⟩, ⟨HB.out⟩⟩
          ·replace c19 := Bool.eq_false_iff.mpr c19
           subst c19
           have H1 : (some (([] : List (S26)), false)) = some (r1, r2) := by rw [if_neg (show ¬ (false = true) by decide)] at H; exact H
           clear H
           have H := H1
           clear H1
           simp only [Option.some.injEq, Prod.mk.injEq] at H
           obtain ⟨rfl, rfl⟩ := H
           have p575 : 0 ≤ (x24_2 : Int) := of_decide_eq_true (by assumption)
           have q575 : x24_2 < (l1.length : Int) := of_decide_eq_true (by assumption)
           obtain ⟨ad575, e575, hx575_0, hx575_1⟩ := at_T26 HR1.out x24_2 p575 q575
           cases e575
           replace hx575_0 := (HB.out.cell (World.block_lt_of_cell? w _ hx575_0)).trans hx575_0
           replace hx575_1 := (HB.out.cell (World.block_lt_of_cell? w _ hx575_1)).trans hx575_1
           replace p575 := eq_true p575
           replace q575 := eq_true q575
           go_wp2_with (first | ((with_reducible refine gate_dst (N := 8) rfl ?_); refine box_event ?hg (N := 8) ?hd (cs := #[.int .i64 0, .int .i64 0]) (t := 26) ?hr ?_; (case hd => rfl); (case hg => rfl); (case hr => go_simp <;> rfl); intro gb576 hg w24 hbox hb; have n0_ := Aside0.mk (Kd.R_below (Kd.R_elderB HO_6.out gb576 (Nat.le_of_eq hg.symm)) hb); have n1_ := Aside0.mk (below_step HB.out hb); have n2_ := Aside0.mk (hbox); have n3_ := Aside0.mk ((by rw [hg]; exact (below_size HB.out) : w.heap.size ≤ gb576)); have n4_ := n3_; clear HO_6; clear HB; have HO_6 := n0_; have HB := n1_; have BK576 := n2_; have GW576 := n3_; have GE576 := n4_; clear n0_ n1_ n2_ n3_ n4_; clear hb hbox hg; have hcz25_0 : w24.cell? ⟨gb576, 0, none⟩ = some (.int .i64 0) := (blk_cell BK576.out 0).trans rfl; have hcz25_1 : w24.cell? ⟨gb576, 1, none⟩ = some (.int .i64 0) := (blk_cell BK576.out 1).trans rfl; have hfz25_0 := blk_frozen BK576.out 0; have hfz25_1 := blk_frozen BK576.out 1; obtain ⟨Ao26, co26, eo26⟩ := Kd.R_slice HO_6.out; subst eo26) | ((with_reducible refine gate_callee (f := 36) rfl ?_); refine goesL_ (some 31) rfl rfl Try.func36 (by kernel_rfl) rfl #[.slice Ao26 x6_2.length co26, .agg #[.int .i64 ((rd_T26 l1 x24_2).f0), .int .i64 ((rd_T26 l1 x24_2).f1)]] rfl (by (try simp only [List.map_toArray, List.map_cons, List.map_nil]); first | done | rfl | (simp only [List.length_drop, List.length_take]; rfl)) ?_; (with_reducible refine (spec_isAdd.calls k2 _ _ x6_2 ((rd_T26 l1 x24_2).f0) ((rd_T26 l1 x24_2).f1) t577 false _ ?side1 ?side2 A18.out).mono ?_); (case side1 => refine (Kd.R_reads' (e := 26) (base := w.heap.size) (ok := fun k_ => (True ∧ k_ ≠ gb576)) (n := x6_2.length) (c := co26) ?_).2.2; exact (by (with_reducible repeat (first | apply Kd.R_alloc | apply Kd.R_drewN | apply Kd.R_drew)); exact (Kd.R_mono (Kd.R_far (p := ⟨gb576, 1, none⟩) (Kd.R_far (p := ⟨gb576, 0, none⟩) (Kd.R_mono HO_6.out (fun k_ hk => (⟨hk, hk.2⟩ : _ ∧ k_ ≠ gb576))) (fun _ hk => by first | exact hk.2 | (simp only [and_assoc] at hk; simp only [hk]; done) | (simp only [and_assoc] at hk; simp [hk]; done) | simp_all) (.int .i64 ((rd_T26 l1 x24_2).f0))) (fun _ hk => by first | exact hk.2 | (simp only [and_assoc] at hk; simp only [hk]; done) | (simp only [and_assoc] at hk; simp [hk]; done) | simp_all) (.int .i64 ((rd_T26 l1 x24_2).f1))) (fun _ h_ => h_.1)))); (case side2 => exact (Kd.R_reads' HO_6.out).2.1); rintro e w27 ⟨v578, rfl, ho0, hb⟩; refine ⟨_, rfl, ?_⟩; have n0_ := Aside0.mk (Kd.R_elder' (by (with_reducible repeat (first | apply Kd.R_alloc | apply Kd.R_drewN | apply Kd.R_drew)); exact (Kd.R_mono (Kd.R_far (p := ⟨gb576, 1, none⟩) (Kd.R_far (p := ⟨gb576, 0, none⟩) (Kd.R_mono HO_6.out (fun k_ hk => (⟨hk, hk.2⟩ : _ ∧ k_ ≠ gb576))) (fun _ hk => by first | exact hk.2 | (simp only [and_assoc] at hk; simp only [hk]; done) | (simp only [and_assoc] at hk; simp [hk]; done) | simp_all) (.int .i64 ((rd_T26 l1 x24_2).f0))) (fun _ hk => by first | exact hk.2 | (simp only [and_assoc] at hk; simp only [hk]; done) | (simp only [and_assoc] at hk; simp [hk]; done) | simp_all) (.int .i64 ((rd_T26 l1 x24_2).f1))) (fun _ h_ => h_.1))) (Kd.R_base ho0) hb); have n1_ := Aside0.mk (Kd.R_lower (Kd.R_newB (Kd.R_new' ho0 (Kd.R_lt (by (with_reducible repeat (first | apply Kd.R_alloc | apply Kd.R_drewN | apply Kd.R_drew)); exact (Kd.R_mono (Kd.R_far (p := ⟨gb576, 1, none⟩) (Kd.R_far (p := ⟨gb576, 0, none⟩) (Kd.R_mono HO_6.out (fun k_ hk => (⟨hk, hk.2⟩ : _ ∧ k_ ≠ gb576))) (fun _ hk => by first | exact hk.2 | (simp only [and_assoc] at hk; simp only [hk]; done) | (simp only [and_assoc] at hk; simp [hk]; done) | simp_all) (.int .i64 ((rd_T26 l1 x24_2).f0))) (fun _ hk => by first | exact hk.2 | (simp only [and_assoc] at hk; simp only [hk]; done) | (simp only [and_assoc] at hk; simp [hk]; done) | simp_all) (.int .i64 ((rd_T26 l1 x24_2).f1))) (fun _ h_ => h_.1))))) (g := gb576) (o := .cells #[.int .i64 ((rd_T26 l1 x24_2).f0), .int .i64 ((rd_T26 l1 x24_2).f1)] 26 (0, 0)) (by (with_reducible repeat (first | refine blk_drewN ?_ _ | refine blk_drew ?_ | refine blk_alloc ?_ _)); refine blk_put (cs := #[.int .i64 ((rd_T26 l1 x24_2).f0), .int .i64 0]) ?_ 1 _ rfl; (with_reducible repeat (first | refine blk_drewN ?_ _ | refine blk_drew ?_ | refine blk_alloc ?_ _)); refine blk_put (cs := #[.int .i64 0, .int .i64 0]) ?_ 0 _ rfl; (with_reducible repeat (first | refine blk_drewN ?_ _ | refine blk_drew ?_ | refine blk_alloc ?_ _)); exact BK576.out)) (below_size (by repeat first | exact HB.out | apply below_alloc | apply pw_below_drewN | apply below_drew1 | refine below_set ?_ GE576.out))); have n2_ := Aside0.mk (blk_below (g := gb576) (o := .cells #[.int .i64 ((rd_T26 l1 x24_2).f0), .int .i64 ((rd_T26 l1 x24_2).f1)] 26 (0, 0)) (by (with_reducible repeat (first | refine blk_drewN ?_ _ | refine blk_drew ?_ | refine blk_alloc ?_ _)); refine blk_put (cs := #[.int .i64 ((rd_T26 l1 x24_2).f0), .int .i64 0]) ?_ 1 _ rfl; (with_reducible repeat (first | refine blk_drewN ?_ _ | refine blk_drew ?_ | refine blk_alloc ?_ _)); refine blk_put (cs := #[.int .i64 0, .int .i64 0]) ?_ 0 _ rfl; (with_reducible repeat (first | refine blk_drewN ?_ _ | refine blk_drew ?_ | refine blk_alloc ?_ _)); exact BK576.out) hb); have n3_ := Aside0.mk (below_step (by repeat first | exact HB.out | apply below_alloc | apply pw_below_drewN | apply below_drew1 | refine below_set ?_ GE576.out) hb); clear HO_6; clear BK576; clear HB; have HO_6 := n0_; have HO579 := n1_; have BK576 := n2_; have HB := n3_; clear n0_ n1_ n2_ n3_; (try clear ho0)))
           go_ret2
           exact ⟨_, rfl, Kd.R_nil _ _ _ _ _, HB.out⟩
         ·rw [if_neg c17] at H
          exact absurd H (by simp)
        ·rw [if_neg c16] at H
         exact absurd H (by simp)
       ·rw [if_neg c15] at H
        have c15b0 : decide (x24_2 < (l1.length : Int)) = false := decide_eq_false c15
        clear c15
        simp only [Option.some.injEq, Prod.mk.injEq] at H
        obtain ⟨rfl, rfl⟩ := H
        go_wp2
        go_ret2
        exact ⟨_, rfl, by exact HO_6.out, HB.out⟩
    ·rw [if_neg c11] at H
     exact absurd H (by simp)

end Go.Proofs.Ytbnhfipcjbnknaa.PFnPlatesInserted
