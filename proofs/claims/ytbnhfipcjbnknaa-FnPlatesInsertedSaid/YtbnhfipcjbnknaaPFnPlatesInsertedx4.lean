/- Functions that the law FnPlatesInserted reaches, each as a Lean function, and that the Go code comes to just these answers (written by programs). -/
import Derived.Test.YtbnhfipcjbnknaaPFnPlatesInsertedx0
import Derived.Test.YtbnhfipcjbnknaaPFnPlatesInsertedx2
import Derived.Test.YtbnhfipcjbnknaaPFnPlatesInsertedx3
namespace Go.Proofs.Ytbnhfipcjbnknaa.PFnPlatesInserted
open Go.RowKit Go.Proofs.YtbnhfipcjbnknaaW.PrintWords Go.Proofs.YtbnhfipcjbnknaaW.PrintLast Go.Proofs.YtbnhfipcjbnknaaW.PrintMore
attribute [local go_sem] max2_int min2_int max_two min_two max_three min_three max_four min_four   -- for this text's walks alone
set_option linter.unusedVariables false
set_option linter.unusedSimpArgs false

abbrev M4_0 : Array Bool := #[false, false, false, false, false, false, false, false, false]
abbrev M4_1 : Array Bool := #[false, true, false, false, false, false, false, false, false]
abbrev M4_2 : Array Bool := #[false, true, true, false, false, false, false, false, false]
abbrev M4_3 : Array Bool := #[false, true, true, true, false, false, false, false, false]
abbrev M4_4 : Array Bool := #[false, true, true, true, false, true, false, false, false]
abbrev M4_5 : Array Bool := #[true, true, true, true, true, true, true, false, false]
abbrev M4_6 : Array Bool := #[true, true, true, true, false, true, false, false, false]
abbrev M4_7 : Array Bool := #[false, true, true, true, false, true, true, false, false]
abbrev M4_8 : Array Bool := #[true, true, true, true, true, true, false, false, false]
abbrev M4_9 : Array Bool := #[true, true, true, true, false, true, true, false, false]
abbrev M4_10 : Array Bool := #[true, true, true, true, true, true, true, true, false]
abbrev M4_11 : Array Bool := #[true, true, true, true, true, true, true, true, true]
/-! ### spec_isAdd: function 36 -/
def spec_isAdd.f (k : Nat) (l0 : List (S26)) (a1_0 : Int) (a1_1 : Int) : Option ((List (S26)) × Bool) := (spec_isPlace.f k l0 a1_0 a1_1).bind fun bt167 => (if bt167.2 = true then (some (([] : List (S26)), false)) else (if (l0.length : Int) ≥ 60 then (some (([] : List (S26)), false)) else ((some (([] : List (S26)) : List (S26))).bind fun y169 => (if 0 ≤ bt167.1 then (if bt167.1 ≤ (l0.length : Int) then ((some (l0.take (bt167.1 : Int).toNat : List (S26))).bind fun y172 => (if y169.length + y172.length < 8796093022208 then ((some (y169 ++ y172 : List (S26))).bind fun y176 => ((some (([(⟨a1_0, a1_1⟩ : S26)] : List (S26)) : List (S26))).bind fun y179 => (if y176.length + y179.length < 8796093022208 then ((some (y176 ++ y179 : List (S26))).bind fun y182 => ((some (l0.drop (bt167.1 : Int).toNat : List (S26))).bind fun y185 => (if y182.length + y185.length < 8796093022208 then (some ((y182 ++ y185), true)) else (none)))) else (none)))) else (none))) else (none)) else (none)))))
def spec_isAdd.T4 : Bool × List (List Nat × List Nat) := (true, [([], []), ([], []), ([], []), ([1, 2], [1, 2]), ([0, 3], [0, 3]), ([], []), ([5], [5]), ([4, 6, 4], [4, 6]), ([7, 7, 0, 1, 2, 3, 4, 5, 6, 7], [7])])
def spec_isAdd.B4 : List Nat := [0, 0, 0, 6, 15, 0, 32, 127, 255]
theorem spec_isAdd.tab4 : rtab .any (opsOf Try.f36 4) = spec_isAdd.T4 := by kernel_rfl
theorem spec_isAdd.bits4 : waitsOk spec_isAdd.T4.2 spec_isAdd.B4 = true := by kernel_rfl
set_option maxHeartbeats 8000000 in
set_option maxRecDepth 100000 in
theorem spec_isAdd.calls (k : Nat) (A0 : Option Addr) (c0 : Nat) (l0 : List (S26)) (a1_0 : Int) (a1_1 : Int) (r1 : List (S26)) (r2 : Bool) (w : World) (hr0 : Kd.C k26 w A0 l0.length l0) (hc0 : l0.length ≤ c0) (h : spec_isAdd.f k l0 a1_0 a1_1 = some (r1, r2)) :
  Calls Try.prog 36 #[.slice A0 l0.length c0, .agg #[.int .i64 a1_0, .int .i64 a1_1]] w fun e w' => ∃ v0_ : Value, e = .returned (.tuple #[v0_, .bool r2]) ∧ Kd.R k26 26 w' w.heap.size (fun _ => True) v0_ r1 ∧ Below w.heap.size w w' := by
 have hu26 := Try.underlying26
 have HR0 := Aside0.mk hr0
 have HC0 := Aside0.mk hc0
 clear hr0 hc0
 have HB := Aside0.mk (Below.refl w.heap.size w)
 have H : ((spec_isPlace.f k l0 a1_0 a1_1).bind fun bt167 => (if bt167.2 = true then (some (([] : List (S26)), false)) else (if (l0.length : Int) ≥ 60 then (some (([] : List (S26)), false)) else ((some (([] : List (S26)) : List (S26))).bind fun y169 => (if 0 ≤ bt167.1 then (if bt167.1 ≤ (l0.length : Int) then ((some (l0.take (bt167.1 : Int).toNat : List (S26))).bind fun y172 => (if y169.length + y172.length < 8796093022208 then ((some (y169 ++ y172 : List (S26))).bind fun y176 => ((some (([(⟨a1_0, a1_1⟩ : S26)] : List (S26)) : List (S26))).bind fun y179 => (if y176.length + y179.length < 8796093022208 then ((some (y176 ++ y179 : List (S26))).bind fun y182 => ((some (l0.drop (bt167.1 : Int).toNat : List (S26))).bind fun y185 => (if y182.length + y185.length < 8796093022208 then (some ((y182 ++ y185), true)) else (none)))) else (none)))) else (none))) else (none)) else (none)))))) = some (r1, r2) := h
 clear h
 replace H := Option.bind_eq_some_iff.mp H
 obtain ⟨⟨t167, t168⟩, A30, H⟩ := H

 have A3 := Aside0.mk A30
 clear A30
 by_cases c4 : t168 = true
 ·subst c4
  rw [if_pos rfl] at H
  simp only [Option.some.injEq, Prod.mk.injEq] at H
  obtain ⟨rfl, rfl⟩ := H
  go_enter Try.func36, Try.ntmps36
  go_wp2_with (first | ((with_reducible refine gate_dst (N := 3) rfl ?_); (try (refine gate_guard (by rfl) ?_; dsimp only)); refine box_event ?hg (N := 3) ?hd (cs := #[.int .i64 a1_0, .int .i64 a1_1]) (t := 26) ?hr ?_; (case hd => rfl); (case hg => rfl); (case hr => go_simp <;> rfl); intro gb166 hg w5 hbox hb; have BK166 := Aside0.mk (hbox); have GW166 := Aside0.mk ((by rw [hg]; exact (below_size HB.out) : w.heap.size ≤ gb166)); have GE166 := GW166; replace HB := Aside0.mk (below_step HB.out hb); clear hb hbox hg; have hcz6_0 : w5.cell? ⟨gb166, 0, none⟩ = some (.int .i64 a1_0) := (blk_cell BK166.out 0).trans rfl; have hcz6_1 : w5.cell? ⟨gb166, 1, none⟩ = some (.int .i64 a1_1) := (blk_cell BK166.out 1).trans rfl; have hfz6_0 := blk_frozen BK166.out 0; have hfz6_1 := blk_frozen BK166.out 1) | ((with_reducible refine gate_callee (f := 38) rfl ?_); refine goesL_ (some 12) rfl rfl Try.func38 (by kernel_rfl) rfl #[.slice A0 l0.length c0, .agg #[.int .i64 a1_0, .int .i64 a1_1]] rfl (by (try simp only [List.map_toArray, List.map_cons, List.map_nil]); first | done | rfl | (simp only [List.length_drop, List.length_take]; rfl)) ?_; (with_reducible refine (spec_isPlace.calls k _ _ l0 a1_0 a1_1 t167 true _ ?side1 ?side2 A3.out).mono ?_); (case side1 => exact (Kd.C_below HR0.out HB.out)); (case side2 => exact HC0.out); rintro e w7 ⟨rfl, hb⟩; refine ⟨_, rfl, ?_⟩; replace BK166 := Aside0.mk (blk_below (g := gb166) (o := .cells #[.int .i64 a1_0, .int .i64 a1_1] 26 (0, 0)) (by (with_reducible repeat (first | refine blk_drewN ?_ _ | refine blk_drew ?_ | refine blk_alloc ?_ _)); exact BK166.out) hb); replace HB := Aside0.mk (below_step (by repeat first | exact HB.out | apply below_alloc | apply pw_below_drewN | apply below_drew1 | refine below_set ?_ GE166.out) hb)))
  go_ret2
  exact ⟨_, rfl, Kd.R_nil _ _ _ _ _, HB.out⟩
 ·replace c4 := Bool.eq_false_iff.mpr c4
  subst c4
  rw [if_neg (show ¬ (false = true) by decide)] at H
  by_cases c8 : (l0.length : Int) ≥ 60
  ·rw [if_pos c8] at H
   have c8b0 : decide (60 ≤ (l0.length : Int)) = true := decide_eq_true c8
   have c8b1 : decide (60 ≤ l0.length) = true := decide_eq_true (by omega)
   clear c8
   simp only [Option.some.injEq, Prod.mk.injEq] at H
   obtain ⟨rfl, rfl⟩ := H
   go_enter Try.func36, Try.ntmps36
   go_wp2_with (first | ((with_reducible refine gate_dst (N := 3) rfl ?_); (try (refine gate_guard (by rfl) ?_; dsimp only)); refine box_event ?hg (N := 3) ?hd (cs := #[.int .i64 a1_0, .int .i64 a1_1]) (t := 26) ?hr ?_; (case hd => rfl); (case hg => rfl); (case hr => go_simp <;> rfl); intro gb166 hg w9 hbox hb; have BK166 := Aside0.mk (hbox); have GW166 := Aside0.mk ((by rw [hg]; exact (below_size HB.out) : w.heap.size ≤ gb166)); have GE166 := GW166; replace HB := Aside0.mk (below_step HB.out hb); clear hb hbox hg; have hcz10_0 : w9.cell? ⟨gb166, 0, none⟩ = some (.int .i64 a1_0) := (blk_cell BK166.out 0).trans rfl; have hcz10_1 : w9.cell? ⟨gb166, 1, none⟩ = some (.int .i64 a1_1) := (blk_cell BK166.out 1).trans rfl; have hfz10_0 := blk_frozen BK166.out 0; have hfz10_1 := blk_frozen BK166.out 1) | ((with_reducible refine gate_callee (f := 38) rfl ?_); refine goesL_ (some 12) rfl rfl Try.func38 (by kernel_rfl) rfl #[.slice A0 l0.length c0, .agg #[.int .i64 a1_0, .int .i64 a1_1]] rfl (by (try simp only [List.map_toArray, List.map_cons, List.map_nil]); first | done | rfl | (simp only [List.length_drop, List.length_take]; rfl)) ?_; (with_reducible refine (spec_isPlace.calls k _ _ l0 a1_0 a1_1 t167 false _ ?side1 ?side2 A3.out).mono ?_); (case side1 => exact (Kd.C_below HR0.out HB.out)); (case side2 => exact HC0.out); rintro e w11 ⟨rfl, hb⟩; refine ⟨_, rfl, ?_⟩; replace BK166 := Aside0.mk (blk_below (g := gb166) (o := .cells #[.int .i64 a1_0, .int .i64 a1_1] 26 (0, 0)) (by (with_reducible repeat (first | refine blk_drewN ?_ _ | refine blk_drew ?_ | refine blk_alloc ?_ _)); exact BK166.out) hb); replace HB := Aside0.mk (below_step (by repeat first | exact HB.out | apply below_alloc | apply pw_below_drewN | apply below_drew1 | refine below_set ?_ GE166.out) hb)))
   go_ret2
   exact ⟨_, rfl, Kd.R_nil _ _ _ _ _, HB.out⟩
  ·rw [if_neg c8] at H
   have c8b0 : decide (60 ≤ (l0.length : Int)) = false := decide_eq_false c8
   have c8b1 : decide (60 ≤ l0.length) = false := decide_eq_false (by omega)
   clear c8
   obtain ⟨y169, hy169⟩ : ∃ y_ : List (S26), y_ = (([] : List (S26))) := ⟨_, rfl⟩
   replace H : (if 0 ≤ t167 then (if t167 ≤ (l0.length : Int) then ((some (l0.take (t167 : Int).toNat : List (S26))).bind fun y172 => (if y169.length + y172.length < 8796093022208 then ((some (y169 ++ y172 : List (S26))).bind fun y176 => ((some (([(⟨a1_0, a1_1⟩ : S26)] : List (S26)) : List (S26))).bind fun y179 => (if y176.length + y179.length < 8796093022208 then ((some (y176 ++ y179 : List (S26))).bind fun y182 => ((some (l0.drop (t167 : Int).toNat : List (S26))).bind fun y185 => (if y182.length + y185.length < 8796093022208 then (some ((y182 ++ y185), true)) else (none)))) else (none)))) else (none))) else (none)) else (none)) = some (r1, r2) := by first | (rw [hy169]; with_reducible exact H) | (have H2_ := (Option.bind_some _ _).symm.trans H; rw [hy169]; with_reducible exact H2_) | (have H2_ := (Option.bind_some _ _).symm.trans H; with_reducible exact H2_) | with_reducible exact H | (rw [hy169]; exact H) | exact H
   have Ny169 := Aside0.mk hy169
   clear hy169
   by_cases c12 : 0 ≤ t167
   ·rw [if_pos c12] at H
    have c12b0 := eq_true c12
    have c12b1 : decide (0 ≤ t167) = true := decide_eq_true c12
    clear c12
    by_cases c13 : t167 ≤ (l0.length : Int)
    ·rw [if_pos c13] at H
     have c13b0 := eq_true c13
     have c13b1 : decide (t167 ≤ (l0.length : Int)) = true := decide_eq_true c13
     clear c13
     obtain ⟨y172, hy172⟩ : ∃ y_ : List (S26), y_ = (l0.take (t167 : Int).toNat) := ⟨_, rfl⟩
     replace H : (if y169.length + y172.length < 8796093022208 then ((some (y169 ++ y172 : List (S26))).bind fun y176 => ((some (([(⟨a1_0, a1_1⟩ : S26)] : List (S26)) : List (S26))).bind fun y179 => (if y176.length + y179.length < 8796093022208 then ((some (y176 ++ y179 : List (S26))).bind fun y182 => ((some (l0.drop (t167 : Int).toNat : List (S26))).bind fun y185 => (if y182.length + y185.length < 8796093022208 then (some ((y182 ++ y185), true)) else (none)))) else (none)))) else (none)) = some (r1, r2) := by first | (rw [hy172]; with_reducible exact H) | (have H2_ := (Option.bind_some _ _).symm.trans H; rw [hy172]; with_reducible exact H2_) | (have H2_ := (Option.bind_some _ _).symm.trans H; with_reducible exact H2_) | with_reducible exact H | (rw [hy172]; exact H) | exact H
     have Ny172 := Aside0.mk hy172
     clear hy172
     by_cases c14 : y169.length + y172.length < 8796093022208
     ·rw [if_pos c14] at H
      have LMc14 := Aside0.mk c14
      clear c14
      obtain ⟨y176, hy176⟩ : ∃ y_ : List (S26), y_ = (y169 ++ y172) := ⟨_, rfl⟩
      rw [← hy176] at H
      have Ny176 := Aside0.mk hy176
      clear hy176
      obtain ⟨y179, hy179⟩ : ∃ y_ : List (S26), y_ = (([(⟨a1_0, a1_1⟩ : S26)] : List (S26))) := ⟨_, rfl⟩
      replace H : (if y176.length + y179.length < 8796093022208 then ((some (y176 ++ y179 : List (S26))).bind fun y182 => ((some (l0.drop (t167 : Int).toNat : List (S26))).bind fun y185 => (if y182.length + y185.length < 8796093022208 then (some ((y182 ++ y185), true)) else (none)))) else (none)) = some (r1, r2) := by first | (rw [hy179]; with_reducible exact H) | (have H2_ := (Option.bind_some _ _).symm.trans H; rw [hy179]; with_reducible exact H2_) | (have H2_ := (Option.bind_some _ _).symm.trans H; with_reducible exact H2_) | with_reducible exact H | (rw [hy179]; exact H) | exact H
      have Ny179 := Aside0.mk hy179
      clear hy179
      by_cases c15 : y176.length + y179.length < 8796093022208
      ·rw [if_pos c15] at H
       have LMc15 := Aside0.mk c15
       clear c15
       obtain ⟨y182, hy182⟩ : ∃ y_ : List (S26), y_ = (y176 ++ y179) := ⟨_, rfl⟩
       rw [← hy182] at H
       have Ny182 := Aside0.mk hy182
       clear hy182
       have c16b0 := eq_true (of_decide_eq_true (by assumption) : 0 ≤ t167)
       have c17b0 := eq_true (of_decide_eq_true (by assumption) : t167 ≤ (l0.length : Int))
       obtain ⟨y185, hy185⟩ : ∃ y_ : List (S26), y_ = (l0.drop (t167 : Int).toNat) := ⟨_, rfl⟩
       replace H : (if y182.length + y185.length < 8796093022208 then (some ((y182 ++ y185), true)) else (none)) = some (r1, r2) := by first | (rw [hy185]; with_reducible exact H) | (have H2_ := (Option.bind_some _ _).symm.trans H; rw [hy185]; with_reducible exact H2_) | (have H2_ := (Option.bind_some _ _).symm.trans H; with_reducible exact H2_) | with_reducible exact H | (rw [hy185]; exact H) | exact H
       have Ny185 := Aside0.mk hy185
       clear hy185
       by_cases c18 : y182.length + y185.length < 8796093022208
       ·rw [if_pos c18] at H
        have LMc18 := Aside0.mk c18
        clear c18
        obtain ⟨y189, hy189⟩ : ∃ y_ : List (S26), y_ = (y182 ++ y185) := ⟨_, rfl⟩
        rw [← hy189] at H
        have Ny189 := Aside0.mk hy189
        clear hy189
        simp only [Option.some.injEq, Prod.mk.injEq] at H
        obtain ⟨rfl, rfl⟩ := H
        go_enter Try.func36, Try.ntmps36
        try go_wp2_with (first | ((with_reducible refine gate_dst (N := 3) rfl ?_); (try (refine gate_guard (by rfl) ?_; dsimp only)); refine box_event ?hg (N := 3) ?hd (cs := #[.int .i64 a1_0, .int .i64 a1_1]) (t := 26) ?hr ?_; (case hd => rfl); (case hg => rfl); (case hr => go_simp <;> rfl); intro gb166 hg w19 hbox hb; have BK166 := Aside0.mk (hbox); have GW166 := Aside0.mk ((by rw [hg]; exact (below_size HB.out) : w.heap.size ≤ gb166)); have GE166 := GW166; replace HB := Aside0.mk (below_step HB.out hb); clear hb hbox hg; have hcz20_0 : w19.cell? ⟨gb166, 0, none⟩ = some (.int .i64 a1_0) := (blk_cell BK166.out 0).trans rfl; have hcz20_1 : w19.cell? ⟨gb166, 1, none⟩ = some (.int .i64 a1_1) := (blk_cell BK166.out 1).trans rfl; have hfz20_0 := blk_frozen BK166.out 0; have hfz20_1 := blk_frozen BK166.out 1) | ((with_reducible refine gate_callee (f := 38) rfl ?_); refine goesL_ (some 12) rfl rfl Try.func38 (by kernel_rfl) rfl #[.slice A0 l0.length c0, .agg #[.int .i64 a1_0, .int .i64 a1_1]] rfl (by (try simp only [List.map_toArray, List.map_cons, List.map_nil]); first | done | rfl | (simp only [List.length_drop, List.length_take]; rfl)) ?_; (with_reducible refine (spec_isPlace.calls k _ _ l0 a1_0 a1_1 t167 false _ ?side1 ?side2 A3.out).mono ?_); (case side1 => exact (Kd.C_below HR0.out HB.out)); (case side2 => exact HC0.out); rintro e w21 ⟨rfl, hb⟩; refine ⟨_, rfl, ?_⟩; replace BK166 := Aside0.mk (blk_below (g := gb166) (o := .cells #[.int .i64 a1_0, .int .i64 a1_1] 26 (0, 0)) (by (with_reducible repeat (first | refine blk_drewN ?_ _ | refine blk_drew ?_ | refine blk_alloc ?_ _)); exact BK166.out) hb); replace HB := Aside0.mk (below_step (by repeat first | exact HB.out | apply below_alloc | apply pw_below_drewN | apply below_drew1 | refine below_set ?_ GE166.out) hb)))
        replace BK166 := Aside0.mk (blk_drew BK166.out)
        replace HB := Aside0.mk (below_drew1 HB.out)
        have q23 : (t167 : Int) ≤ ((l0.length : Int) : Int) := of_decide_eq_true (by first | (with_reducible assumption) | assumption)
        obtain ⟨i023, hi023, _, hsz23, _⟩ := info_parts info26
        have hroom23 : l0.length ≤ c0 := HC0.out
        have hC23 : Kd.C k26 _ A0 l0.length l0 := HR0.out
        have hcut23 := cut_to (P := Try.prog) 24 26 .i64 Try.underlying24 hi023 A0 l0.length c0 t167 (of_decide_eq_true (by assumption)) q23 hroom23
        have hr23 := Kd.C_take (m := (t167 : Int).toNat) hC23 (by omega)
        have hy23 : y172.length = (t167 : Int).toNat := (by rw [Ny172.out, List.length_take]; omega)
        rw [← Ny172.out] at hr23
        rw [← hy23] at hcut23
        have HR175 := Aside0.mk hr23
        have HC175 := Aside0.mk (show y172.length ≤ c0 from by omega)
        clear hr23 hC23 hroom23 hi023 hsz23
        have KY23 := Aside0.mk hy23
        clear hy23
        replace q23 := eq_true q23
        refine start_ (n := 9) (S := fun w' => w'.cell? ⟨gb166, 0, none⟩ = some (.int .i64 a1_0) ∧ w'.cell? ⟨gb166, 1, none⟩ = some (.int .i64 a1_1)) (ds := []) M4_0 (by kernel_rfl) rfl rfl ⟨(blk_cell BK166.out 0).trans rfl, (blk_cell BK166.out 1).trans rfl⟩ (fun hHeld => ?_); refine with_tabW spec_isAdd.tab4 spec_isAdd.bits4 (fun HT_ HW_ => ?_)
        generalize w21.drew = w22 at BK166 HB HR175 hHeld ⊢
        refine pure_ (i := 1) (N := some 22) (v := ?_) (a' := ?_) M4_1 rfl rfl (any_of HT_.out (by kernel_rfl)) (fun _ _ _ h => h) (Or.inl ⟨by rfl, ?_⟩) ?_ ?_
        rotate_left
        ·intro w'
         go_simp
         with_reducible rfl
        rotate_left
        ·simp only [sp_]
         rfl
        refine pure_ (i := 2) (N := some 23) (v := ?_) (a' := ?_) M4_2 rfl rfl (any_of HT_.out (by kernel_rfl)) (fun _ _ _ h => h) (Or.inl ⟨by rfl, ?_⟩) ?_ ?_
        rotate_left
        ·intro w'
         go_simp
         with_reducible rfl
        rotate_left
        ·simp only [sp_]
         rfl
        refine pure_ (i := 3) (N := some 24) (v := ?_) (a' := ?_) M4_3 rfl rfl (any_of HT_.out (by kernel_rfl)) (fun _ _ _ h => h) (Or.inl ⟨by rfl, ?_⟩) ?_ ?_
        rotate_left
        ·intro w'
         go_simp
         with_reducible rfl
        rotate_left
        ·simp only [sp_]
         rfl
        refine take_ (i := 5) (N := some 26) (v := ?_) (a' := ?_) M4_4 rfl rfl (take_ofW HT_.out HW_.out (by kernel_rfl)) (fun _ _ _ h => h) (Or.inl ⟨by rfl, ?_⟩) hHeld ?_ ?_
        rotate_left
        ·rintro w' ⟨s0, s1⟩
         go_simp
         with_reducible rfl
        rotate_left
        ·simp only [sp_]
         rfl
        refine join_ (σ := Value × Value × Value) 2 M4_5 (fun s_ => [(21, s_.1), (25, s_.2.1), (27, s_.2.2)]) (fun s_ w' => (w'.cell? ⟨gb166, 0, none⟩ = some (.int .i64 a1_0) ∧ w'.cell? ⟨gb166, 1, none⟩ = some (.int .i64 a1_1)) ∧ (Kd.R k26 26 w' w.heap.size (fun k_ => some k_ ≠ (s_.2.2 : Value).ownBlock ∧ k_ ≠ gb166) s_.2.1 y176) ∧ (Kd.R k26 26 w' w.heap.size (fun k_ => some k_ ≠ (s_.2.1 : Value).ownBlock ∧ k_ ≠ gb166) s_.2.2 y179) ∧ (w'.heap[gb166]? = some (.cells #[.int .i64 a1_0, .int .i64 a1_1] 26 (0, 0))) ∧ (Below w.heap.size w w')) ?_ ?_
        rotate_left
        ·intro hCont
         refine two_ (i := 0) (j := 6) (Ni := some 21) (Nj := some 27) M4_6 M4_7 rfl rfl rfl rfl (two_of HT_.out (by kernel_rfl)) (by decide) (by decide) (fun K hK => ?_) (fun K hK => ?_)
         ·skip
          refine Kd.R_lit_step k26 _ 26 ?hg (N := 21) ?hd (xs := ([] : List (S26))) (inner := []) (ok := fun _ => True) (okp := fun _ => True) ?hr ?hp (fun _ hk => hk) trivial (Below.refl _ _) (Nat.le_refl _) (by simp) ?_; (case hd => rfl); (case hg => rfl); (case hr => go_simp <;> rfl); (case hp => exact (Reps.none _ _))
          intro v170 w24 ho25 hb hg_ hnew_
          clear hg_ hnew_
          (first | rw [← Ny169.out] at ho25 | (simp only [Int.reduceToNat] at ho25; rw [← Ny169.out] at ho25))
          have HO171 := Aside0.mk (Kd.R_lower (Kd.R_newB ho25 (g := gb166) (o := .cells #[.int .i64 a1_0, .int .i64 a1_1] 26 (0, 0)) BK166.out) (below_size HB.out))
          replace BK166 := Aside0.mk (blk_below (g := gb166) (o := .cells #[.int .i64 a1_0, .int .i64 a1_1] 26 (0, 0)) BK166.out hb)
          replace HB := Aside0.mk (below_step HB.out hb)
          clear hb ho25
          refine hK.out _ _ ⟨(blk_cell BK166.out 0).trans rfl, (blk_cell BK166.out 1).trans rfl⟩ (fun hHeld => ?_)
          clear hK K
          refine norm_ (a' := ?_) ?_ ?_
          rotate_left
          ·show Act.put _ (some 21) _ = _
           simp only [sp_]
           rfl
          refine two_ (i := 4) (j := 6) (Ni := some 25) (Nj := some 27) M4_8 M4_9 rfl rfl rfl rfl (two_of HT_.out (by kernel_rfl)) (by decide) (by decide) (fun K hK => ?_) (fun K hK => ?_)
          ·skip
           refine Kd.R_append_rows_step k26 (w0 := w) w.heap.size (by rfl) (.tmp 21) (.tmp 24) 24 26 (.agg #[(.int .i64 0), (.int .i64 0)]) 16 rfl Try.underlying24 info26 rfl (by decide) (by omega) v170 y169 y172 _ _ _ (fun k_ => k_ ≠ gb166) (fun _ => False) rfl rfl ?aO ?aR (fun _ _ h => h) (fun _ h => h.elim) ?aF ?aB ?aS ?aL ?_
           (case aR => exact (Kd.C_below HR175.out HB.out))
           (case aB => exact HB.out)
           (case aF => exact (fun k_ hk => Kd.freshB (g := gb166) (o := .cells #[.int .i64 a1_0, .int .i64 a1_1] 26 (0, 0)) BK166.out k_ hk))
           (case aO => exact (by exact Kd.R_mono HO171.out (fun _ hk => by first | exact hk.2 | (simp only [and_assoc] at hk; simp only [hk]; done) | (simp only [and_assoc] at hk; simp [hk]; done) | simp_all)))
           (case aS => exact (below_size HB.out))
           (case aL => have := LMc14.out; omega)
           intro v177 w26 ho hb hg hat
           rw [← Ny176.out] at ho
           have n0_ := Aside0.mk (blk_grown (g := gb166) (o := .cells #[.int .i64 a1_0, .int .i64 a1_1] 26 (0, 0)) BK166.out hg (Kd.R_away HO171.out (fun _ hk => by first | exact hk.2 | (simp only [and_assoc] at hk; simp only [hk]; done) | (simp only [and_assoc] at hk; simp [hk]; done) | simp_all)))
           have n1_ := Aside0.mk (hb)
           have n2_ := Aside0.mk (ho)
           clear BK166 HB HO171
           have BK166 := n0_
           have HB := n1_
           have HO178 := n2_
           clear n0_ n1_ n2_
           clear ho hb hg hat
           refine hK.out _ _ ⟨(blk_cell BK166.out 0).trans rfl, (blk_cell BK166.out 1).trans rfl⟩ (fun hHeld => ?_)
           clear hK K
           refine norm_ (a' := ?_) ?_ ?_
           rotate_left
           ·show Act.put _ (some 25) _ = _
            simp only [sp_]
            rfl
           refine one_ (i := 6) (N := some 27) M4_5 rfl rfl (one_of HT_.out (by kernel_rfl)) (by decide) (fun K hK => ?_)
           refine Kd.R_lit_step k26 _ 26 ?hg (N := 27) ?hd (xs := ([(⟨a1_0, a1_1⟩ : S26)] : List (S26))) (inner := [.int .i64 a1_0, .int .i64 a1_1]) (ok := fun _ => True) (okp := fun _ => True) ?hr ?hp (fun _ hk => hk) trivial (Below.refl _ _) (Nat.le_refl _) (by simp) ?_; (case hd => rfl); (case hg => rfl); (case hr => go_simp <;> rfl); (case hp => exact (Reps.c2 (show Kd.M k26 _ _ _ (⟨a1_0, a1_1⟩ : S26) [.int .i64 a1_0, .int .i64 a1_1] from (k26_mkM _ _ _ (⟨a1_0, a1_1⟩ : S26) )) (Reps.none _ _)))
           intro v180 w27 ho28 hb hg_ hnew_
           clear hg_ hnew_
           (first | rw [← Ny179.out] at ho28 | (simp only [Int.reduceToNat] at ho28; rw [← Ny179.out] at ho28))
           have HO181 := Aside0.mk (Kd.R_lower (Kd.R_newB (Kd.R_new' ho28 (Kd.R_lt HO178.out)) (g := gb166) (o := .cells #[.int .i64 a1_0, .int .i64 a1_1] 26 (0, 0)) BK166.out) (below_size HB.out))
           replace HO178 := Aside0.mk (Kd.R_elder' HO178.out (Kd.R_base ho28) hb)
           replace BK166 := Aside0.mk (blk_below (g := gb166) (o := .cells #[.int .i64 a1_0, .int .i64 a1_1] 26 (0, 0)) BK166.out hb)
           replace HB := Aside0.mk (below_step HB.out hb)
           clear hb ho28
           refine hK.out _ _ ⟨(blk_cell BK166.out 0).trans rfl, (blk_cell BK166.out 1).trans rfl⟩ (fun hHeld => ?_)
           clear hK K
           refine norm_ (a' := ?_) ?_ ?_
           rotate_left
           ·show Act.put _ (some 27) _ = _
            simp only [sp_]
            rfl
           exact norm_ (by simp only [putAll, Act.put, List.setIfInBounds_toArray, List.set_cons_zero, List.set_cons_succ]) (hCont (v170, v177, v180) _ ⟨hHeld, (by exact Kd.R_mono HO178.out (fun _ hk => ⟨hk.2, hk.1⟩)), (by exact Kd.R_mono HO181.out (fun _ hk => ⟨hk.1.2, hk.2⟩)), BK166.out, HB.out⟩)
          ·skip
           refine Kd.R_lit_step k26 _ 26 ?hg (N := 27) ?hd (xs := ([(⟨a1_0, a1_1⟩ : S26)] : List (S26))) (inner := [.int .i64 a1_0, .int .i64 a1_1]) (ok := fun _ => True) (okp := fun _ => True) ?hr ?hp (fun _ hk => hk) trivial (Below.refl _ _) (Nat.le_refl _) (by simp) ?_; (case hd => rfl); (case hg => rfl); (case hr => go_simp <;> rfl); (case hp => exact (Reps.c2 (show Kd.M k26 _ _ _ (⟨a1_0, a1_1⟩ : S26) [.int .i64 a1_0, .int .i64 a1_1] from (k26_mkM _ _ _ (⟨a1_0, a1_1⟩ : S26) )) (Reps.none _ _)))
           intro v180 w26 ho27 hb hg_ hnew_
           clear hg_ hnew_
           (first | rw [← Ny179.out] at ho27 | (simp only [Int.reduceToNat] at ho27; rw [← Ny179.out] at ho27))
           have HO181 := Aside0.mk (Kd.R_lower (Kd.R_newB (Kd.R_new' ho27 (Kd.R_lt HO171.out)) (g := gb166) (o := .cells #[.int .i64 a1_0, .int .i64 a1_1] 26 (0, 0)) BK166.out) (below_size HB.out))
           replace HO171 := Aside0.mk (Kd.R_elder' HO171.out (Kd.R_base ho27) hb)
           replace BK166 := Aside0.mk (blk_below (g := gb166) (o := .cells #[.int .i64 a1_0, .int .i64 a1_1] 26 (0, 0)) BK166.out hb)
           replace HB := Aside0.mk (below_step HB.out hb)
           clear hb ho27
           refine hK.out _ _ ⟨(blk_cell BK166.out 0).trans rfl, (blk_cell BK166.out 1).trans rfl⟩ (fun hHeld => ?_)
           clear hK K
           refine norm_ (a' := ?_) ?_ ?_
           rotate_left
           ·show Act.put _ (some 27) _ = _
            simp only [sp_]
            rfl
           refine one_ (i := 4) (N := some 25) M4_5 rfl rfl (one_of HT_.out (by kernel_rfl)) (by decide) (fun K hK => ?_)
           refine Kd.R_append_rows_step k26 (w0 := w) w.heap.size (by rfl) (.tmp 21) (.tmp 24) 24 26 (.agg #[(.int .i64 0), (.int .i64 0)]) 16 rfl Try.underlying24 info26 rfl (by decide) (by omega) v170 y169 y172 _ _ _ (fun k_ => some k_ ≠ (v180 : Value).ownBlock ∧ k_ ≠ gb166) (fun _ => False) rfl rfl ?aO ?aR (fun _ _ h => h) (fun _ h => h.elim) ?aF ?aB ?aS ?aL ?_
           (case aR => exact (Kd.C_below HR175.out HB.out))
           (case aB => exact HB.out)
           (case aF => exact (fun k_ hk => ⟨Kd.fresh' (Kd.R_lt HO181.out) k_ hk, Kd.freshB (g := gb166) (o := .cells #[.int .i64 a1_0, .int .i64 a1_1] 26 (0, 0)) BK166.out k_ hk⟩))
           (case aO => exact (by exact Kd.R_mono HO171.out (fun _ hk => ⟨hk.2, hk.1.2⟩)))
           (case aS => exact (below_size HB.out))
           (case aL => have := LMc14.out; omega)
           intro v177 w28 ho hb hg hat
           rw [← Ny176.out] at ho
           have n0_ := Aside0.mk (blk_grown (g := gb166) (o := .cells #[.int .i64 a1_0, .int .i64 a1_1] 26 (0, 0)) BK166.out hg (Kd.R_away HO171.out (fun _ hk => by first | exact hk.1.2 | (simp only [and_assoc] at hk; simp only [hk]; done) | (simp only [and_assoc] at hk; simp [hk]; done) | simp_all)))
           have n1_ := Aside0.mk (Kd.R_after (ok := (fun k_ => k_ ≠ gb166)) (by exact Kd.R_mono HO181.out (fun _ hk => ⟨hk.2, hk.1.2⟩)) hg hat)
           have n2_ := Aside0.mk (hb)
           have n3_ := Aside0.mk (ho)
           clear BK166 HO181 HB HO171
           have BK166 := n0_
           have HO181 := n1_
           have HB := n2_
           have HO178 := n3_
           clear n0_ n1_ n2_ n3_
           clear ho hb hg hat
           refine hK.out _ _ ⟨(blk_cell BK166.out 0).trans rfl, (blk_cell BK166.out 1).trans rfl⟩ (fun hHeld => ?_)
           clear hK K
           refine norm_ (a' := ?_) ?_ ?_
           rotate_left
           ·show Act.put _ (some 25) _ = _
            simp only [sp_]
            rfl
           exact norm_ (by simp only [putAll, Act.put, List.setIfInBounds_toArray, List.set_cons_zero, List.set_cons_succ]) (hCont (v170, v177, v180) _ ⟨hHeld, HO178.out, (by exact Kd.R_mono HO181.out (fun _ hk => ⟨hk.2, hk.1⟩)), BK166.out, HB.out⟩)
         ·skip
          refine Kd.R_lit_step k26 _ 26 ?hg (N := 27) ?hd (xs := ([(⟨a1_0, a1_1⟩ : S26)] : List (S26))) (inner := [.int .i64 a1_0, .int .i64 a1_1]) (ok := fun _ => True) (okp := fun _ => True) ?hr ?hp (fun _ hk => hk) trivial (Below.refl _ _) (Nat.le_refl _) (by simp) ?_; (case hd => rfl); (case hg => rfl); (case hr => go_simp <;> rfl); (case hp => exact (Reps.c2 (show Kd.M k26 _ _ _ (⟨a1_0, a1_1⟩ : S26) [.int .i64 a1_0, .int .i64 a1_1] from (k26_mkM _ _ _ (⟨a1_0, a1_1⟩ : S26) )) (Reps.none _ _)))
          intro v180 w24 ho25 hb hg_ hnew_
          clear hg_ hnew_
          (first | rw [← Ny179.out] at ho25 | (simp only [Int.reduceToNat] at ho25; rw [← Ny179.out] at ho25))
          have HO181 := Aside0.mk (Kd.R_lower (Kd.R_newB ho25 (g := gb166) (o := .cells #[.int .i64 a1_0, .int .i64 a1_1] 26 (0, 0)) BK166.out) (below_size HB.out))
          replace BK166 := Aside0.mk (blk_below (g := gb166) (o := .cells #[.int .i64 a1_0, .int .i64 a1_1] 26 (0, 0)) BK166.out hb)
          replace HB := Aside0.mk (below_step HB.out hb)
          clear hb ho25
          refine hK.out _ _ ⟨(blk_cell BK166.out 0).trans rfl, (blk_cell BK166.out 1).trans rfl⟩ (fun hHeld => ?_)
          clear hK K
          refine norm_ (a' := ?_) ?_ ?_
          rotate_left
          ·show Act.put _ (some 27) _ = _
           simp only [sp_]
           rfl
          refine one_ (i := 0) (N := some 21) M4_9 rfl rfl (one_of HT_.out (by kernel_rfl)) (by decide) (fun K hK => ?_)
          refine Kd.R_lit_step k26 _ 26 ?hg (N := 21) ?hd (xs := ([] : List (S26))) (inner := []) (ok := fun _ => True) (okp := fun _ => True) ?hr ?hp (fun _ hk => hk) trivial (Below.refl _ _) (Nat.le_refl _) (by simp) ?_; (case hd => rfl); (case hg => rfl); (case hr => go_simp <;> rfl); (case hp => exact (Reps.none _ _))
          intro v170 w26 ho27 hb hg_ hnew_
          clear hg_ hnew_
          (first | rw [← Ny169.out] at ho27 | (simp only [Int.reduceToNat] at ho27; rw [← Ny169.out] at ho27))
          have HO171 := Aside0.mk (Kd.R_lower (Kd.R_newB (Kd.R_new' ho27 (Kd.R_lt HO181.out)) (g := gb166) (o := .cells #[.int .i64 a1_0, .int .i64 a1_1] 26 (0, 0)) BK166.out) (below_size HB.out))
          replace HO181 := Aside0.mk (Kd.R_elder' HO181.out (Kd.R_base ho27) hb)
          replace BK166 := Aside0.mk (blk_below (g := gb166) (o := .cells #[.int .i64 a1_0, .int .i64 a1_1] 26 (0, 0)) BK166.out hb)
          replace HB := Aside0.mk (below_step HB.out hb)
          clear hb ho27
          refine hK.out _ _ ⟨(blk_cell BK166.out 0).trans rfl, (blk_cell BK166.out 1).trans rfl⟩ (fun hHeld => ?_)
          clear hK K
          refine norm_ (a' := ?_) ?_ ?_
          rotate_left
          ·show Act.put _ (some 21) _ = _
           simp only [sp_]
           rfl
          refine one_ (i := 4) (N := some 25) M4_5 rfl rfl (one_of HT_.out (by kernel_rfl)) (by decide) (fun K hK => ?_)
          refine Kd.R_append_rows_step k26 (w0 := w) w.heap.size (by rfl) (.tmp 21) (.tmp 24) 24 26 (.agg #[(.int .i64 0), (.int .i64 0)]) 16 rfl Try.underlying24 info26 rfl (by decide) (by omega) v170 y169 y172 _ _ _ (fun k_ => some k_ ≠ (v180 : Value).ownBlock ∧ k_ ≠ gb166) (fun _ => False) rfl rfl ?aO ?aR (fun _ _ h => h) (fun _ h => h.elim) ?aF ?aB ?aS ?aL ?_
          (case aR => exact (Kd.C_below HR175.out HB.out))
          (case aB => exact HB.out)
          (case aF => exact (fun k_ hk => ⟨Kd.fresh' (Kd.R_lt HO181.out) k_ hk, Kd.freshB (g := gb166) (o := .cells #[.int .i64 a1_0, .int .i64 a1_1] 26 (0, 0)) BK166.out k_ hk⟩))
          (case aO => exact (by exact Kd.R_mono HO171.out (fun _ hk => ⟨hk.1.2, hk.2⟩)))
          (case aS => exact (below_size HB.out))
          (case aL => have := LMc14.out; omega)
          intro v177 w28 ho hb hg hat
          rw [← Ny176.out] at ho
          have n0_ := Aside0.mk (blk_grown (g := gb166) (o := .cells #[.int .i64 a1_0, .int .i64 a1_1] 26 (0, 0)) BK166.out hg (Kd.R_away HO171.out (fun _ hk => by first | exact hk.2 | (simp only [and_assoc] at hk; simp only [hk]; done) | (simp only [and_assoc] at hk; simp [hk]; done) | simp_all)))
          have n1_ := Aside0.mk (Kd.R_after (ok := (fun k_ => k_ ≠ gb166)) (by exact Kd.R_mono HO181.out (fun _ hk => ⟨hk.1.2, hk.2⟩)) hg hat)
          have n2_ := Aside0.mk (hb)
          have n3_ := Aside0.mk (ho)
          clear BK166 HO181 HB HO171
          have BK166 := n0_
          have HO181 := n1_
          have HB := n2_
          have HO178 := n3_
          clear n0_ n1_ n2_ n3_
          clear ho hb hg hat
          refine hK.out _ _ ⟨(blk_cell BK166.out 0).trans rfl, (blk_cell BK166.out 1).trans rfl⟩ (fun hHeld => ?_)
          clear hK K
          refine norm_ (a' := ?_) ?_ ?_
          rotate_left
          ·show Act.put _ (some 25) _ = _
           simp only [sp_]
           rfl
          exact norm_ (by simp only [putAll, Act.put, List.setIfInBounds_toArray, List.set_cons_zero, List.set_cons_succ]) (hCont (v170, v177, v180) _ ⟨hHeld, HO178.out, (by exact Kd.R_mono HO181.out (fun _ hk => ⟨hk.2, hk.1⟩)), BK166.out, HB.out⟩)
        rintro ⟨v170, v177, v180⟩ w29 ⟨hS_, h0_, h1_, h2_, h3_⟩
        have n0_ : Aside0 (Kd.R k26 26 w29 w.heap.size (fun k_ => some k_ ≠ (v180 : Value).ownBlock ∧ k_ ≠ gb166) v177 y176) := ⟨h0_⟩
        have n1_ : Aside0 (Kd.R k26 26 w29 w.heap.size (fun k_ => some k_ ≠ (v177 : Value).ownBlock ∧ k_ ≠ gb166) v180 y179) := ⟨h1_⟩
        have n2_ : Aside0 (w29.heap[gb166]? = some (.cells #[.int .i64 a1_0, .int .i64 a1_1] 26 (0, 0))) := ⟨h2_⟩
        have n3_ : Aside0 (Below w.heap.size w w29) := ⟨h3_⟩
        clear BK166 HB
        clear h0_ h1_ h2_ h3_
        have HO178 := n0_
        have HO181 := n1_
        have BK166 := n2_
        have HB := n3_
        clear n0_ n1_ n2_ n3_
        have hHeld : w29.cell? ⟨gb166, 0, none⟩ = some (.int .i64 a1_0) ∧ w29.cell? ⟨gb166, 1, none⟩ = some (.int .i64 a1_1) := hS_
        obtain ⟨Ao31, co31, eo31⟩ := Kd.R_slice HO181.out
        (first | subst eo31 | (injection eo31 with f1_ f2_ f3_; have f4_ := f1_.symm; have f5_ := f3_.symm; clear f1_ f2_ f3_; subst f4_; subst f5_))
        refine norm_ (a' := ?_) ?_ ?_
        rotate_left
        ·simp only [putAll, Act.put, List.setIfInBounds_toArray, List.set_cons_zero, List.set_cons_succ]
         rfl
        refine one_ (i := 7) (N := some 28) M4_10 rfl rfl (one_of HT_.out (by kernel_rfl)) (by decide) (fun K hK => ?_)
        refine Kd.R_append_rows_step k26 (w0 := w) w.heap.size (by rfl) (.tmp 25) (.tmp 27) 24 26 (.agg #[(.int .i64 0), (.int .i64 0)]) 16 rfl Try.underlying24 info26 rfl (by decide) (by omega) v177 y176 y179 _ _ _ (fun k_ => some k_ ≠ (.slice Ao31 y179.length co31 : Value).ownBlock ∧ k_ ≠ gb166) (fun _ => False) rfl rfl ?aO ?aR (fun _ _ h => h) (fun _ h => h.elim) ?aF ?aB ?aS ?aL ?_
        (case aR => repeat (first | exact (Kd.R_reads' HO181.out).2.2 | (with_reducible refine Kd.C_alloc ?_ _) | (with_reducible refine Kd.C_drewN ?_ _) | (with_reducible refine Kd.C_drew ?_)))
        (case aB => exact HB.out)
        (case aF => exact (fun k_ hk => ⟨Kd.fresh' (Kd.R_lt HO181.out) k_ hk, Kd.freshB (g := gb166) (o := .cells #[.int .i64 a1_0, .int .i64 a1_1] 26 (0, 0)) BK166.out k_ hk⟩))
        (case aO => exact HO178.out)
        (case aS => exact (below_size HB.out))
        (case aL => have := LMc15.out; omega)
        intro v183 w30 ho hb hg hat
        rw [← Ny182.out] at ho
        have n0_ := Aside0.mk (blk_grown (g := gb166) (o := .cells #[.int .i64 a1_0, .int .i64 a1_1] 26 (0, 0)) BK166.out hg (Kd.R_away HO178.out (fun _ hk => by first | exact hk.2 | (simp only [and_assoc] at hk; simp only [hk]; done) | (simp only [and_assoc] at hk; simp [hk]; done) | simp_all)))
        have n1_ := Aside0.mk (Kd.R_after (ok := (fun k_ => k_ ≠ gb166)) (by exact Kd.R_mono HO181.out (fun _ hk => ⟨hk.2, hk.1⟩)) hg hat)
        have n2_ := Aside0.mk (hb)
        have n3_ := Aside0.mk (ho)
        clear BK166 HO181 HB HO178
        have BK166 := n0_
        have HO181 := n1_
        have HB := n2_
        have HO184 := n3_
        clear n0_ n1_ n2_ n3_
        clear ho hb hg hat
        refine hK.out _ _ ⟨(blk_cell BK166.out 0).trans rfl, (blk_cell BK166.out 1).trans rfl⟩ (fun hHeld => ?_)
        clear hK K
        refine norm_ (a' := ?_) ?_ ?_
        rotate_left
        ·show Act.put _ (some 28) _ = _
         simp only [sp_]
         rfl
        refine pure_ (i := 8) (N := some 8) (v := ?_) (a' := ?_) M4_11 rfl rfl (any_of HT_.out (by kernel_rfl)) (fun _ _ _ h => h) (Or.inl ⟨by rfl, ?_⟩) ?_ ?_
        rotate_left
        ·intro w'
         go_simp
         with_reducible rfl
        rotate_left
        ·simp only [sp_]
         rfl
        refine done_ (done_of HT_.out (by kernel_rfl)) ?_
        have q32 : (t167 : Int) ≤ ((l0.length : Int) : Int) := of_decide_eq_true (by assumption)
        obtain ⟨i032, hi032, _, hsz32, _⟩ := info_parts info26
        have hroom32 : l0.length ≤ c0 := HC0.out
        have hC32 : Kd.C k26 _ A0 l0.length l0 := HR0.out
        have q032 : (0 : Int) ≤ (t167 : Int) := of_decide_eq_true (by assumption)
        have hcut32 := cut_from (P := Try.prog) 24 26 .i64 Try.underlying24 hi032 2 hsz32 A0 l0.length c0 t167 q032 q32
        have hr32 := Kd.C_drop (m := (t167 : Int).toNat) (c := c0) hC32 (by omega) hroom32
        obtain ⟨A32, hA32⟩ : ∃ A1, A1 = (if c0 = (t167 : Int).toNat then A0 else (A0 : Option Addr).map (·.add ((t167 : Int).toNat * 2))) := ⟨_, rfl⟩
        obtain ⟨c32, hc32⟩ : ∃ c1, c1 = c0 - (t167 : Int).toNat := ⟨_, rfl⟩
        have hy32 : y185.length = l0.length - (t167 : Int).toNat := (by rw [Ny185.out, List.length_drop] <;> omega)
        rw [show (l0).drop (t167 : Int).toNat = y185 from Ny185.out.symm] at hr32
        replace hr32 : Kd.C k26 _ A32 y185.length y185 := (by rw [hA32]; exact hr32)
        rw [← hy32, ← hA32, ← hc32] at hcut32
        have HR188 := Aside0.mk hr32
        have HC188 := Aside0.mk (show y185.length ≤ c32 from by rw [hy32, hc32]; exact Nat.sub_le_sub_right hroom32 _)
        clear hr32 hC32 hroom32 hi032 hsz32 hc32
        have KY32 := Aside0.mk hy32
        have KA32 := Aside0.mk hA32
        clear hy32 hA32
        replace q32 := eq_true q32
        try go_wp2_with (first | ((with_reducible refine gate_builtin (b := .append) (xs := #[.tmp 29, .tmp 32]) rfl ?_); (try (refine gate_guard (by rfl) ?_; dsimp only)); at_builtin; refine Kd.R_append_rows k26 (w0 := w) w.heap.size rfl (.tmp 29) (.tmp 32) 24 26 (.agg #[(.int .i64 0), (.int .i64 0)]) 16 rfl Try.underlying24 info26 rfl (by decide) (by omega) v183 y182 y185 _ _ _ (fun k_ => some k_ ≠ (.slice Ao31 y179.length co31 : Value).ownBlock ∧ k_ ≠ gb166) (fun _ => False) rfl rfl ?aO ?aR (fun _ _ h => h) (fun _ h => h.elim) ?aF ?aB ?aS ?aL ?_; (case aR => exact (Kd.C_below HR188.out HB.out)); (case aB => exact HB.out); (case aF => exact (fun k_ hk => ⟨Kd.fresh' (Kd.R_lt HO181.out) k_ hk, Kd.freshB (g := gb166) (o := .cells #[.int .i64 a1_0, .int .i64 a1_1] 26 (0, 0)) BK166.out k_ hk⟩)); (case aO => exact HO184.out); (case aS => exact (below_size HB.out)); (case aL => have := LMc18.out; omega); intro v190 w33 ho hb hg hat; rw [← Ny189.out] at ho; have n0_ := Aside0.mk (blk_grown (g := gb166) (o := .cells #[.int .i64 a1_0, .int .i64 a1_1] 26 (0, 0)) BK166.out hg (Kd.R_away HO184.out (fun _ hk => by first | exact hk.2 | (simp only [and_assoc] at hk; simp only [hk]; done) | (simp only [and_assoc] at hk; simp [hk]; done) | simp_all))); have n1_ := Aside0.mk (Kd.R_after (ok := (fun k_ => k_ ≠ gb166)) HO181.out hg hat); have n2_ := Aside0.mk (hb); have n3_ := Aside0.mk (ho); clear BK166; clear HO181; clear HB; clear HO184; have BK166 := n0_; have HO181 := n1_; have HB := n2_; have HO191 := n3_; clear n0_ n1_ n2_ n3_; clear ho hb hg hat))
        go_ret2
        exact ⟨_, rfl, by exact Kd.R_mono HO191.out (fun _ hk => trivial), HB.out⟩
       ·rw [if_neg c18] at H
        exact absurd H (by simp)
      ·rw [if_neg c15] at H
       exact absurd H (by simp)
     ·rw [if_neg c14] at H
      exact absurd H (by simp)
    ·rw [if_neg c13] at H
     exact absurd H (by simp)
   ·rw [if_neg c12] at H
    exact absurd H (by simp)

/-! ### spec_l1Cur_surePlates: function 63 -/
def spec_l1Cur_surePlates.l0 : Nat → List (S26) → Int → List Int → Int → Int → Option ((List (S26)) × Int × Int)
 | 0, _, _, _, _, _ => none
 | k + 1, x5, x6, x1000, x1001, x1002 => if x6 > 0 then ((spec_l1Cur_surePlate.f x1000 x1001 x1002).bind fun bt202 => ((spec_isAdd.f k x5 bt202.1 bt202.2.1).bind fun bt206 => (if bt206.2 = true then (spec_l1Cur_surePlates.l0 k bt206.1 (wrap64 (x6 - 1)) x1000 bt202.2.2.1 bt202.2.2.2) else (spec_l1Cur_surePlates.l0 k x5 (wrap64 (x6 - 1)) x1000 bt202.2.2.1 bt202.2.2.2)))) else (some (x5, x1001, x1002))
def spec_l1Cur_surePlates.f (k : Nat) (s0_0 : List Int) (s0_1 : Int) (s0_2 : Int) (a1 : Int) : Option ((List (S26)) × Int × Int) := (spec_l1Cur_surePlate.f s0_0 s0_1 s0_2).bind fun bt192 => ((spec_l1Cur_pick.f s0_0 bt192.2.2.1 bt192.2.2.2 a1).bind fun bt199 => (spec_l1Cur_surePlates.l0 k (([(⟨bt192.1, bt192.2.1⟩ : S26)] : List (S26))) bt199.1 s0_0 bt199.2.1 bt199.2.2))
set_option maxHeartbeats 8000000 in
set_option maxRecDepth 100000 in
theorem spec_l1Cur_surePlates.calls (k : Nat) (g : Nat) (s0_0 : List Int) (s0_1 : Int) (s0_2 : Int) (a1 : Int) (r1 : List (S26)) (r2 : Int) (r3 : Int) (w0 w : World) (hI : IsS65 w0 w g s0_0 s0_1 s0_2) (hB : Below w0.heap.size w0 w) (h : spec_l1Cur_surePlates.f k s0_0 s0_1 s0_2 a1 = some (r1, r2, r3)) :
  Calls Try.prog 63 #[.pointer (some ⟨g, 0, none⟩), .int .i64 a1] w fun e w' => ∃ v0_ : Value, e = .returned (v0_) ∧ Kd.R k26 26 w' w.heap.size (fun _ => True) v0_ r1 ∧ IsS65 w0 w' g s0_0 r2 r3 ∧ Below w0.heap.size w0 w' ∧ KeepBut w w' g none := by
 have HI0 := Aside0.mk hI
 have HK := Aside0.mk (KeepBut.refl w g none)
 have HL := Aside0.mk hB.size
 clear hI
 have HW0 := Aside0.mk hB.size
 have HB := Aside0.mk hB
 clear hB
 have H : ((spec_l1Cur_surePlate.f s0_0 s0_1 s0_2).bind fun bt192 => ((spec_l1Cur_pick.f s0_0 bt192.2.2.1 bt192.2.2.2 a1).bind fun bt199 => (spec_l1Cur_surePlates.l0 k (([(⟨bt192.1, bt192.2.1⟩ : S26)] : List (S26))) bt199.1 s0_0 bt199.2.1 bt199.2.2))) = some (r1, r2, r3) := h
 clear h
 replace H := Option.bind_eq_some_iff.mp H
 obtain ⟨⟨t192, t193, t194, t195⟩, A30, H⟩ := H
 replace H : ((spec_l1Cur_pick.f s0_0 t194 t195 a1).bind fun bt199 => (spec_l1Cur_surePlates.l0 k (([(⟨t192, t193⟩ : S26)] : List (S26))) bt199.1 s0_0 bt199.2.1 bt199.2.2)) = some (r1, r2, r3) := H
 have A3 := Aside0.mk A30
 clear A30
 obtain ⟨y196, hy196⟩ : ∃ y_ : List (S26), y_ = (([(⟨t192, t193⟩ : S26)] : List (S26))) := ⟨_, rfl⟩
 replace H : ((spec_l1Cur_pick.f s0_0 t194 t195 a1).bind fun bt199 => (spec_l1Cur_surePlates.l0 k y196 bt199.1 s0_0 bt199.2.1 bt199.2.2)) = some (r1, r2, r3) := by first | (rw [hy196]; with_reducible exact H) | (have H2_ := (Option.bind_some _ _).symm.trans H; rw [hy196]; with_reducible exact H2_) | (have H2_ := (Option.bind_some _ _).symm.trans H; with_reducible exact H2_) | with_reducible exact H | (rw [hy196]; exact H) | exact H
 have Ny196 := Aside0.mk hy196
 clear hy196
 replace H := Option.bind_eq_some_iff.mp H
 obtain ⟨⟨t199, t200, t201⟩, A40, H⟩ := H
 replace H : (spec_l1Cur_surePlates.l0 k y196 t199 s0_0 t200 t201) = some (r1, r2, r3) := H
 have A4 := Aside0.mk A40
 clear A40
 have H' := Aside0.mk H
 clear H
 go_enter Try.func63, Try.ntmps63
 go_wp2_with (first | ((with_reducible refine gate_callee (f := 65) rfl ?_); refine goesL_ (some 10) rfl rfl Try.func65 (by kernel_rfl) rfl #[.pointer (some ⟨g, 0, none⟩)] rfl (by (try simp only [List.map_toArray, List.map_cons, List.map_nil]); first | done | rfl | (simp only [List.length_drop, List.length_take]; rfl)) ?_; (with_reducible refine (spec_l1Cur_surePlate.calls g s0_0 s0_1 s0_2 t192 t193 t194 t195 w0 _ ?side1 ?side2 A3.out).mono ?_); (case side1 => repeat first | exact HI0.out | apply IsS65.alloc | apply IsS65.drewN | apply IsS65.drew | apply IsS65.set_1 | apply IsS65.set_2); (case side2 => repeat first | exact HB.out | apply below_alloc | apply pw_below_drewN | apply below_drew1 | refine below_set ?_ (IsS65.ge HI0.out)); rintro e w5 ⟨rfl, hi, hb, hk⟩; refine ⟨_, rfl, ?_⟩; replace HK := Aside0.mk (KeepBut.trans (by repeat first | exact HK.out | apply KeepBut.set_ | apply keep_drewN | apply keep_drew | apply keep_alloc) hk (.inl rfl)); replace HB := Aside0.mk (hb); replace HI0 := Aside0.mk (hi)) | ((with_reducible refine gate_dst (N := 11) rfl ?_); refine Kd.R_lit k26 _ 26 ?hg (N := 11) ?hd (xs := ([(⟨t192, t193⟩ : S26)] : List (S26))) (inner := [.int .i64 t192, .int .i64 t193]) (ok := fun _ => True) (okp := fun _ => True) ?hr ?hp (fun _ hk => hk) trivial (Below.refl _ _) (Nat.le_refl _) (by simp) ?_; (case hd => rfl); (case hg => rfl); (case hr => first | (go_simp; done) | (go_simp; rfl)); (case hp => exact (Reps.c2 (show Kd.M k26 _ _ _ (⟨t192, t193⟩ : S26) [.int .i64 t192, .int .i64 t193] from (k26_mkM _ _ _ (⟨t192, t193⟩ : S26) )) (Reps.none _ _))); intro v197 w6 ho7 hb hg_ hnew_; clear hg_ hnew_; (first | rw [← Ny196.out] at ho7 | (simp only [Int.reduceToNat] at ho7; rw [← Ny196.out] at ho7)); have HO198 := Aside0.mk (Kd.R_lower ho7 (keep_size (w := w) (g := g) (row := none) (by repeat first | exact HK.out | apply KeepBut.set_ | apply keep_drewN | apply keep_drew | apply keep_alloc))); replace HK := Aside0.mk (KeepBut.trans (by repeat first | exact HK.out | apply KeepBut.set_ | apply keep_drewN | apply keep_drew | apply keep_alloc) (KeepBut.of_below hb g none) (.inl rfl)); replace HB := Aside0.mk (below_step (by repeat first | exact HB.out | apply below_alloc | apply pw_below_drewN | apply below_drew1 | refine below_set ?_ (IsS65.ge HI0.out)) hb); replace HI0 := Aside0.mk (IsS65.below (by repeat first | exact HI0.out | apply IsS65.alloc | apply IsS65.drewN | apply IsS65.drew | apply IsS65.set_1 | apply IsS65.set_2) hb); clear hb ho7) | ((with_reducible refine gate_callee (f := 50) rfl ?_); refine goesL_ (some 14) rfl rfl Try.func50 (by kernel_rfl) rfl #[.pointer (some ⟨g, 0, none⟩), .int .i64 a1] rfl (by (try simp only [List.map_toArray, List.map_cons, List.map_nil]); first | done | rfl | (simp only [List.length_drop, List.length_take]; rfl)) ?_; (with_reducible refine (spec_l1Cur_pick.calls g s0_0 t194 t195 a1 t199 t200 t201 w0 _ ?side1 ?side2 A4.out).mono ?_); (case side1 => repeat first | exact HI0.out | apply IsS65.alloc | apply IsS65.drewN | apply IsS65.drew | apply IsS65.set_1 | apply IsS65.set_2); (case side2 => repeat first | exact HB.out | apply below_alloc | apply pw_below_drewN | apply below_drew1 | refine below_set ?_ (IsS65.ge HI0.out)); rintro e w8 ⟨rfl, hi, hb, hk⟩; refine ⟨_, rfl, ?_⟩; replace HO198 := Aside0.mk (Kd.R_mono (Kd.R_keep (IsS65.apart (show IsS65 w0 _ g s0_0 t194 t195 from by repeat first | exact HI0.out | apply IsS65.alloc | apply IsS65.drewN | apply IsS65.drew | apply IsS65.set_1 | apply IsS65.set_2) (by (with_reducible repeat (first | apply Kd.R_alloc | apply Kd.R_drewN | apply Kd.R_drew)); exact HO198.out) (by decide)) hk (fun _ h => h.2)) (fun _ h => h.1)); replace HK := Aside0.mk (KeepBut.trans (by repeat first | exact HK.out | apply KeepBut.set_ | apply keep_drewN | apply keep_drew | apply keep_alloc) hk (.inl rfl)); replace HB := Aside0.mk (hb); replace HI0 := Aside0.mk (hi)))
 go_loopg [5, 6] k (fun kq v5 v6 w' => ∃ (x5_1 : List (S26)) (x6_1 : Int) (x1001_1 : Int) (x1002_1 : Int), v6 = .int .i64 x6_1 ∧ Aside0 (spec_l1Cur_surePlates.l0 kq x5_1 x6_1 s0_0 x1001_1 x1002_1 = some (r1, r2, r3)) ∧ Aside0 (kq ≤ k) ∧ Aside0 (Kd.R k26 26 w' w.heap.size (fun _ => True) v5 x5_1) ∧ Aside0 (IsS65 w0 w' g s0_0 x1001_1 x1002_1) ∧ Aside0 (KeepBut w w' g none) ∧ Aside0 (Below w0.heap.size w0 w'))
 case atStart => exact ⟨(y196), (t199), (t200), (t201), (by first | rfl | (simp; done) | (simp [*]; done)), H', ⟨Nat.le_refl _⟩, ⟨by (with_reducible repeat (first | apply Kd.R_alloc | apply Kd.R_drewN | apply Kd.R_drew)); exact HO198.out⟩, ⟨by repeat first | exact HI0.out | apply IsS65.alloc | apply IsS65.drewN | apply IsS65.drew | apply IsS65.set_1 | apply IsS65.set_2⟩, ⟨by repeat first | exact HK.out | apply KeepBut.set_ | apply keep_drewN | apply keep_drew | apply keep_alloc⟩, ⟨by repeat first | exact HB.out | apply below_alloc | apply pw_below_drewN | apply below_drew1 | refine below_set ?_ (IsS65.ge HI0.out)⟩⟩
 case round =>
  clear H'
  try clear c2
  try clear p2
  try clear c5
  try clear c6
  obtain ⟨x5_1, x6_1, x1001_1, x1002_1, rfl, HA, HK1, HO_5, HI0, HK, HB⟩ := hrel
  cases gk with
  | zero => exact absurd HA.out (by simp [spec_l1Cur_surePlates.l0])
  | succ k1 =>
   have H := HA.out
   clear HA
   simp only [spec_l1Cur_surePlates.l0] at H
   by_cases c9 : x6_1 > 0
   ·rw [if_pos c9] at H
    have c9b0 : decide (0 < x6_1) = true := decide_eq_true c9
    clear c9
    replace H := Option.bind_eq_some_iff.mp H
    obtain ⟨⟨t202, t203, t204, t205⟩, A100, H⟩ := H
    replace H : ((spec_isAdd.f k1 x5_1 t202 t203).bind fun bt206 => (if bt206.2 = true then (spec_l1Cur_surePlates.l0 k1 bt206.1 (wrap64 (x6_1 - 1)) s0_0 t204 t205) else (spec_l1Cur_surePlates.l0 k1 x5_1 (wrap64 (x6_1 - 1)) s0_0 t204 t205))) = some (r1, r2, r3) := H
    have A10 := Aside0.mk A100
    clear A100
    replace H := Option.bind_eq_some_iff.mp H
    obtain ⟨⟨t206, t209⟩, A110, H⟩ := H
    replace H : (if t209 = true then (spec_l1Cur_surePlates.l0 k1 t206 (wrap64 (x6_1 - 1)) s0_0 t204 t205) else (spec_l1Cur_surePlates.l0 k1 x5_1 (wrap64 (x6_1 - 1)) s0_0 t204 t205)) = some (r1, r2, r3) := H
    have A11 := Aside0.mk A110
    clear A110
    by_cases c12 : t209 = true
    ·subst c12
     rw [if_pos rfl] at H
     have H' := Aside0.mk H
     clear H
     go_wp2_with (first | ((with_reducible refine gate_callee (f := 65) rfl ?_); refine goesL_ (some 22) rfl rfl Try.func65 (by kernel_rfl) rfl #[.pointer (some ⟨g, 0, none⟩)] rfl (by (try simp only [List.map_toArray, List.map_cons, List.map_nil]); first | done | rfl | (simp only [List.length_drop, List.length_take]; rfl)) ?_; (with_reducible refine (spec_l1Cur_surePlate.calls g s0_0 x1001_1 x1002_1 t202 t203 t204 t205 w0 _ ?side1 ?side2 A10.out).mono ?_); (case side1 => repeat first | exact HI0.out | apply IsS65.alloc | apply IsS65.drewN | apply IsS65.drew | apply IsS65.set_1 | apply IsS65.set_2); (case side2 => repeat first | exact HB.out | apply below_alloc | apply pw_below_drewN | apply below_drew1 | refine below_set ?_ (IsS65.ge HI0.out)); rintro e w13 ⟨rfl, hi, hb, hk⟩; refine ⟨_, rfl, ?_⟩; replace HO_5 := Aside0.mk (Kd.R_mono (Kd.R_keep (IsS65.apart (show IsS65 w0 _ g s0_0 x1001_1 x1002_1 from by repeat first | exact HI0.out | apply IsS65.alloc | apply IsS65.drewN | apply IsS65.drew | apply IsS65.set_1 | apply IsS65.set_2) (by (with_reducible repeat (first | apply Kd.R_alloc | apply Kd.R_drewN | apply Kd.R_drew)); exact HO_5.out) (by decide)) hk (fun _ h => h.2)) (fun _ h => h.1)); replace HK := Aside0.mk (KeepBut.trans (by repeat first | exact HK.out | apply KeepBut.set_ | apply keep_drewN | apply keep_drew | apply keep_alloc) hk (.inl rfl)); replace HB := Aside0.mk (hb); replace HI0 := Aside0.mk (hi); obtain ⟨Ao14, co14, eo14⟩ := Kd.R_slice HO_5.out; subst eo14) | ((with_reducible refine gate_callee (f := 36) rfl ?_); refine goesL_ (some 23) rfl rfl Try.func36 (by kernel_rfl) rfl #[.slice Ao14 x5_1.length co14, .agg #[.int .i64 t202, .int .i64 t203]] rfl (by (try simp only [List.map_toArray, List.map_cons, List.map_nil]); first | done | rfl | (simp only [List.length_drop, List.length_take]; rfl)) ?_; (with_reducible refine (spec_isAdd.calls k1 _ _ x5_1 t202 t203 t206 true _ ?side1 ?side2 A11.out).mono ?_); (case side1 => repeat (first | exact (Kd.R_reads' HO_5.out).2.2 | (with_reducible refine Kd.C_alloc ?_ _) | (with_reducible refine Kd.C_drewN ?_ _) | (with_reducible refine Kd.C_drew ?_))); (case side2 => exact (Kd.R_reads' HO_5.out).2.1); rintro e w15 ⟨v207, rfl, ho0, hb⟩; refine ⟨_, rfl, ?_⟩; have HO208 := Aside0.mk (Kd.R_lower (Kd.R_new' ho0 (Kd.R_lt (by (with_reducible repeat (first | apply Kd.R_alloc | apply Kd.R_drewN | apply Kd.R_drew)); exact HO_5.out))) (keep_size (w := w) (g := g) (row := none) (by repeat first | exact HK.out | apply KeepBut.set_ | apply keep_drewN | apply keep_drew | apply keep_alloc))); replace HO_5 := Aside0.mk (Kd.R_elder' (by (with_reducible repeat (first | apply Kd.R_alloc | apply Kd.R_drewN | apply Kd.R_drew)); exact HO_5.out) (Kd.R_base ho0) hb); replace HK := Aside0.mk (KeepBut.trans (by repeat first | exact HK.out | apply KeepBut.set_ | apply keep_drewN | apply keep_drew | apply keep_alloc) (KeepBut.of_below hb g none) (.inl rfl)); replace HB := Aside0.mk (below_step (by repeat first | exact HB.out | apply below_alloc | apply pw_below_drewN | apply below_drew1 | refine below_set ?_ (IsS65.ge HI0.out)) hb); replace HI0 := Aside0.mk (IsS65.below (by repeat first | exact HI0.out | apply IsS65.alloc | apply IsS65.drewN | apply IsS65.drew | apply IsS65.set_1 | apply IsS65.set_2) hb); (try clear ho0)))
     go_roundg k1
     case measure => have := HK1.out; omega
     case rel => exact ⟨(t206), (wrap64 (x6_1 - 1)), (t204), (t205), (by first | rfl | (simp; done) | (simp [*]; done)), H', ⟨by have := HK1.out; omega⟩, ⟨by (with_reducible repeat (first | apply Kd.R_alloc | apply Kd.R_drewN | apply Kd.R_drew)); exact Kd.R_mono HO208.out (fun _ hk => trivial)⟩, ⟨by repeat first | exact HI0.out | apply IsS65.alloc | apply IsS65.drewN | apply IsS65.drew | apply IsS65.set_1 | apply IsS65.set_2⟩, ⟨by repeat first | exact HK.out | apply KeepBut.set_ | apply keep_drewN | apply keep_drew | apply keep_alloc⟩, ⟨by repeat first | exact HB.out | apply below_alloc | apply pw_below_drewN | apply below_drew1 | refine below_set ?_ (IsS65.ge HI0.out)⟩⟩
    ·replace c12 := Bool.eq_false_iff.mpr c12
     subst c12
     rw [if_neg (show ¬ (false = true) by decide)] at H
     have H' := Aside0.mk H
     clear H
     go_wp2_with (first | ((with_reducible refine gate_callee (f := 65) rfl ?_); refine goesL_ (some 22) rfl rfl Try.func65 (by kernel_rfl) rfl #[.pointer (some ⟨g, 0, none⟩)] rfl (by (try simp only [List.map_toArray, List.map_cons, List.map_nil]); first | done | rfl | (simp only [List.length_drop, List.length_take]; rfl)) ?_; (with_reducible refine (spec_l1Cur_surePlate.calls g s0_0 x1001_1 x1002_1 t202 t203 t204 t205 w0 _ ?side1 ?side2 A10.out).mono ?_); (case side1 => repeat first | exact HI0.out | apply IsS65.alloc | apply IsS65.drewN | apply IsS65.drew | apply IsS65.set_1 | apply IsS65.set_2); (case side2 => repeat first | exact HB.out | apply below_alloc | apply pw_below_drewN | apply below_drew1 | refine below_set ?_ (IsS65.ge HI0.out)); rintro e w16 ⟨rfl, hi, hb, hk⟩; refine ⟨_, rfl, ?_⟩; replace HO_5 := Aside0.mk (Kd.R_mono (Kd.R_keep (IsS65.apart (show IsS65 w0 _ g s0_0 x1001_1 x1002_1 from by repeat first | exact HI0.out | apply IsS65.alloc | apply IsS65.drewN | apply IsS65.drew | apply IsS65.set_1 | apply IsS65.set_2) (by (with_reducible repeat (first | apply Kd.R_alloc | apply Kd.R_drewN | apply Kd.R_drew)); exact HO_5.out) (by decide)) hk (fun _ h => h.2)) (fun _ h => h.1)); replace HK := Aside0.mk (KeepBut.trans (by repeat first | exact HK.out | apply KeepBut.set_ | apply keep_drewN | apply keep_drew | apply keep_alloc) hk (.inl rfl)); replace HB := Aside0.mk (hb); replace HI0 := Aside0.mk (hi); obtain ⟨Ao17, co17, eo17⟩ := Kd.R_slice HO_5.out; subst eo17) | ((with_reducible refine gate_callee (f := 36) rfl ?_); refine goesL_ (some 23) rfl rfl Try.func36 (by kernel_rfl) rfl #[.slice Ao17 x5_1.length co17, .agg #[.int .i64 t202, .int .i64 t203]] rfl (by (try simp only [List.map_toArray, List.map_cons, List.map_nil]); first | done | rfl | (simp only [List.length_drop, List.length_take]; rfl)) ?_; (with_reducible refine (spec_isAdd.calls k1 _ _ x5_1 t202 t203 t206 false _ ?side1 ?side2 A11.out).mono ?_); (case side1 => repeat (first | exact (Kd.R_reads' HO_5.out).2.2 | (with_reducible refine Kd.C_alloc ?_ _) | (with_reducible refine Kd.C_drewN ?_ _) | (with_reducible refine Kd.C_drew ?_))); (case side2 => exact (Kd.R_reads' HO_5.out).2.1); rintro e w18 ⟨v207, rfl, ho0, hb⟩; refine ⟨_, rfl, ?_⟩; have HO208 := Aside0.mk (Kd.R_lower (Kd.R_new' ho0 (Kd.R_lt (by (with_reducible repeat (first | apply Kd.R_alloc | apply Kd.R_drewN | apply Kd.R_drew)); exact HO_5.out))) (keep_size (w := w) (g := g) (row := none) (by repeat first | exact HK.out | apply KeepBut.set_ | apply keep_drewN | apply keep_drew | apply keep_alloc))); replace HO_5 := Aside0.mk (Kd.R_elder' (by (with_reducible repeat (first | apply Kd.R_alloc | apply Kd.R_drewN | apply Kd.R_drew)); exact HO_5.out) (Kd.R_base ho0) hb); replace HK := Aside0.mk (KeepBut.trans (by repeat first | exact HK.out | apply KeepBut.set_ | apply keep_drewN | apply keep_drew | apply keep_alloc) (KeepBut.of_below hb g none) (.inl rfl)); replace HB := Aside0.mk (below_step (by repeat first | exact HB.out | apply below_alloc | apply pw_below_drewN | apply below_drew1 | refine below_set ?_ (IsS65.ge HI0.out)) hb); replace HI0 := Aside0.mk (IsS65.below (by repeat first | exact HI0.out | apply IsS65.alloc | apply IsS65.drewN | apply IsS65.drew | apply IsS65.set_1 | apply IsS65.set_2) hb); (try clear ho0)))
     go_roundg k1
     case measure => have := HK1.out; omega
     case rel => exact ⟨(x5_1), (wrap64 (x6_1 - 1)), (t204), (t205), (by first | rfl | (simp; done) | (simp [*]; done)), H', ⟨by have := HK1.out; omega⟩, ⟨by (with_reducible repeat (first | apply Kd.R_alloc | apply Kd.R_drewN | apply Kd.R_drew)); exact Kd.R_mono HO_5.out (fun _ hk => trivial)⟩, ⟨by repeat first | exact HI0.out | apply IsS65.alloc | apply IsS65.drewN | apply IsS65.drew | apply IsS65.set_1 | apply IsS65.set_2⟩, ⟨by repeat first | exact HK.out | apply KeepBut.set_ | apply keep_drewN | apply keep_drew | apply keep_alloc⟩, ⟨by repeat first | exact HB.out | apply below_alloc | apply pw_below_drewN | apply below_drew1 | refine below_set ?_ (IsS65.ge HI0.out)⟩⟩
   ·rw [if_neg c9] at H
    have c9b0 : decide (0 < x6_1) = false := decide_eq_false c9
    clear c9
    simp only [Option.some.injEq, Prod.mk.injEq] at H
    obtain ⟨rfl, rfl, rfl⟩ := H
    go_wp2
    go_ret
    exact ⟨_, by first | rfl | (simp [errW_none, errW_some] <;> rfl) | (simp [*, errW_none, errW_some] <;> rfl), by (with_reducible repeat (first | apply Kd.R_alloc | apply Kd.R_drewN | apply Kd.R_drew)); exact HO_5.out, by repeat first | exact HI0.out | apply IsS65.alloc | apply IsS65.drewN | apply IsS65.drew | apply IsS65.set_1 | apply IsS65.set_2, by repeat first | exact HB.out | apply below_alloc | apply pw_below_drewN | apply below_drew1 | refine below_set ?_ (IsS65.ge HI0.out), by repeat first | exact HK.out | apply KeepBut.set_ | apply keep_drewN | apply keep_drew | apply keep_alloc⟩

/-! ### spec_l1Cur_plates: function 49 -/
def spec_l1Cur_plates.l0 : Nat → List (S26) → List Int → Int → Int → Option ((List (S26)) × Int × Int)
 | 0, _, _, _, _ => none
 | k + 1, x3, x1000, x1001, x1002 => (spec_l1Cur_pick.f x1000 x1001 x1002 2).bind fun bt225 => (if (x3.length : Int) < (wrap64 (60 + bt225.1)) then (if x3.length < 8796093022208 then (spec_l1Cur_plates.l0 k (x3 ++ [(⟨wrap64 (1 + (x3.length : Int)), 0⟩ : S26)]) x1000 bt225.2.1 bt225.2.2) else (none)) else (some (x3, bt225.2.1, bt225.2.2)))
def spec_l1Cur_plates.f (k : Nat) (s0_0 : List Int) (s0_1 : Int) (s0_2 : Int) : Option ((List (S26)) × Int × Int) := (spec_l1Cur_surePlates.f k s0_0 s0_1 s0_2 8).bind fun bt210 => ((spec_l1Cur_pick.f s0_0 bt210.2.1 bt210.2.2 16).bind fun bt215 => (if bt215.1 = 0 then (some (([] : List (S26)), bt215.2.1, bt215.2.2)) else (if bt215.1 = 1 then ((spec_l1Cur_plate.f s0_0 bt215.2.1 bt215.2.2).bind fun bt218 => (if bt210.1.length < 8796093022208 then (some ((bt210.1 ++ [(⟨bt218.1, bt218.2.1⟩ : S26)]), bt218.2.2.1, bt218.2.2.2)) else (none))) else (if bt215.1 = 2 then (spec_l1Cur_plates.l0 k ([] : List (S26)) s0_0 bt215.2.1 bt215.2.2) else (some (bt210.1, bt215.2.1, bt215.2.2))))))
set_option maxHeartbeats 8000000 in
set_option maxRecDepth 100000 in
theorem spec_l1Cur_plates.calls (k : Nat) (g : Nat) (s0_0 : List Int) (s0_1 : Int) (s0_2 : Int) (r1 : List (S26)) (r2 : Int) (r3 : Int) (w0 w : World) (hI : IsS65 w0 w g s0_0 s0_1 s0_2) (hB : Below w0.heap.size w0 w) (h : spec_l1Cur_plates.f k s0_0 s0_1 s0_2 = some (r1, r2, r3)) :
  Calls Try.prog 49 #[.pointer (some ⟨g, 0, none⟩)] w fun e w' => ∃ v0_ : Value, e = .returned (v0_) ∧ Kd.R k26 26 w' w.heap.size (fun _ => True) v0_ r1 ∧ IsS65 w0 w' g s0_0 r2 r3 ∧ Below w0.heap.size w0 w' ∧ KeepBut w w' g none := by
 have hu26 := Try.underlying26
 have HI0 := Aside0.mk hI
 have HK := Aside0.mk (KeepBut.refl w g none)
 have HL := Aside0.mk hB.size
 clear hI
 have HW0 := Aside0.mk hB.size
 have HB := Aside0.mk hB
 clear hB
 have H : ((spec_l1Cur_surePlates.f k s0_0 s0_1 s0_2 8).bind fun bt210 => ((spec_l1Cur_pick.f s0_0 bt210.2.1 bt210.2.2 16).bind fun bt215 => (if bt215.1 = 0 then (some (([] : List (S26)), bt215.2.1, bt215.2.2)) else (if bt215.1 = 1 then ((spec_l1Cur_plate.f s0_0 bt215.2.1 bt215.2.2).bind fun bt218 => (if bt210.1.length < 8796093022208 then (some ((bt210.1 ++ [(⟨bt218.1, bt218.2.1⟩ : S26)]), bt218.2.2.1, bt218.2.2.2)) else (none))) else (if bt215.1 = 2 then (spec_l1Cur_plates.l0 k ([] : List (S26)) s0_0 bt215.2.1 bt215.2.2) else (some (bt210.1, bt215.2.1, bt215.2.2))))))) = some (r1, r2, r3) := h
 clear h
 replace H := Option.bind_eq_some_iff.mp H
 obtain ⟨⟨t210, t213, t214⟩, A20, H⟩ := H

 have A2 := Aside0.mk A20
 clear A20
 replace H := Option.bind_eq_some_iff.mp H
 obtain ⟨⟨t215, t216, t217⟩, A30, H⟩ := H

 have A3 := Aside0.mk A30
 clear A30
 by_cases c4 : t215 = 0
 ·rw [if_pos c4] at H
  have c4b0 : (t215 == 0) = true := beq_iff_eq.mpr c4
  have c4b1 : (t215 != 0) = false := bne_eq_false_iff_eq.mpr c4
  clear c4
  simp only [Option.some.injEq, Prod.mk.injEq] at H
  obtain ⟨rfl, rfl, rfl⟩ := H
  go_enter Try.func49, Try.ntmps49
  go_wp2_with (first | ((with_reducible refine gate_callee (f := 63) rfl ?_); refine goesL_ (some 5) rfl rfl Try.func63 (by kernel_rfl) rfl #[.pointer (some ⟨g, 0, none⟩), .int .i64 8] rfl (by (try simp only [List.map_toArray, List.map_cons, List.map_nil]); first | done | rfl | (simp only [List.length_drop, List.length_take]; rfl)) ?_; (with_reducible refine (spec_l1Cur_surePlates.calls k g s0_0 s0_1 s0_2 8 t210 t213 t214 w0 _ ?side1 ?side2 A2.out).mono ?_); (case side1 => repeat first | exact HI0.out | apply IsS65.alloc | apply IsS65.drewN | apply IsS65.drew | apply IsS65.set_1 | apply IsS65.set_2); (case side2 => repeat first | exact HB.out | apply below_alloc | apply pw_below_drewN | apply below_drew1 | refine below_set ?_ (IsS65.ge HI0.out)); rintro e w5 ⟨v211, rfl, ho0, hi, hb, hk⟩; refine ⟨_, rfl, ?_⟩; have HO212 := Aside0.mk (Kd.R_lower ho0 (keep_size (w := w) (g := g) (row := none) (by repeat first | exact HK.out | apply KeepBut.set_ | apply keep_drewN | apply keep_drew | apply keep_alloc))); replace HK := Aside0.mk (KeepBut.trans (by repeat first | exact HK.out | apply KeepBut.set_ | apply keep_drewN | apply keep_drew | apply keep_alloc) hk (.inl rfl)); replace HB := Aside0.mk (hb); replace HI0 := Aside0.mk (hi); (try clear ho0)) | ((with_reducible refine gate_callee (f := 50) rfl ?_); refine goesL_ (some 7) rfl rfl Try.func50 (by kernel_rfl) rfl #[.pointer (some ⟨g, 0, none⟩), .int .i64 16] rfl (by (try simp only [List.map_toArray, List.map_cons, List.map_nil]); first | done | rfl | (simp only [List.length_drop, List.length_take]; rfl)) ?_; (with_reducible refine (spec_l1Cur_pick.calls g s0_0 t213 t214 16 t215 t216 t217 w0 _ ?side1 ?side2 A3.out).mono ?_); (case side1 => repeat first | exact HI0.out | apply IsS65.alloc | apply IsS65.drewN | apply IsS65.drew | apply IsS65.set_1 | apply IsS65.set_2); (case side2 => repeat first | exact HB.out | apply below_alloc | apply pw_below_drewN | apply below_drew1 | refine below_set ?_ (IsS65.ge HI0.out)); rintro e w6 ⟨rfl, hi, hb, hk⟩; refine ⟨_, rfl, ?_⟩; replace HO212 := Aside0.mk (Kd.R_mono (Kd.R_keep (IsS65.apart (show IsS65 w0 _ g s0_0 t213 t214 from by repeat first | exact HI0.out | apply IsS65.alloc | apply IsS65.drewN | apply IsS65.drew | apply IsS65.set_1 | apply IsS65.set_2) (by (with_reducible repeat (first | apply Kd.R_alloc | apply Kd.R_drewN | apply Kd.R_drew)); exact HO212.out) (by decide)) hk (fun _ h => h.2)) (fun _ h => h.1)); replace HK := Aside0.mk (KeepBut.trans (by repeat first | exact HK.out | apply KeepBut.set_ | apply keep_drewN | apply keep_drew | apply keep_alloc) hk (.inl rfl)); replace HB := Aside0.mk (hb); replace HI0 := Aside0.mk (hi)))
  go_ret
  exact ⟨_, rfl, Kd.R_nil _ _ _ _ _, HI0.out, HB.out, HK.out⟩
 ·rw [if_neg c4] at H
  have c4b0 : (t215 == 0) = false := beq_eq_false_iff_ne.mpr c4
  have c4b1 : (t215 != 0) = true := bne_iff_ne.mpr c4
  by_cases c7 : t215 = 1
  ·rw [if_pos c7] at H
   have c7b0 : (t215 == 1) = true := beq_iff_eq.mpr c7
   have c7b1 : (t215 != 1) = false := bne_eq_false_iff_eq.mpr c7
   clear c7
   replace H := Option.bind_eq_some_iff.mp H
   obtain ⟨⟨t218, t219, t220, t221⟩, A80, H⟩ := H

   have A8 := Aside0.mk A80
   clear A80
   by_cases c9 : t210.length < 8796093022208
   ·rw [if_pos c9] at H
    have LMc9 := Aside0.mk c9
    clear c9
    obtain ⟨y222, hy222⟩ : ∃ y_ : List (S26), y_ = (t210 ++ [(⟨t218, t219⟩ : S26)]) := ⟨_, rfl⟩
    rw [← hy222] at H
    have Ny222 := Aside0.mk hy222
    clear hy222
    simp only [Option.some.injEq, Prod.mk.injEq] at H
    obtain ⟨rfl, rfl, rfl⟩ := H
    go_enter Try.func49, Try.ntmps49
    go_wp2_with (first | ((with_reducible refine gate_callee (f := 63) rfl ?_); refine goesL_ (some 5) rfl rfl Try.func63 (by kernel_rfl) rfl #[.pointer (some ⟨g, 0, none⟩), .int .i64 8] rfl (by (try simp only [List.map_toArray, List.map_cons, List.map_nil]); first | done | rfl | (simp only [List.length_drop, List.length_take]; rfl)) ?_; (with_reducible refine (spec_l1Cur_surePlates.calls k g s0_0 s0_1 s0_2 8 t210 t213 t214 w0 _ ?side1 ?side2 A2.out).mono ?_); (case side1 => repeat first | exact HI0.out | apply IsS65.alloc | apply IsS65.drewN | apply IsS65.drew | apply IsS65.set_1 | apply IsS65.set_2); (case side2 => repeat first | exact HB.out | apply below_alloc | apply pw_below_drewN | apply below_drew1 | refine below_set ?_ (IsS65.ge HI0.out)); rintro e w10 ⟨v211, rfl, ho0, hi, hb, hk⟩; refine ⟨_, rfl, ?_⟩; have HO212 := Aside0.mk (Kd.R_lower ho0 (keep_size (w := w) (g := g) (row := none) (by repeat first | exact HK.out | apply KeepBut.set_ | apply keep_drewN | apply keep_drew | apply keep_alloc))); replace HK := Aside0.mk (KeepBut.trans (by repeat first | exact HK.out | apply KeepBut.set_ | apply keep_drewN | apply keep_drew | apply keep_alloc) hk (.inl rfl)); replace HB := Aside0.mk (hb); replace HI0 := Aside0.mk (hi); (try clear ho0)) | ((with_reducible refine gate_callee (f := 50) rfl ?_); refine goesL_ (some 7) rfl rfl Try.func50 (by kernel_rfl) rfl #[.pointer (some ⟨g, 0, none⟩), .int .i64 16] rfl (by (try simp only [List.map_toArray, List.map_cons, List.map_nil]); first | done | rfl | (simp only [List.length_drop, List.length_take]; rfl)) ?_; (with_reducible refine (spec_l1Cur_pick.calls g s0_0 t213 t214 16 t215 t216 t217 w0 _ ?side1 ?side2 A3.out).mono ?_); (case side1 => repeat first | exact HI0.out | apply IsS65.alloc | apply IsS65.drewN | apply IsS65.drew | apply IsS65.set_1 | apply IsS65.set_2); (case side2 => repeat first | exact HB.out | apply below_alloc | apply pw_below_drewN | apply below_drew1 | refine below_set ?_ (IsS65.ge HI0.out)); rintro e w11 ⟨rfl, hi, hb, hk⟩; refine ⟨_, rfl, ?_⟩; replace HO212 := Aside0.mk (Kd.R_mono (Kd.R_keep (IsS65.apart (show IsS65 w0 _ g s0_0 t213 t214 from by repeat first | exact HI0.out | apply IsS65.alloc | apply IsS65.drewN | apply IsS65.drew | apply IsS65.set_1 | apply IsS65.set_2) (by (with_reducible repeat (first | apply Kd.R_alloc | apply Kd.R_drewN | apply Kd.R_drew)); exact HO212.out) (by decide)) hk (fun _ h => h.2)) (fun _ h => h.1)); replace HK := Aside0.mk (KeepBut.trans (by repeat first | exact HK.out | apply KeepBut.set_ | apply keep_drewN | apply keep_drew | apply keep_alloc) hk (.inl rfl)); replace HB := Aside0.mk (hb); replace HI0 := Aside0.mk (hi)) | ((with_reducible refine gate_callee (f := 59) rfl ?_); refine goesL_ (some 14) rfl rfl Try.func59 (by kernel_rfl) rfl #[.pointer (some ⟨g, 0, none⟩)] rfl (by (try simp only [List.map_toArray, List.map_cons, List.map_nil]); first | done | rfl | (simp only [List.length_drop, List.length_take]; rfl)) ?_; (with_reducible refine (spec_l1Cur_plate.calls g s0_0 t216 t217 t218 t219 t220 t221 w0 _ ?side1 ?side2 A8.out).mono ?_); (case side1 => repeat first | exact HI0.out | apply IsS65.alloc | apply IsS65.drewN | apply IsS65.drew | apply IsS65.set_1 | apply IsS65.set_2); (case side2 => repeat first | exact HB.out | apply below_alloc | apply pw_below_drewN | apply below_drew1 | refine below_set ?_ (IsS65.ge HI0.out)); rintro e w12 ⟨rfl, hi, hb, hk⟩; refine ⟨_, rfl, ?_⟩; replace HO212 := Aside0.mk (Kd.R_mono (Kd.R_keep (IsS65.apart (show IsS65 w0 _ g s0_0 t216 t217 from by repeat first | exact HI0.out | apply IsS65.alloc | apply IsS65.drewN | apply IsS65.drew | apply IsS65.set_1 | apply IsS65.set_2) (by (with_reducible repeat (first | apply Kd.R_alloc | apply Kd.R_drewN | apply Kd.R_drew)); exact HO212.out) (by decide)) hk (fun _ h => h.2)) (fun _ h => h.1)); replace HK := Aside0.mk (KeepBut.trans (by repeat first | exact HK.out | apply KeepBut.set_ | apply keep_drewN | apply keep_drew | apply keep_alloc) hk (.inl rfl)); replace HB := Aside0.mk (hb); replace HI0 := Aside0.mk (hi)) | ((with_reducible refine gate_builtin (b := .append) (xs := #[.tmp 12, .tmp 15]) rfl ?_); at_builtin; refine Kd.R_append k26 w.heap.size rfl (.tmp 12) (.tmp 15) 24 26 (.agg #[(.int .i64 0), (.int .i64 0)]) 16 rfl Try.underlying24 info26 rfl (by decide) (by omega) v211 t210 (⟨t218, t219⟩ : S26) [.int .i64 t218, .int .i64 t219] (fun _ => True) (fun _ => False) rfl rfl ?aP (fun _ hk => hk.elim) ?aF ?aO (Below.refl _ _) ?aS ?aL ?_; (case aP => exact k26_mkM _ _ _ (⟨t218, t219⟩ : S26)); (case aF => exact (fun _ _ => trivial)); (case aO => exact HO212.out); (case aS => exact (keep_size (w := w) (g := g) (row := none) HK.out)); (case aL => have := LMc9.out; omega); intro v223 w13 ho hb hg hat; rw [← Ny222.out] at ho; have n0_ := Aside0.mk (IsS65.grown HI0.out hg (IsS65.own_ne HI0.out HO212.out (by decide))); have n1_ := Aside0.mk (below_weaken HB.out HL.out hb); have n2_ := Aside0.mk (KeepBut.trans HK.out (KeepBut.of_grown hg g) (Kd.R_base2 HO212.out)); have n3_ := Aside0.mk (ho); clear HI0; clear HB; clear HK; clear HO212; have HI0 := n0_; have HB := n1_; have HK := n2_; have HO224 := n3_; clear n0_ n1_ n2_ n3_; clear ho hb hg hat))
    go_ret
    exact ⟨_, rfl, by exact HO224.out, HI0.out, HB.out, HK.out⟩
   ·rw [if_neg c9] at H
    exact absurd H (by simp)
  ·rw [if_neg c7] at H
   have c7b0 : (t215 == 1) = false := beq_eq_false_iff_ne.mpr c7
   have c7b1 : (t215 != 1) = true := bne_iff_ne.mpr c7
   by_cases c14 : t215 = 2
   ·rw [if_pos c14] at H
    have c14b0 : (t215 == 2) = true := beq_iff_eq.mpr c14
    have c14b1 : (t215 != 2) = false := bne_eq_false_iff_eq.mpr c14
    clear c14
    have H' := Aside0.mk H
    clear H
    go_enter Try.func49, Try.ntmps49
    go_wp2_with (first | ((with_reducible refine gate_callee (f := 63) rfl ?_); refine goesL_ (some 5) rfl rfl Try.func63 (by kernel_rfl) rfl #[.pointer (some ⟨g, 0, none⟩), .int .i64 8] rfl (by (try simp only [List.map_toArray, List.map_cons, List.map_nil]); first | done | rfl | (simp only [List.length_drop, List.length_take]; rfl)) ?_; (with_reducible refine (spec_l1Cur_surePlates.calls k g s0_0 s0_1 s0_2 8 t210 t213 t214 w0 _ ?side1 ?side2 A2.out).mono ?_); (case side1 => repeat first | exact HI0.out | apply IsS65.alloc | apply IsS65.drewN | apply IsS65.drew | apply IsS65.set_1 | apply IsS65.set_2); (case side2 => repeat first | exact HB.out | apply below_alloc | apply pw_below_drewN | apply below_drew1 | refine below_set ?_ (IsS65.ge HI0.out)); rintro e w15 ⟨v211, rfl, ho0, hi, hb, hk⟩; refine ⟨_, rfl, ?_⟩; have HO212 := Aside0.mk (Kd.R_lower ho0 (keep_size (w := w) (g := g) (row := none) (by repeat first | exact HK.out | apply KeepBut.set_ | apply keep_drewN | apply keep_drew | apply keep_alloc))); replace HK := Aside0.mk (KeepBut.trans (by repeat first | exact HK.out | apply KeepBut.set_ | apply keep_drewN | apply keep_drew | apply keep_alloc) hk (.inl rfl)); replace HB := Aside0.mk (hb); replace HI0 := Aside0.mk (hi); (try clear ho0)) | ((with_reducible refine gate_callee (f := 50) rfl ?_); refine goesL_ (some 7) rfl rfl Try.func50 (by kernel_rfl) rfl #[.pointer (some ⟨g, 0, none⟩), .int .i64 16] rfl (by (try simp only [List.map_toArray, List.map_cons, List.map_nil]); first | done | rfl | (simp only [List.length_drop, List.length_take]; rfl)) ?_; (with_reducible refine (spec_l1Cur_pick.calls g s0_0 t213 t214 16 t215 t216 t217 w0 _ ?side1 ?side2 A3.out).mono ?_); (case side1 => repeat first | exact HI0.out | apply IsS65.alloc | apply IsS65.drewN | apply IsS65.drew | apply IsS65.set_1 | apply IsS65.set_2); (case side2 => repeat first | exact HB.out | apply below_alloc | apply pw_below_drewN | apply below_drew1 | refine below_set ?_ (IsS65.ge HI0.out)); rintro e w16 ⟨rfl, hi, hb, hk⟩; refine ⟨_, rfl, ?_⟩; replace HO212 := Aside0.mk (Kd.R_mono (Kd.R_keep (IsS65.apart (show IsS65 w0 _ g s0_0 t213 t214 from by repeat first | exact HI0.out | apply IsS65.alloc | apply IsS65.drewN | apply IsS65.drew | apply IsS65.set_1 | apply IsS65.set_2) (by (with_reducible repeat (first | apply Kd.R_alloc | apply Kd.R_drewN | apply Kd.R_drew)); exact HO212.out) (by decide)) hk (fun _ h => h.2)) (fun _ h => h.1)); replace HK := Aside0.mk (KeepBut.trans (by repeat first | exact HK.out | apply KeepBut.set_ | apply keep_drewN | apply keep_drew | apply keep_alloc) hk (.inl rfl)); replace HB := Aside0.mk (hb); replace HI0 := Aside0.mk (hi)))
    go_loopg [3] k (fun kq v3 w' => ∃ (x3_1 : List (S26)) (x1001_1 : Int) (x1002_1 : Int), Aside0 (spec_l1Cur_plates.l0 kq x3_1 s0_0 x1001_1 x1002_1 = some (r1, r2, r3)) ∧ Aside0 (kq ≤ k) ∧ Aside0 (Kd.R k26 26 w' w.heap.size (fun _ => True) v3 x3_1) ∧ Aside0 (IsS65 w0 w' g s0_0 x1001_1 x1002_1) ∧ Aside0 (KeepBut w w' g none) ∧ Aside0 (Below w0.heap.size w0 w'))
    case atStart => exact ⟨(([] : List (S26))), (t216), (t217), H', ⟨Nat.le_refl _⟩, ⟨Kd.R_nil _ _ _ _ _⟩, ⟨HI0.out⟩, ⟨HK.out⟩, ⟨HB.out⟩⟩
    case round =>
     clear H'
     try clear c1
     try clear p2
     try clear c4
     try clear c4b0
     try clear c4b1
     try clear c5
     try clear c6
     try clear c7
     try clear c7b0
     try clear c7b1
     try clear c9
     try clear c14
     try clear c14b0
     try clear c14b1
     obtain ⟨x3_1, x1001_1, x1002_1, HA, HK1, HO_3, HI0, HK, HB⟩ := hrel
     cases gk with
     | zero => exact absurd HA.out (by simp [spec_l1Cur_plates.l0])
     | succ k1 =>
      have H := HA.out
      clear HA
      simp only [spec_l1Cur_plates.l0] at H
      replace H := Option.bind_eq_some_iff.mp H
      obtain ⟨⟨t225, t226, t227⟩, A170, H⟩ := H

      have A17 := Aside0.mk A170
      clear A170
      by_cases c18 : (x3_1.length : Int) < (wrap64 (60 + t225))
      ·rw [if_pos c18] at H
       have c18b0 : decide ((x3_1.length : Int) < (wrap64 (60 + t225))) = true := decide_eq_true c18
       clear c18
       by_cases c19 : x3_1.length < 8796093022208
       ·rw [if_pos c19] at H
        have LMc19 := Aside0.mk c19
        clear c19
        obtain ⟨y228, hy228⟩ : ∃ y_ : List (S26), y_ = (x3_1 ++ [(⟨wrap64 (1 + (x3_1.length : Int)), 0⟩ : S26)]) := ⟨_, rfl⟩
        rw [← hy228] at H
        have Ny228 := Aside0.mk hy228
        clear hy228
        have H' := Aside0.mk H
        clear H
        obtain ⟨Ao20, co20, eo20⟩ := Kd.R_slice HO_3.out
        subst eo20
        go_wp2_with (first | ((with_reducible refine gate_callee (f := 50) rfl ?_); refine goesL_ (some 22) rfl rfl Try.func50 (by kernel_rfl) rfl #[.pointer (some ⟨g, 0, none⟩), .int .i64 2] rfl (by (try simp only [List.map_toArray, List.map_cons, List.map_nil]); first | done | rfl | (simp only [List.length_drop, List.length_take]; rfl)) ?_; (with_reducible refine (spec_l1Cur_pick.calls g s0_0 x1001_1 x1002_1 2 t225 t226 t227 w0 _ ?side1 ?side2 A17.out).mono ?_); (case side1 => repeat first | exact HI0.out | apply IsS65.alloc | apply IsS65.drewN | apply IsS65.drew | apply IsS65.set_1 | apply IsS65.set_2); (case side2 => repeat first | exact HB.out | apply below_alloc | apply pw_below_drewN | apply below_drew1 | refine below_set ?_ (IsS65.ge HI0.out)); rintro e w21 ⟨rfl, hi, hb, hk⟩; refine ⟨_, rfl, ?_⟩; replace HO_3 := Aside0.mk (Kd.R_mono (Kd.R_keep (IsS65.apart (show IsS65 w0 _ g s0_0 x1001_1 x1002_1 from by repeat first | exact HI0.out | apply IsS65.alloc | apply IsS65.drewN | apply IsS65.drew | apply IsS65.set_1 | apply IsS65.set_2) (by (with_reducible repeat (first | apply Kd.R_alloc | apply Kd.R_drewN | apply Kd.R_drew)); exact HO_3.out) (by decide)) hk (fun _ h => h.2)) (fun _ h => h.1)); replace HK := Aside0.mk (KeepBut.trans (by repeat first | exact HK.out | apply KeepBut.set_ | apply keep_drewN | apply keep_drew | apply keep_alloc) hk (.inl rfl)); replace HB := Aside0.mk (hb); replace HI0 := Aside0.mk (hi)) | ((with_reducible refine gate_builtin (b := .append) (xs := #[.tmp 25, .tmp 30]) rfl ?_); at_builtin; refine Kd.R_append k26 w.heap.size rfl (.tmp 25) (.tmp 30) 24 26 (.agg #[(.int .i64 0), (.int .i64 0)]) 16 rfl Try.underlying24 info26 rfl (by decide) (by omega) (.slice Ao20 x3_1.length co20) x3_1 (⟨wrap64 (1 + (x3_1.length : Int)), 0⟩ : S26) [.int .i64 (wrap64 (1 + (x3_1.length : Int))), .int .i64 0] (fun _ => True) (fun _ => False) rfl rfl ?aP (fun _ hk => hk.elim) ?aF ?aO (Below.refl _ _) ?aS ?aL ?_; (case aP => exact k26_mkM _ _ _ (⟨wrap64 (1 + (x3_1.length : Int)), 0⟩ : S26)); (case aF => exact (fun _ _ => trivial)); (case aO => exact HO_3.out); (case aS => exact (keep_size (w := w) (g := g) (row := none) HK.out)); (case aL => have := LMc19.out; omega); intro v229 w22 ho hb hg hat; rw [← Ny228.out] at ho; have n0_ := Aside0.mk (IsS65.grown HI0.out hg (IsS65.own_ne HI0.out HO_3.out (by decide))); have n1_ := Aside0.mk (below_weaken HB.out HL.out hb); have n2_ := Aside0.mk (KeepBut.trans HK.out (KeepBut.of_grown hg g) (Kd.R_base2 HO_3.out)); have n3_ := Aside0.mk (ho); clear HI0; clear HB; clear HK; clear HO_3; have HI0 := n0_; have HB := n1_; have HK := n2_; have HO230 := n3_; clear n0_ n1_ n2_ n3_; clear ho hb hg hat))
        go_roundg k1
        case measure => have := HK1.out; omega
        case rel => exact ⟨(y228), (t226), (t227), H', ⟨by have := HK1.out; omega⟩, ⟨by exact HO230.out⟩, ⟨HI0.out⟩, ⟨HK.out⟩, ⟨HB.out⟩⟩
       ·rw [if_neg c19] at H
        exact absurd H (by simp)
      ·rw [if_neg c18] at H
       have c18b0 : decide ((x3_1.length : Int) < (wrap64 (60 + t225))) = false := decide_eq_false c18
       clear c18
       simp only [Option.some.injEq, Prod.mk.injEq] at H
       obtain ⟨rfl, rfl, rfl⟩ := H
       obtain ⟨Ao23, co23, eo23⟩ := Kd.R_slice HO_3.out
       subst eo23
       go_wp2_with (first | ((with_reducible refine gate_callee (f := 50) rfl ?_); refine goesL_ (some 22) rfl rfl Try.func50 (by kernel_rfl) rfl #[.pointer (some ⟨g, 0, none⟩), .int .i64 2] rfl (by (try simp only [List.map_toArray, List.map_cons, List.map_nil]); first | done | rfl | (simp only [List.length_drop, List.length_take]; rfl)) ?_; (with_reducible refine (spec_l1Cur_pick.calls g s0_0 x1001_1 x1002_1 2 t225 t226 t227 w0 _ ?side1 ?side2 A17.out).mono ?_); (case side1 => repeat first | exact HI0.out | apply IsS65.alloc | apply IsS65.drewN | apply IsS65.drew | apply IsS65.set_1 | apply IsS65.set_2); (case side2 => repeat first | exact HB.out | apply below_alloc | apply pw_below_drewN | apply below_drew1 | refine below_set ?_ (IsS65.ge HI0.out)); rintro e w24 ⟨rfl, hi, hb, hk⟩; refine ⟨_, rfl, ?_⟩; replace HO_3 := Aside0.mk (Kd.R_mono (Kd.R_keep (IsS65.apart (show IsS65 w0 _ g s0_0 x1001_1 x1002_1 from by repeat first | exact HI0.out | apply IsS65.alloc | apply IsS65.drewN | apply IsS65.drew | apply IsS65.set_1 | apply IsS65.set_2) (by (with_reducible repeat (first | apply Kd.R_alloc | apply Kd.R_drewN | apply Kd.R_drew)); exact HO_3.out) (by decide)) hk (fun _ h => h.2)) (fun _ h => h.1)); replace HK := Aside0.mk (KeepBut.trans (by repeat first | exact HK.out | apply KeepBut.set_ | apply keep_drewN | apply keep_drew | apply keep_alloc) hk (.inl rfl)); replace HB := Aside0.mk (hb); replace HI0 := Aside0.mk (hi)))
       go_ret
       exact ⟨_, rfl, by exact HO_3.out, HI0.out, HB.out, HK.out⟩
   ·rw [if_neg c14] at H
    have c14b0 : (t215 == 2) = false := beq_eq_false_iff_ne.mpr c14
    have c14b1 : (t215 != 2) = true := bne_iff_ne.mpr c14
    simp only [Option.some.injEq, Prod.mk.injEq] at H
    obtain ⟨rfl, rfl, rfl⟩ := H
    go_enter Try.func49, Try.ntmps49
    go_wp2_with (first | ((with_reducible refine gate_callee (f := 63) rfl ?_); refine goesL_ (some 5) rfl rfl Try.func63 (by kernel_rfl) rfl #[.pointer (some ⟨g, 0, none⟩), .int .i64 8] rfl (by (try simp only [List.map_toArray, List.map_cons, List.map_nil]); first | done | rfl | (simp only [List.length_drop, List.length_take]; rfl)) ?_; (with_reducible refine (spec_l1Cur_surePlates.calls k g s0_0 s0_1 s0_2 8 t210 t213 t214 w0 _ ?side1 ?side2 A2.out).mono ?_); (case side1 => repeat first | exact HI0.out | apply IsS65.alloc | apply IsS65.drewN | apply IsS65.drew | apply IsS65.set_1 | apply IsS65.set_2); (case side2 => repeat first | exact HB.out | apply below_alloc | apply pw_below_drewN | apply below_drew1 | refine below_set ?_ (IsS65.ge HI0.out)); rintro e w25 ⟨v211, rfl, ho0, hi, hb, hk⟩; refine ⟨_, rfl, ?_⟩; have HO212 := Aside0.mk (Kd.R_lower ho0 (keep_size (w := w) (g := g) (row := none) (by repeat first | exact HK.out | apply KeepBut.set_ | apply keep_drewN | apply keep_drew | apply keep_alloc))); replace HK := Aside0.mk (KeepBut.trans (by repeat first | exact HK.out | apply KeepBut.set_ | apply keep_drewN | apply keep_drew | apply keep_alloc) hk (.inl rfl)); replace HB := Aside0.mk (hb); replace HI0 := Aside0.mk (hi); (try clear ho0)) | ((with_reducible refine gate_callee (f := 50) rfl ?_); refine goesL_ (some 7) rfl rfl Try.func50 (by kernel_rfl) rfl #[.pointer (some ⟨g, 0, none⟩), .int .i64 16] rfl (by (try simp only [List.map_toArray, List.map_cons, List.map_nil]); first | done | rfl | (simp only [List.length_drop, List.length_take]; rfl)) ?_; (with_reducible refine (spec_l1Cur_pick.calls g s0_0 t213 t214 16 t215 t216 t217 w0 _ ?side1 ?side2 A3.out).mono ?_); (case side1 => repeat first | exact HI0.out | apply IsS65.alloc | apply IsS65.drewN | apply IsS65.drew | apply IsS65.set_1 | apply IsS65.set_2); (case side2 => repeat first | exact HB.out | apply below_alloc | apply pw_below_drewN | apply below_drew1 | refine below_set ?_ (IsS65.ge HI0.out)); rintro e w26 ⟨rfl, hi, hb, hk⟩; refine ⟨_, rfl, ?_⟩; replace HO212 := Aside0.mk (Kd.R_mono (Kd.R_keep (IsS65.apart (show IsS65 w0 _ g s0_0 t213 t214 from by repeat first | exact HI0.out | apply IsS65.alloc | apply IsS65.drewN | apply IsS65.drew | apply IsS65.set_1 | apply IsS65.set_2) (by (with_reducible repeat (first | apply Kd.R_alloc | apply Kd.R_drewN | apply Kd.R_drew)); exact HO212.out) (by decide)) hk (fun _ h => h.2)) (fun _ h => h.1)); replace HK := Aside0.mk (KeepBut.trans (by repeat first | exact HK.out | apply KeepBut.set_ | apply keep_drewN | apply keep_drew | apply keep_alloc) hk (.inl rfl)); replace HB := Aside0.mk (hb); replace HI0 := Aside0.mk (hi)))
    go_ret
    exact ⟨_, rfl, by exact HO212.out, HI0.out, HB.out, HK.out⟩

end Go.Proofs.Ytbnhfipcjbnknaa.PFnPlatesInserted
