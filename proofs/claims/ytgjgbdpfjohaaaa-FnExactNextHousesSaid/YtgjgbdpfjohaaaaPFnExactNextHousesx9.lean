/- Functions that the law FnExactNextHouses reaches, each as a Lean function, and that the Go code comes to just these answers (written by programs). -/
import Derived.Test.YtgjgbdpfjohaaaaShelf
import Derived.Test.YtgjgbdpfjohaaaaRowPut
import Derived.Shelf.Sort.Plain
import Derived.Shelf.Slices.In.SortNone
import Derived.Test.YtgjgbdpfjohaaaaPFnExactNextHousesx0
import Derived.Test.YtgjgbdpfjohaaaaPFnExactNextHousesx1
import Derived.Test.YtgjgbdpfjohaaaaPFnExactNextHousesx2
namespace Go.Proofs.Ytgjgbdpfjohaaaa.PFnExactNextHouses
open Go.RowKit Go.Proofs.YtgjgbdpfjohaaaaW.PrintWords Go.Proofs.YtgjgbdpfjohaaaaW.PrintLast Go.Proofs.YtgjgbdpfjohaaaaW.PrintMore
attribute [local go_sem] max2_int min2_int max_two min_two max_three min_three max_four min_four   -- for this text's walks alone
set_option linter.unusedVariables false
set_option linter.unusedSimpArgs false

-- NOT PRINTED: function 100 (slices_partitionOrdered_int)

-- NOT PRINTED: function 88 (slices_pdqsortOrdered_int)

-- NOT PRINTED: function 80 (slices_Sort_int_int)

/-! ### impl_NextHouses: function 48 (given by hand) -/
/-- One house more, if its plot is on the street. -/
def impl_NextHouses.one (a0_0 : Int) (a0_1 : Int) (sd : Int) (nx : Int) (l : List Int) : Option (List Int) := (impl_within.f nx 0 (wrap64 (a0_1 - 1))).bind fun t => (if t = true then (if l.length < 1000 then ((impl_numberAt.f a0_0 a0_1 sd nx).bind fun v => (some (l ++ [v]))) else (none)) else (some l))
def impl_NextHouses.f (k : Nat) (a0_0 : Int) (a0_1 : Int) (a1 : Int) : Option (List Int × Bool) := (impl_isHouse.f a0_0 a0_1 a1).bind fun t => (if t = true then ((impl_plotOf.f a0_0 a0_1 a1).bind fun bt => ((impl_NextHouses.one a0_0 a0_1 bt.1 (wrap64 (bt.2 - 1)) []).bind fun l1 => ((impl_NextHouses.one a0_0 a0_1 bt.1 (wrap64 (bt.2 + 1)) l1).bind fun l2 => (some (l2.mergeSort (fun x y => decide (x ≤ y)), true))))) else (some (([] : List Int), false)))
theorem impl_NextHouses.mono : ∀ a0 a1 a2 k, LeO (impl_NextHouses.f k a0 a1 a2) (impl_NextHouses.f (k + 1) a0 a1 a2) := fun _ _ _ _ => LeO.refl _
def impl_NextHouses.At (w1 : World) (l1 l2 : List Int) (v i : Value) (w : World) : Prop := Below w1.heap.size w1 w ∧ ((i = .int .i64 0 ∧ Kd.R (Kd.int .i64) 3 w w1.heap.size (fun _ => True) v ([] : List Int)) ∨ (i = .int .i64 1 ∧ Kd.R (Kd.int .i64) 3 w w1.heap.size (fun _ => True) v l1) ∨ (i = .int .i64 2 ∧ Kd.R (Kd.int .i64) 3 w w1.heap.size (fun _ => True) v l2))
theorem impl_NextHouses.one_len {a b c d : Int} {l m : List Int} (h : impl_NextHouses.one a b c d l = some m) : m.length ≤ l.length + 1 := by
  unfold impl_NextHouses.one at h
  obtain ⟨t, _, h⟩ := Option.bind_eq_some_iff.mp h
  cases t with
  | false =>
    rw [if_neg (by decide)] at h
    rw [← Option.some.inj h]; omega
  | true =>
    rw [if_pos rfl] at h
    split at h
    · obtain ⟨v, _, h⟩ := Option.bind_eq_some_iff.mp h
      rw [← Option.some.inj h]; simp
    · cases h
/-- slices.Sort on a row of the call's own. -/
theorem impl_NextHouses.sort (l : List Int) (v : Value) (w1 w : World) (hl : l.length ≤ 1000000) (hB : Below w1.heap.size w1 w) (hR : Kd.R (Kd.int .i64) 3 w w1.heap.size (fun _ => True) v l) :
    Calls Try.prog 80 #[v] w fun e w' => e = .returned (.tuple #[]) ∧ Kd.R (Kd.int .i64) 3 w' w1.heap.size (fun _ => True) v (l.mergeSort (fun x y => decide (x ≤ y))) ∧ Below w1.heap.size w1 w' := by
  by_cases hp : 0 < l.length
  · obtain ⟨g, cap, hv, hgb, _, hgl, hH, hback⟩ := RowPut.row_sort1 (enc := Value.int .i64) rfl (fun w base ok x cs => ⟨fun h => h, fun h => h⟩) hR hp
    subst hv
    refine (Try.slices_Sort_int g 0 cap l w hH hgl (by omega)).mono ?_
    rintro e w' ⟨rfl, n, os, rfl⟩
    obtain ⟨h1, h2⟩ := hback n os (l.mergeSort (fun x y => decide (x ≤ y))).toArray (by simp)
    exact ⟨rfl, by simpa using h1, hB.grown h2 hB.size (fun k hk => by injection hk with hk; omega)⟩
  · have hn : l = [] := List.eq_nil_of_length_eq_zero (by omega)
    subst hn
    obtain ⟨A, c, rfl⟩ := Kd.R_slice hR
    refine (Try.slices_Sort_int_none A c w).mono ?_
    rintro e w' ⟨rfl, rfl⟩
    exact ⟨rfl, by simpa using hR, hB⟩
set_option maxHeartbeats 8000000 in
set_option maxRecDepth 100000 in
theorem impl_NextHouses.calls (k : Nat) (a0_0 : Int) (a0_1 : Int) (a1 : Int) (r1 : List Int) (r2 : Bool) (w : World) (h : impl_NextHouses.f k a0_0 a0_1 a1 = some (r1, r2)) :
    Calls Try.prog 48 #[.agg #[.int .i64 a0_0, .int .i64 a0_1], .int .i64 a1] w fun e w' => ∃ v0_ : Value, e = .returned (.tuple #[v0_, .bool r2]) ∧ Kd.R (Kd.int .i64) 3 w' w.heap.size (fun _ => True) v0_ r1 ∧ Below w.heap.size w w' := by
  unfold impl_NextHouses.f at h
  obtain ⟨t1, a1_, h⟩ := Option.bind_eq_some_iff.mp h
  have A1_ := Aside0.mk a1_
  clear a1_
  obtain ⟨W1, hW1⟩ : ∃ W1, w.alloc (.cells #[.int .i64 a0_0, .int .i64 a0_1] 27) = W1 := ⟨_, rfl⟩
  have W1C0 : Aside0 (W1.cell? ⟨w.heap.size, 0, none⟩ = some (.int .i64 a0_0)) := ⟨by rw [← hW1]; simp⟩
  have W1C1 : Aside0 (W1.cell? ⟨w.heap.size, 1, none⟩ = some (.int .i64 a0_1)) := ⟨by rw [← hW1]; simp⟩
  have W1B : Aside0 (Below w.heap.size w W1) := ⟨by rw [← hW1]; exact below_alloc (Below.refl _ _) _⟩
  cases t1 with
  | false =>
    rw [if_neg (by decide)] at h
    simp only [Option.some.injEq, Prod.mk.injEq] at h
    obtain ⟨rfl, rfl⟩ := h
    clear W1C0 W1C1 W1B hW1
    go_enter Try.func48, Try.ntmps48
    go_wp2_with (go_at_call 77; refine (impl_isHouse.calls a0_0 a0_1 a1 false _ A1_.out).mono ?_; rintro e w1 ⟨rfl, hb1⟩; have HB1 := Aside0.mk (below_step (below_alloc (Below.refl _ w) _) hb1); clear hb1)
    go_ret2
    exact ⟨_, rfl, Kd.R_nil _ _ _ _ _, HB1.out⟩
  | true =>
    rw [if_pos rfl] at h
    obtain ⟨⟨sd, pt⟩, a2_, h⟩ := Option.bind_eq_some_iff.mp h
    have A2_ := Aside0.mk a2_
    clear a2_
    obtain ⟨x0, hx0⟩ : ∃ x, wrap64 (pt - 1) = x := ⟨_, rfl⟩
    obtain ⟨x1, hx1⟩ : ∃ x, wrap64 (pt + 1) = x := ⟨_, rfl⟩
    simp only [hx0, hx1] at h
    obtain ⟨l1, o1, h⟩ := Option.bind_eq_some_iff.mp h
    obtain ⟨l2, o2, h⟩ := Option.bind_eq_some_iff.mp h
    have hl1 := impl_NextHouses.one_len o1
    have hl2 := impl_NextHouses.one_len o2
    have HL2 : Aside0 (l2.length ≤ 1000000) := ⟨by simp at hl1; omega⟩
    have O1 := Aside0.mk o1
    have O2 := Aside0.mk o2
    clear hl1 hl2 o1 o2
    simp only [Option.some.injEq, Prod.mk.injEq] at h
    obtain ⟨hr1, rfl⟩ := h
    have HR1 := Aside0.mk hr1
    clear hr1
    have i0 : ∀ W, (Instr.index 83 (.agg #[.int .i64 x0, .int .i64 x1]) (.int .i64 0)).run Try.prog W = .ok (.int .i64 x0) W := fun _ => by kernel_rfl
    have i1 : ∀ W, (Instr.index 83 (.agg #[.int .i64 x0, .int .i64 x1]) (.int .i64 1)).run Try.prog W = .ok (.int .i64 x1) W := fun _ => by kernel_rfl
    have hc0 := W1C0.out
    have hc1 := W1C1.out
    go_enter Try.func48, Try.ntmps48
    go_wp2_with (first | (go_at_call 77; clear hc0 hc1; refine (impl_isHouse.calls a0_0 a0_1 a1 true _ A1_.out).mono ?_; rintro e w2 ⟨rfl, hb2⟩; have HB2 := Aside0.mk hb2; have hc0 := pw_cell_below hb2 W1C0.out; have hc1 := pw_cell_below hb2 W1C1.out; clear hb2) | (go_at_call 78; refine (impl_plotOf.calls a0_0 a0_1 a1 sd pt _ A2_.out).mono ?_; clear hc0 hc1; rintro e w3 ⟨rfl, hb3⟩; have HB3 := Aside0.mk (below_step HB2.out hb3); clear hb3))
    go_loopw [8, 26] (fun v i wr => impl_NextHouses.At W1 l1 l2 v i wr) (fun _ i _ => 2 - (intOf i).toNat)
    case atStart => exact ⟨HB3.out, .inl ⟨rfl, Kd.R_nil _ _ _ _ _⟩⟩
    case round =>
      clear hx0 hx1 hW1
      obtain ⟨hB, hrel⟩ := hrel
      have hc0 := pw_cell_below hB W1C0.out
      have hc1 := pw_cell_below hB W1C1.out
      rcases hrel with ⟨rfl, hv⟩ | ⟨rfl, hv⟩ | ⟨rfl, hv⟩
      · -- the plot at x0
        clear hc0 hc1
        obtain ⟨t, at_, ao⟩ := Option.bind_eq_some_iff.mp O1.out
        have AT := Aside0.mk at_
        clear at_
        have HV := Aside0.mk hv
        have HB := Aside0.mk hB
        have BX := Aside0.mk (pw_cell_below hB W1C0.out)
        have BX1 := Aside0.mk (pw_cell_below hB W1C1.out)
        have hlt := hB.size
        clear hv hB
        cases t with
        | false =>
          rw [if_neg (by decide)] at ao
          have AO := Aside0.mk (Option.some.inj ao)
          clear ao
          have c0 := BX.out
          have c1 := BX1.out
          go_wp2_with (go_at_call 53; refine (impl_within.calls _ _ _ false _ AT.out).mono ?_; rintro e w' ⟨rfl, ⟨nd, rfl⟩⟩)
          go_roundw
          case rel => exact ⟨pw_below_drewN HB.out _, .inr (.inl ⟨rfl, by rw [← AO.out]; exact Kd.R_drewN HV.out _⟩)⟩
          case measure => simp [intOf]
        | true =>
          rw [if_pos rfl] at ao
          by_cases hl : ([] : List Int).length < 1000
          · rw [if_pos hl] at ao
            obtain ⟨y, ay, ao⟩ := Option.bind_eq_some_iff.mp ao
            have AY := Aside0.mk ay
            have AO := Aside0.mk (Option.some.inj ao)
            have HL := Aside0.mk hl
            clear ay ao hl
            have c0 := BX.out
            have c1 := BX1.out
            go_wp2_with (first | (go_at_call 53; refine (impl_within.calls _ _ _ true _ AT.out).mono ?_; rintro e w' ⟨rfl, ⟨nd, rfl⟩⟩) | (go_at_call 79; refine (impl_numberAt.calls a0_0 a0_1 sd x0 y _ AY.out).mono ?_; rintro e w4 ⟨rfl, hb4⟩; have HB4 := Aside0.mk (below_step (pw_below_drewN HB.out nd) hb4); have HV4 := Aside0.mk (Kd.R_below (Kd.R_drewN HV.out nd) hb4); clear hb4) | ((with_reducible refine gate_builtin (b := .append) (xs := #[.tmp 34, .tmp 39]) rfl ?_); at_builtin; refine Kd.R_append (Kd.int .i64) (w0 := W1) W1.heap.size rfl (.tmp 34) (.tmp 39) 24 3 (.int .i64 0) 8 rfl Try.underlying24 info3 rfl (by decide) (by decide) _ ([] : List Int) y [.int .i64 y] (fun _ => True) (fun _ => False) rfl rfl rfl (fun _ hk => hk.elim) (fun _ _ => trivial) HV4.out HB4.out HB4.out.size ?l0 ?_; (case l0 => have h0_ := HL.out; first | omega | (simp only [List.length_nil]; omega)); intro v5 w5 hR5 hB5 hg5 hat5; clear hg5 hat5; have HV5 := Aside0.mk hR5; have HB5 := Aside0.mk hB5; clear hR5 hB5))
            go_roundw
            case rel => exact ⟨HB5.out, .inr (.inl ⟨rfl, by rw [← AO.out]; exact HV5.out⟩)⟩
            case measure => simp [intOf]
          · rw [if_neg hl] at ao
            cases ao
      · -- the plot at x1
        clear hc0 hc1
        obtain ⟨t, at_, ao⟩ := Option.bind_eq_some_iff.mp O2.out
        have AT := Aside0.mk at_
        clear at_
        have HV := Aside0.mk hv
        have HB := Aside0.mk hB
        have BX := Aside0.mk (pw_cell_below hB W1C0.out)
        have BX1 := Aside0.mk (pw_cell_below hB W1C1.out)
        have hlt := hB.size
        clear hv hB
        cases t with
        | false =>
          rw [if_neg (by decide)] at ao
          have AO := Aside0.mk (Option.some.inj ao)
          clear ao
          have c0 := BX.out
          have c1 := BX1.out
          go_wp2_with (go_at_call 53; refine (impl_within.calls _ _ _ false _ AT.out).mono ?_; rintro e w' ⟨rfl, ⟨nd, rfl⟩⟩)
          go_roundw
          case rel => exact ⟨pw_below_drewN HB.out _, .inr (.inr ⟨rfl, by rw [← AO.out]; exact Kd.R_drewN HV.out _⟩)⟩
          case measure => simp [intOf]
        | true =>
          rw [if_pos rfl] at ao
          by_cases hl : l1.length < 1000
          · rw [if_pos hl] at ao
            obtain ⟨y, ay, ao⟩ := Option.bind_eq_some_iff.mp ao
            have AY := Aside0.mk ay
            have AO := Aside0.mk (Option.some.inj ao)
            have HL := Aside0.mk hl
            clear ay ao hl
            have c0 := BX.out
            have c1 := BX1.out
            go_wp2_with (first | (go_at_call 53; refine (impl_within.calls _ _ _ true _ AT.out).mono ?_; rintro e w' ⟨rfl, ⟨nd, rfl⟩⟩) | (go_at_call 79; refine (impl_numberAt.calls a0_0 a0_1 sd x1 y _ AY.out).mono ?_; rintro e w4 ⟨rfl, hb4⟩; have HB4 := Aside0.mk (below_step (pw_below_drewN HB.out nd) hb4); have HV4 := Aside0.mk (Kd.R_below (Kd.R_drewN HV.out nd) hb4); clear hb4) | ((with_reducible refine gate_builtin (b := .append) (xs := #[.tmp 34, .tmp 39]) rfl ?_); at_builtin; refine Kd.R_append (Kd.int .i64) (w0 := W1) W1.heap.size rfl (.tmp 34) (.tmp 39) 24 3 (.int .i64 0) 8 rfl Try.underlying24 info3 rfl (by decide) (by decide) _ l1 y [.int .i64 y] (fun _ => True) (fun _ => False) rfl rfl rfl (fun _ hk => hk.elim) (fun _ _ => trivial) HV4.out HB4.out HB4.out.size ?l0 ?_; (case l0 => have h0_ := HL.out; first | omega | (simp only [List.length_nil]; omega)); intro v5 w5 hR5 hB5 hg5 hat5; clear hg5 hat5; have HV5 := Aside0.mk hR5; have HB5 := Aside0.mk hB5; clear hR5 hB5))
            go_roundw
            case rel => exact ⟨HB5.out, .inr (.inr ⟨rfl, by rw [← AO.out]; exact HV5.out⟩)⟩
            case measure => simp [intOf]
          · rw [if_neg hl] at ao
            cases ao
      · clear hc0 hc1
        have HV := Aside0.mk hv
        have HB := Aside0.mk hB
        clear hv hB
        go_wp2_with (go_at_call 80; refine (impl_NextHouses.sort l2 _ W1 _ HL2.out HB.out HV.out).mono ?_; rintro e w6 ⟨rfl, hR6, hB6⟩; have HV6 := Aside0.mk hR6; have HB6 := Aside0.mk hB6; clear hR6 hB6)
        go_ret2
        exact ⟨_, rfl, by rw [← HR1.out]; exact Kd.R_lower HV6.out W1B.out.size, below_step W1B.out HB6.out⟩

/-! ### laws_FnExactNextHouses: function 13 -/
mutual
def laws_FnExactNextHouses.j0 : Nat → Int → List Int → Bool → List Int → Bool → Int → Int → Option (Bool)
  | 0, _, _, _, _, _, _, _ => none
  | k + 1, x1, x5, x6, x7, x35, x316000, x316001 => if x35 = true then (some false) else ((laws_markIntS.f k x7 1).bind fun bt329 => ((laws_heldIntS.f k bt329.2 1).bind fun t331 => (if t331 < 0 then (some false) else (if t331 = bt329.1 then ((laws_toStreet.f x316000 x316001).bind fun bt332 => ((impl_NextHouses.f k bt332.1 bt332.2 x1).bind fun bt334 => ((laws_eqIntS.f k bt334.1 x5).bind fun t338 => (if t338 = true then (laws_FnExactNextHouses.j1 k bt329.2 bt329.1 (bt334.2 != x6)) else (laws_FnExactNextHouses.j1 k bt329.2 bt329.1 true))))) else (some false)))))
def laws_FnExactNextHouses.j1 : Nat → List Int → Int → Bool → Option (Bool)
  | 0, _, _, _ => none
  | k + 1, x7, x9, x62 => if x62 = true then (some false) else ((laws_heldIntS.f k x7 1).bind fun t339 => (if t339 < 0 then (some false) else (if t339 = x9 then (some true) else (some false))))
end
def laws_FnExactNextHouses.f (k : Nat) (a0_0 : Int) (a0_1 : Int) (a1 : Int) : Option (Bool) := (laws_toStreet.f a0_0 a0_1).bind fun bt316 => ((spec_NextHouses.f k bt316.1 bt316.2 a1).bind fun bt318 => ((laws_toStreet.f a0_0 a0_1).bind fun bt322 => ((impl_NextHouses.f k bt322.1 bt322.2 a1).bind fun bt324 => ((laws_eqIntS.f k bt324.1 bt318.1).bind fun t328 => (if t328 = true then (laws_FnExactNextHouses.j0 k a1 bt318.1 bt318.2 bt324.1 (bt324.2 != bt318.2) a0_0 a0_1) else (laws_FnExactNextHouses.j0 k a1 bt318.1 bt318.2 bt324.1 true a0_0 a0_1))))))
theorem laws_FnExactNextHouses.mono_l : ∀ k, (∀ y0 y1 y2 y3 y4 y5 y6, LeO (laws_FnExactNextHouses.j0 k y0 y1 y2 y3 y4 y5 y6) (laws_FnExactNextHouses.j0 (k + 1) y0 y1 y2 y3 y4 y5 y6)) ∧ (∀ y0 y1 y2, LeO (laws_FnExactNextHouses.j1 k y0 y1 y2) (laws_FnExactNextHouses.j1 (k + 1) y0 y1 y2))
  | 0 => ⟨fun _ _ _ _ _ _ _ r h => by simp [laws_FnExactNextHouses.j0] at h, fun _ _ _ r h => by simp [laws_FnExactNextHouses.j1] at h⟩
  | k + 1 => by
    obtain ⟨ih0, ih1⟩ := laws_FnExactNextHouses.mono_l k
    refine ⟨?_, ?_⟩
    · intro y0 y1 y2 y3 y4 y5 y6
      unfold laws_FnExactNextHouses.j0
      repeat' first
      | (with_reducible exact ih0 _ _ _ _ _ _ _)
      | (with_reducible exact ih1 _ _ _)
      | (with_reducible exact impl_NextHouses.mono _ _ _ _)
      | (with_reducible exact laws_eqIntS.mono _ _ _)
      | (with_reducible exact laws_heldIntS.mono _ _ _)
      | (with_reducible exact laws_markIntS.mono _ _ _)
      | (with_reducible exact spec_NextHouses.mono _ _ _ _)
      | (with_reducible exact LeO.refl _)
      | (with_reducible exact LeO.none _)
      | (with_reducible refine LeO.ite ?_ ?_)
      | (with_reducible refine LeO.bind ?_ (fun _ => ?_))
      | exact ih0 _ _ _ _ _ _ _
      | exact ih1 _ _ _
      | exact impl_NextHouses.mono _ _ _ _
      | exact laws_eqIntS.mono _ _ _
      | exact laws_heldIntS.mono _ _ _
      | exact laws_markIntS.mono _ _ _
      | exact spec_NextHouses.mono _ _ _ _
      | exact LeO.none _
      | refine LeO.ite ?_ ?_
      | refine LeO.bind ?_ (fun _ => ?_)
    · intro y0 y1 y2
      unfold laws_FnExactNextHouses.j1
      repeat' first
      | (with_reducible exact ih0 _ _ _ _ _ _ _)
      | (with_reducible exact ih1 _ _ _)
      | (with_reducible exact impl_NextHouses.mono _ _ _ _)
      | (with_reducible exact laws_eqIntS.mono _ _ _)
      | (with_reducible exact laws_heldIntS.mono _ _ _)
      | (with_reducible exact laws_markIntS.mono _ _ _)
      | (with_reducible exact spec_NextHouses.mono _ _ _ _)
      | (with_reducible exact LeO.refl _)
      | (with_reducible exact LeO.none _)
      | (with_reducible refine LeO.ite ?_ ?_)
      | (with_reducible refine LeO.bind ?_ (fun _ => ?_))
      | exact ih0 _ _ _ _ _ _ _
      | exact ih1 _ _ _
      | exact impl_NextHouses.mono _ _ _ _
      | exact laws_eqIntS.mono _ _ _
      | exact laws_heldIntS.mono _ _ _
      | exact laws_markIntS.mono _ _ _
      | exact spec_NextHouses.mono _ _ _ _
      | exact LeO.none _
      | refine LeO.ite ?_ ?_
      | refine LeO.bind ?_ (fun _ => ?_)
theorem laws_FnExactNextHouses.mono : ∀ a0 a1 a2 k, LeO (laws_FnExactNextHouses.f k a0 a1 a2) (laws_FnExactNextHouses.f (k + 1) a0 a1 a2) := by
  intro a0 a1 a2 k
  obtain ⟨ih0, ih1⟩ := laws_FnExactNextHouses.mono_l k
  unfold laws_FnExactNextHouses.f
  repeat' first
      | (with_reducible exact ih0 _ _ _ _ _ _ _)
      | (with_reducible exact ih1 _ _ _)
      | (with_reducible exact impl_NextHouses.mono _ _ _ _)
      | (with_reducible exact laws_eqIntS.mono _ _ _)
      | (with_reducible exact laws_heldIntS.mono _ _ _)
      | (with_reducible exact laws_markIntS.mono _ _ _)
      | (with_reducible exact spec_NextHouses.mono _ _ _ _)
      | (with_reducible exact LeO.refl _)
      | (with_reducible exact LeO.none _)
      | (with_reducible refine LeO.ite ?_ ?_)
      | (with_reducible refine LeO.bind ?_ (fun _ => ?_))
      | exact ih0 _ _ _ _ _ _ _
      | exact ih1 _ _ _
      | exact impl_NextHouses.mono _ _ _ _
      | exact laws_eqIntS.mono _ _ _
      | exact laws_heldIntS.mono _ _ _
      | exact laws_markIntS.mono _ _ _
      | exact spec_NextHouses.mono _ _ _ _
      | exact LeO.none _
      | refine LeO.ite ?_ ?_
      | refine LeO.bind ?_ (fun _ => ?_)
set_option maxHeartbeats 8000000 in
set_option maxRecDepth 100000 in
theorem laws_FnExactNextHouses.calls (k : Nat) (a0_0 : Int) (a0_1 : Int) (a1 : Int) (r : Bool) (w : World) (h : laws_FnExactNextHouses.f k a0_0 a0_1 a1 = some r) :
    Calls Try.prog 13 #[.agg #[.int .i64 a0_0, .int .i64 a0_1], .int .i64 a1] w fun e w' => e = .returned (.bool r) ∧ Below w.heap.size w w' := by
  have hu23 := Try.underlying23
  have HB := Aside0.mk (Below.refl w.heap.size w)
  have H : ((laws_toStreet.f a0_0 a0_1).bind fun bt316 => ((spec_NextHouses.f k bt316.1 bt316.2 a1).bind fun bt318 => ((laws_toStreet.f a0_0 a0_1).bind fun bt322 => ((impl_NextHouses.f k bt322.1 bt322.2 a1).bind fun bt324 => ((laws_eqIntS.f k bt324.1 bt318.1).bind fun t328 => (if t328 = true then (laws_FnExactNextHouses.j0 k a1 bt318.1 bt318.2 bt324.1 (bt324.2 != bt318.2) a0_0 a0_1) else (laws_FnExactNextHouses.j0 k a1 bt318.1 bt318.2 bt324.1 true a0_0 a0_1))))))) = some r := h
  clear h
  replace H := Option.bind_eq_some_iff.mp H
  obtain ⟨⟨t316, t317⟩, A30, H⟩ := H
  replace H : ((spec_NextHouses.f k t316 t317 a1).bind fun bt318 => ((laws_toStreet.f a0_0 a0_1).bind fun bt322 => ((impl_NextHouses.f k bt322.1 bt322.2 a1).bind fun bt324 => ((laws_eqIntS.f k bt324.1 bt318.1).bind fun t328 => (if t328 = true then (laws_FnExactNextHouses.j0 k a1 bt318.1 bt318.2 bt324.1 (bt324.2 != bt318.2) a0_0 a0_1) else (laws_FnExactNextHouses.j0 k a1 bt318.1 bt318.2 bt324.1 true a0_0 a0_1)))))) = some r := H
  have A3 := Aside0.mk A30
  clear A30
  replace H := Option.bind_eq_some_iff.mp H
  obtain ⟨⟨t318, t321⟩, A40, H⟩ := H
  replace H : ((laws_toStreet.f a0_0 a0_1).bind fun bt322 => ((impl_NextHouses.f k bt322.1 bt322.2 a1).bind fun bt324 => ((laws_eqIntS.f k bt324.1 t318).bind fun t328 => (if t328 = true then (laws_FnExactNextHouses.j0 k a1 t318 t321 bt324.1 (bt324.2 != t321) a0_0 a0_1) else (laws_FnExactNextHouses.j0 k a1 t318 t321 bt324.1 true a0_0 a0_1))))) = some r := H
  have A4 := Aside0.mk A40
  clear A40
  replace H := Option.bind_eq_some_iff.mp H
  obtain ⟨⟨t322, t323⟩, A50, H⟩ := H
  replace H : ((impl_NextHouses.f k t322 t323 a1).bind fun bt324 => ((laws_eqIntS.f k bt324.1 t318).bind fun t328 => (if t328 = true then (laws_FnExactNextHouses.j0 k a1 t318 t321 bt324.1 (bt324.2 != t321) a0_0 a0_1) else (laws_FnExactNextHouses.j0 k a1 t318 t321 bt324.1 true a0_0 a0_1)))) = some r := H
  have A5 := Aside0.mk A50
  clear A50
  replace H := Option.bind_eq_some_iff.mp H
  obtain ⟨⟨t324, t327⟩, A60, H⟩ := H
  replace H : ((laws_eqIntS.f k t324 t318).bind fun t328 => (if t328 = true then (laws_FnExactNextHouses.j0 k a1 t318 t321 t324 (t327 != t321) a0_0 a0_1) else (laws_FnExactNextHouses.j0 k a1 t318 t321 t324 true a0_0 a0_1))) = some r := H
  have A6 := Aside0.mk A60
  clear A60
  have HC7 := Aside0.mk H
  clear H
  go_enter Try.func13, Try.ntmps13
  go_upto_region 3 with (first | ((with_reducible refine gate_dst (N := 2) rfl ?_); refine box_event ?hg (N := 2) ?hd (cs := #[.int .i64 a0_0, .int .i64 a0_1]) (t := 23) ?hr ?_; (case hd => rfl); (case hg => rfl); (case hr => first | (go_simp; done) | (go_simp; rfl)); intro gb315 hg w8 hbox hb; have n0_ := Aside0.mk (below_step (by repeat (first | (with_reducible first | exact HB.out | apply below_alloc | apply pw_below_drewN | apply below_drew1) | exact HB.out)) hb); have n1_ := Aside0.mk (hbox); have n2_ := Aside0.mk ((by rw [hg]; exact (below_size (by repeat (first | (with_reducible first | exact HB.out | apply below_alloc | apply pw_below_drewN | apply below_drew1) | exact HB.out))) : w.heap.size ≤ gb315)); have n3_ := Aside0.mk ((by rw [hg]; exact (below_size (by repeat (first | (with_reducible first | exact HB.out | apply below_alloc | apply pw_below_drewN | apply below_drew1) | exact HB.out))) : w.heap.size ≤ gb315)); clear HB; have HB := n0_; have BK315 := n1_; have GW315 := n2_; have GE315 := n3_; clear n0_ n1_ n2_ n3_; clear hb hbox hg; have hcz9_0 : w8.cell? ⟨gb315, 0, none⟩ = some (.int .i64 a0_0) := (blk_cell BK315.out 0).trans rfl; have hcz9_1 : w8.cell? ⟨gb315, 1, none⟩ = some (.int .i64 a0_1) := (blk_cell BK315.out 1).trans rfl; have hfz9_0 := blk_frozen BK315.out 0; have hfz9_1 := blk_frozen BK315.out 1) | ((with_reducible refine gate_callee (f := 15) rfl ?_); refine goesL_ (some 15) rfl rfl Try.func15 (by kernel_rfl) rfl #[.agg #[.int .i64 a0_0, .int .i64 a0_1]] rfl (by (try simp only [List.map_toArray, List.map_cons, List.map_nil]); first | done | rfl | (simp only [List.length_drop, List.length_take]; rfl)) ?_; (with_reducible refine (laws_toStreet.calls a0_0 a0_1 t316 t317 _ A3.out).mono ?_); rintro e w10 ⟨rfl, hb⟩; refine ⟨_, rfl, ?_⟩; have n0_ := Aside0.mk (blk_below (g := gb315) (o := .cells #[.int .i64 a0_0, .int .i64 a0_1] 23 (0, 0)) (by (with_reducible repeat (first | refine blk_drewN ?_ _ | refine blk_drew ?_ | refine blk_alloc ?_ _)); exact BK315.out) hb); have n1_ := Aside0.mk (below_step (by repeat (first | (with_reducible first | exact HB.out | apply below_alloc | apply pw_below_drewN | apply below_drew1 | refine below_set ?_ GE315.out) | exact HB.out)) hb); clear BK315; clear HB; have BK315 := n0_; have HB := n1_; clear n0_ n1_; (try clear hb); (try clear hb2); (try clear hk); (try clear hi)) | ((with_reducible refine gate_callee (f := 47) rfl ?_); refine goesL_ (some 17) rfl rfl Try.func47 (by kernel_rfl) rfl #[.agg #[.int .i64 t316, .int .i64 t317], .int .i64 a1] rfl (by (try simp only [List.map_toArray, List.map_cons, List.map_nil]); first | done | rfl | (simp only [List.length_drop, List.length_take]; rfl)) ?_; (with_reducible refine (spec_NextHouses.calls k t316 t317 a1 t318 t321 _ A4.out).mono ?_); rintro e w11 ⟨v319, rfl, ho0, hb⟩; refine ⟨_, rfl, ?_⟩; have n0_ := Aside0.mk (Kd.R_lower ho0 (below_size (by repeat (first | (with_reducible first | exact HB.out | apply below_alloc | apply pw_below_drewN | apply below_drew1 | refine below_set ?_ GE315.out) | exact HB.out)))); have n1_ := Aside0.mk (blk_below (g := gb315) (o := .cells #[.int .i64 a0_0, .int .i64 a0_1] 23 (0, 0)) (by (with_reducible repeat (first | refine blk_drewN ?_ _ | refine blk_drew ?_ | refine blk_alloc ?_ _)); exact BK315.out) hb); have n2_ := Aside0.mk (below_step (by repeat (first | (with_reducible first | exact HB.out | apply below_alloc | apply pw_below_drewN | apply below_drew1 | refine below_set ?_ GE315.out) | exact HB.out)) hb); clear BK315; clear HB; have HO320 := n0_; have BK315 := n1_; have HB := n2_; clear n0_ n1_ n2_; (try clear hb); (try clear hb2); (try clear hk); (try clear hi); (try clear ho0); have hcz12_0 : w11.cell? ⟨gb315, 0, none⟩ = some (.int .i64 a0_0) := (blk_cell BK315.out 0).trans rfl; have hcz12_1 : w11.cell? ⟨gb315, 1, none⟩ = some (.int .i64 a0_1) := (blk_cell BK315.out 1).trans rfl; have hfz12_0 := blk_frozen BK315.out 0; have hfz12_1 := blk_frozen BK315.out 1) | ((with_reducible refine gate_callee (f := 15) rfl ?_); refine goesL_ (some 22) rfl rfl Try.func15 (by kernel_rfl) rfl #[.agg #[.int .i64 a0_0, .int .i64 a0_1]] rfl (by (try simp only [List.map_toArray, List.map_cons, List.map_nil]); first | done | rfl | (simp only [List.length_drop, List.length_take]; rfl)) ?_; (with_reducible refine (laws_toStreet.calls a0_0 a0_1 t322 t323 _ A5.out).mono ?_); rintro e w13 ⟨rfl, hb⟩; refine ⟨_, rfl, ?_⟩; have n0_ := Aside0.mk (Kd.R_below (by (with_reducible repeat (first | apply Kd.R_alloc | apply Kd.R_drewN | apply Kd.R_drew)); exact HO320.out) hb); have n1_ := Aside0.mk (blk_below (g := gb315) (o := .cells #[.int .i64 a0_0, .int .i64 a0_1] 23 (0, 0)) (by (with_reducible repeat (first | refine blk_drewN ?_ _ | refine blk_drew ?_ | refine blk_alloc ?_ _)); exact BK315.out) hb); have n2_ := Aside0.mk (below_step (by repeat (first | (with_reducible first | exact HB.out | apply below_alloc | apply pw_below_drewN | apply below_drew1 | refine below_set ?_ GE315.out) | exact HB.out)) hb); clear HO320; clear BK315; clear HB; have HO320 := n0_; have BK315 := n1_; have HB := n2_; clear n0_ n1_ n2_; (try clear hb); (try clear hb2); (try clear hk); (try clear hi)) | ((with_reducible refine gate_callee (f := 48) rfl ?_); refine goesL_ (some 24) rfl rfl Try.func48 (by kernel_rfl) rfl #[.agg #[.int .i64 t322, .int .i64 t323], .int .i64 a1] rfl (by (try simp only [List.map_toArray, List.map_cons, List.map_nil]); first | done | rfl | (simp only [List.length_drop, List.length_take]; rfl)) ?_; (with_reducible refine (impl_NextHouses.calls k t322 t323 a1 t324 t327 _ A6.out).mono ?_); rintro e w14 ⟨v325, rfl, ho0, hb⟩; refine ⟨_, rfl, ?_⟩; have n0_ := Aside0.mk (Kd.R_elder' (by (with_reducible repeat (first | apply Kd.R_alloc | apply Kd.R_drewN | apply Kd.R_drew)); exact HO320.out) (Kd.R_base ho0) hb); have n1_ := Aside0.mk (Kd.R_lower (Kd.R_new' ho0 (Kd.R_lt (by (with_reducible repeat (first | apply Kd.R_alloc | apply Kd.R_drewN | apply Kd.R_drew)); exact HO320.out))) (below_size (by repeat (first | (with_reducible first | exact HB.out | apply below_alloc | apply pw_below_drewN | apply below_drew1 | refine below_set ?_ GE315.out) | exact HB.out)))); have n2_ := Aside0.mk (blk_below (g := gb315) (o := .cells #[.int .i64 a0_0, .int .i64 a0_1] 23 (0, 0)) (by (with_reducible repeat (first | refine blk_drewN ?_ _ | refine blk_drew ?_ | refine blk_alloc ?_ _)); exact BK315.out) hb); have n3_ := Aside0.mk (below_step (by repeat (first | (with_reducible first | exact HB.out | apply below_alloc | apply pw_below_drewN | apply below_drew1 | refine below_set ?_ GE315.out) | exact HB.out)) hb); clear HO320; clear BK315; clear HB; have HO320 := n0_; have HO326 := n1_; have BK315 := n2_; have HB := n3_; clear n0_ n1_ n2_ n3_; (try clear hb); (try clear hb2); (try clear hk); (try clear hi); (try clear ho0)))
  (try simp only [Act.put, List.setIfInBounds_toArray, List.set_cons_zero, List.set_cons_succ])
  go_cut [35] (fun v35 wc => ∃ (kq : Nat) (x35_6 : Bool), v35 = .bool x35_6 ∧ Aside0 (laws_FnExactNextHouses.j0 kq a1 t318 t321 t324 x35_6 a0_0 a0_1 = some r) ∧ Aside0 (kq ≤ k) ∧ Aside0 (Kd.R (Kd.int .i64) 3 wc w.heap.size (fun k_ => some k_ ≠ (v325 : Value).ownBlock) v319 t318) ∧ Aside0 (Kd.R (Kd.int .i64) 3 wc w.heap.size (fun k_ => some k_ ≠ (v319 : Value).ownBlock) v325 t324) ∧ Aside0 (wc.heap[gb315]? = some (.cells #[.int .i64 a0_0, .int .i64 a0_1] 23 (0, 0))) ∧ Aside0 (Below w.heap.size w wc))
  case first =>
    have H := HC7.out
    clear HC7
    replace H := Option.bind_eq_some_iff.mp H
    obtain ⟨t328, A150, H⟩ := H
    replace H : (if t328 = true then (laws_FnExactNextHouses.j0 k a1 t318 t321 t324 (t327 != t321) a0_0 a0_1) else (laws_FnExactNextHouses.j0 k a1 t318 t321 t324 true a0_0 a0_1)) = some r := H
    have A15 := Aside0.mk A150
    clear A150
    by_cases c16 : t328 = true
    · subst c16
      have H1 : (laws_FnExactNextHouses.j0 k a1 t318 t321 t324 (t327 != t321) a0_0 a0_1) = some r := by rw [if_pos rfl] at H; exact H
      clear H
      have H := H1
      clear H1
      have H' := Aside0.mk H
      clear H
      obtain ⟨Ao17, co17, eo17⟩ := Kd.R_slice HO326.out
      subst eo17
      obtain ⟨Ao18, co18, eo18⟩ := Kd.R_slice HO320.out
      subst eo18
      go_wp2_with (first | ((with_reducible refine gate_callee (f := 17) rfl ?_); refine goesL_ (some 29) rfl rfl Try.func17 (by kernel_rfl) rfl #[.slice Ao17 t324.length co17, .slice Ao18 t318.length co18] rfl (by (try simp only [List.map_toArray, List.map_cons, List.map_nil]); first | done | rfl | (simp only [List.length_drop, List.length_take]; rfl)) ?_; (with_reducible refine (laws_eqIntS.calls k _ _ t324 _ _ t318 true _ ?side1 ?side2 ?side3 ?side4 A15.out).mono ?_); (case side1 => repeat (first | exact (Kd.R_reads' HO326.out).2.2 | (with_reducible refine Kd.C_alloc ?_ _) | (with_reducible refine Kd.C_drewN ?_ _) | (with_reducible refine Kd.C_drew ?_))); (case side2 => exact (Kd.R_reads' HO326.out).2.1); (case side3 => repeat (first | exact (Kd.R_reads' HO320.out).2.2 | (with_reducible refine Kd.C_alloc ?_ _) | (with_reducible refine Kd.C_drewN ?_ _) | (with_reducible refine Kd.C_drew ?_))); (case side4 => exact (Kd.R_reads' HO320.out).2.1); rintro e w' ⟨rfl, ⟨nd, rfl⟩⟩; refine ⟨_, rfl, ?_⟩))
      go_meet
      case rel => exact ⟨_, ((t327 != t321)), (by first | rfl | (simp; done) | (simp [*]; done)), H', ⟨by first | omega | exact Nat.le_refl _⟩, ⟨by (with_reducible repeat (first | apply Kd.R_alloc | apply Kd.R_drewN | apply Kd.R_drew)); exact Kd.R_mono HO320.out (fun _ hk => hk.2)⟩, ⟨by (with_reducible repeat (first | apply Kd.R_alloc | apply Kd.R_drewN | apply Kd.R_drew)); exact Kd.R_mono HO326.out (fun _ hk => hk.2)⟩, ⟨by (with_reducible repeat (first | refine blk_drewN ?_ _ | refine blk_drew ?_ | refine blk_alloc ?_ _)); exact BK315.out⟩, ⟨by repeat (first | (with_reducible first | exact HB.out | apply below_alloc | apply pw_below_drewN | apply below_drew1 | refine below_set ?_ GE315.out) | exact HB.out)⟩⟩
    · replace c16 := Bool.eq_false_iff.mpr c16
      subst c16
      have H1 : (laws_FnExactNextHouses.j0 k a1 t318 t321 t324 true a0_0 a0_1) = some r := by rw [if_neg (show ¬ (false = true) by decide)] at H; exact H
      clear H
      have H := H1
      clear H1
      have H' := Aside0.mk H
      clear H
      obtain ⟨Ao19, co19, eo19⟩ := Kd.R_slice HO326.out
      subst eo19
      obtain ⟨Ao20, co20, eo20⟩ := Kd.R_slice HO320.out
      subst eo20
      go_wp2_with (first | ((with_reducible refine gate_callee (f := 17) rfl ?_); refine goesL_ (some 29) rfl rfl Try.func17 (by kernel_rfl) rfl #[.slice Ao19 t324.length co19, .slice Ao20 t318.length co20] rfl (by (try simp only [List.map_toArray, List.map_cons, List.map_nil]); first | done | rfl | (simp only [List.length_drop, List.length_take]; rfl)) ?_; (with_reducible refine (laws_eqIntS.calls k _ _ t324 _ _ t318 false _ ?side1 ?side2 ?side3 ?side4 A15.out).mono ?_); (case side1 => repeat (first | exact (Kd.R_reads' HO326.out).2.2 | (with_reducible refine Kd.C_alloc ?_ _) | (with_reducible refine Kd.C_drewN ?_ _) | (with_reducible refine Kd.C_drew ?_))); (case side2 => exact (Kd.R_reads' HO326.out).2.1); (case side3 => repeat (first | exact (Kd.R_reads' HO320.out).2.2 | (with_reducible refine Kd.C_alloc ?_ _) | (with_reducible refine Kd.C_drewN ?_ _) | (with_reducible refine Kd.C_drew ?_))); (case side4 => exact (Kd.R_reads' HO320.out).2.1); rintro e w' ⟨rfl, ⟨nd, rfl⟩⟩; refine ⟨_, rfl, ?_⟩))
      go_meet
      case rel => exact ⟨_, (true), (by first | rfl | (simp; done) | (simp [*]; done)), H', ⟨by first | omega | exact Nat.le_refl _⟩, ⟨by (with_reducible repeat (first | apply Kd.R_alloc | apply Kd.R_drewN | apply Kd.R_drew)); exact Kd.R_mono HO320.out (fun _ hk => hk.2)⟩, ⟨by (with_reducible repeat (first | apply Kd.R_alloc | apply Kd.R_drewN | apply Kd.R_drew)); exact Kd.R_mono HO326.out (fun _ hk => hk.2)⟩, ⟨by (with_reducible repeat (first | refine blk_drewN ?_ _ | refine blk_drew ?_ | refine blk_alloc ?_ _)); exact BK315.out⟩, ⟨by repeat (first | (with_reducible first | exact HB.out | apply below_alloc | apply pw_below_drewN | apply below_drew1 | refine below_set ?_ GE315.out) | exact HB.out)⟩⟩
  case rest =>
    clear HC7
    try clear c1
    try clear p2
    try clear c4
    try clear c13
    try clear c15
    try clear c16
    try clear c17
    try clear hcz12_0
    try clear hcz12_1
    try clear hcz9_0
    try clear hcz9_1
    try clear hfz12_0
    try clear hfz12_1
    try clear hfz9_0
    try clear hfz9_1
    obtain ⟨kq, x35_6, rfl, HA, HJ6, HO_5, HO_7, BK315, HB⟩ := hcut
    cases kq with
    | zero => exact absurd HA.out (by simp [laws_FnExactNextHouses.j0])
    | succ kj6 =>
      have H := HA.out
      clear HA
      simp only [laws_FnExactNextHouses.j0] at H
      by_cases c21 : x35_6 = true
      · subst c21
        have H1 : (some false) = some r := by rw [if_pos rfl] at H; exact H
        clear H
        have H := H1
        clear H1
        obtain rfl := Option.some.inj H
        go_wp2
        go_ret
        exact ⟨by first | rfl | (simp [errW_none, errW_some] <;> rfl) | (simp [*, errW_none, errW_some] <;> rfl), by repeat (first | (with_reducible first | exact HB.out | apply below_alloc | apply pw_below_drewN | apply below_drew1 | refine below_set ?_ GE315.out) | exact HB.out)⟩
      · replace c21 := Bool.eq_false_iff.mpr c21
        subst c21
        have H1 : ((laws_markIntS.f kj6 t324 1).bind fun bt329 => ((laws_heldIntS.f kj6 bt329.2 1).bind fun t331 => (if t331 < 0 then (some false) else (if t331 = bt329.1 then ((laws_toStreet.f a0_0 a0_1).bind fun bt332 => ((impl_NextHouses.f kj6 bt332.1 bt332.2 a1).bind fun bt334 => ((laws_eqIntS.f kj6 bt334.1 t318).bind fun t338 => (if t338 = true then (laws_FnExactNextHouses.j1 kj6 bt329.2 bt329.1 (bt334.2 != t321)) else (laws_FnExactNextHouses.j1 kj6 bt329.2 bt329.1 true))))) else (some false))))) = some r := by rw [if_neg (show ¬ (false = true) by decide)] at H; exact H
        clear H
        have H := H1
        clear H1
        replace H := Option.bind_eq_some_iff.mp H
        obtain ⟨⟨t329, t330⟩, A220, H⟩ := H
        replace H : ((laws_heldIntS.f kj6 t330 1).bind fun t331 => (if t331 < 0 then (some false) else (if t331 = t329 then ((laws_toStreet.f a0_0 a0_1).bind fun bt332 => ((impl_NextHouses.f kj6 bt332.1 bt332.2 a1).bind fun bt334 => ((laws_eqIntS.f kj6 bt334.1 t318).bind fun t338 => (if t338 = true then (laws_FnExactNextHouses.j1 kj6 t330 t329 (bt334.2 != t321)) else (laws_FnExactNextHouses.j1 kj6 t330 t329 true))))) else (some false)))) = some r := H
        have A22 := Aside0.mk A220
        clear A220
        replace H := Option.bind_eq_some_iff.mp H
        obtain ⟨t331, A230, H⟩ := H
        replace H : (if t331 < 0 then (some false) else (if t331 = t329 then ((laws_toStreet.f a0_0 a0_1).bind fun bt332 => ((impl_NextHouses.f kj6 bt332.1 bt332.2 a1).bind fun bt334 => ((laws_eqIntS.f kj6 bt334.1 t318).bind fun t338 => (if t338 = true then (laws_FnExactNextHouses.j1 kj6 t330 t329 (bt334.2 != t321)) else (laws_FnExactNextHouses.j1 kj6 t330 t329 true))))) else (some false))) = some r := H
        have A23 := Aside0.mk A230
        clear A230
        by_cases c24 : t331 < 0
        · rw [if_pos c24] at H
          have c24b0 : decide (t331 < 0) = true := decide_eq_true c24
          clear c24
          obtain rfl := Option.some.inj H
          obtain ⟨Ao25, co25, eo25⟩ := Kd.R_slice HO_7.out
          subst eo25
          go_wp2_with (first | ((with_reducible refine gate_callee (f := 18) rfl ?_); refine goesL_ (some 38) rfl rfl Try.func18 (by kernel_rfl) rfl #[.slice Ao25 t324.length co25, .int .i64 1] rfl (by (try simp only [List.map_toArray, List.map_cons, List.map_nil]); first | done | rfl | (simp only [List.length_drop, List.length_take]; rfl)) ?_; (with_reducible refine (laws_markIntS.calls kj6 (fun k_ => some k_ = (.slice Ao25 t324.length co25 : Value).ownBlock) (.slice Ao25 t324.length co25) t324 1 t329 t330 w _ ?side1 ?side2 A22.out).mono ?_); (case side1 => repeat (first | (with_reducible first | exact HB.out | apply below_alloc | apply pw_below_drewN | apply below_drew1 | refine below_set ?_ GE315.out) | exact HB.out)); (case side2 => exact Kd.R_tight rfl HO_7.out); rintro e w26 ⟨rfl, hy0, hb, hkp⟩; refine ⟨_, rfl, ?_⟩; have n0_ := Aside0.mk (Kd.R_mono (ok' := fun k_ => some k_ ≠ (.slice Ao25 t324.length co25 : Value).ownBlock) (Kd.R_keptB (HO_5.out) hkp (fun k_ hk_ hs_ => (hk_) hs_)) (fun k_ hk_ => hk_.1)); have n1_ := Aside0.mk (Kd.R_reok rfl hy0 (fun k_ e_ => HO_7.out.1 k_ e_)); have n2_ := Aside0.mk (blk_kept (by (with_reducible repeat (first | refine blk_drewN ?_ _ | refine blk_drew ?_ | refine blk_alloc ?_ _)); exact BK315.out) hkp (fun hs_ => (fun e_ => (Kd.R_ne HO_7.out BK315.out (by decide)) e_) hs_)); have n3_ := Aside0.mk (hb); clear HO_5; clear HO_7; clear BK315; clear HB; have HO_5 := n0_; have HO_7 := n1_; have BK315 := n2_; have HB := n3_; clear n0_ n1_ n2_ n3_; (try clear hb); (try clear hkp); (try clear hy0)) | ((with_reducible refine gate_callee (f := 19) rfl ?_); refine goesL_ (some 41) rfl rfl Try.func19 (by kernel_rfl) rfl #[.slice Ao25 t330.length co25, .int .i64 1] rfl (by (try simp only [List.map_toArray, List.map_cons, List.map_nil]); first | done | (rw [show t330.length = t324.length from (Kd.R_reads' HO_7.out).1.symm] <;> rfl) | rfl | (simp only [List.length_drop, List.length_take]; rfl)) ?_; (with_reducible refine (laws_heldIntS.calls kj6 _ _ t330 1 t331 _ ?side1 ?side2 A23.out).mono ?_); (case side1 => repeat (first | exact (Kd.R_reads' HO_7.out).2.2 | (with_reducible refine Kd.C_alloc ?_ _) | (with_reducible refine Kd.C_drewN ?_ _) | (with_reducible refine Kd.C_drew ?_))); (case side2 => rw [show t330.length = t324.length from (Kd.R_reads' HO_7.out).1.symm]; exact (Kd.R_reads' HO_7.out).2.1); rintro e w' ⟨rfl, ⟨nd, rfl⟩⟩; refine ⟨_, rfl, ?_⟩))
          go_ret
          exact ⟨by first | rfl | (simp [errW_none, errW_some] <;> rfl) | (simp [*, errW_none, errW_some] <;> rfl), by repeat (first | (with_reducible first | exact HB.out | apply below_alloc | apply pw_below_drewN | apply below_drew1 | refine below_set ?_ GE315.out) | exact HB.out)⟩
        · rw [if_neg c24] at H
          have c24b0 : decide (t331 < 0) = false := decide_eq_false c24
          clear c24
          by_cases c27 : t331 = t329
          · rw [if_pos c27] at H
            have c27b0 : (t331 == t329) = true := beq_iff_eq.mpr c27
            have c27b1 : (t331 != t329) = false := bne_eq_false_iff_eq.mpr c27
            clear c27
            replace H := Option.bind_eq_some_iff.mp H
            obtain ⟨⟨t332, t333⟩, A280, H⟩ := H
            replace H : ((impl_NextHouses.f kj6 t332 t333 a1).bind fun bt334 => ((laws_eqIntS.f kj6 bt334.1 t318).bind fun t338 => (if t338 = true then (laws_FnExactNextHouses.j1 kj6 t330 t329 (bt334.2 != t321)) else (laws_FnExactNextHouses.j1 kj6 t330 t329 true)))) = some r := H
            have A28 := Aside0.mk A280
            clear A280
            replace H := Option.bind_eq_some_iff.mp H
            obtain ⟨⟨t334, t337⟩, A290, H⟩ := H
            replace H : ((laws_eqIntS.f kj6 t334 t318).bind fun t338 => (if t338 = true then (laws_FnExactNextHouses.j1 kj6 t330 t329 (t337 != t321)) else (laws_FnExactNextHouses.j1 kj6 t330 t329 true))) = some r := H
            have A29 := Aside0.mk A290
            clear A290
            have HC30 := Aside0.mk H
            clear H
            obtain ⟨Ao31, co31, eo31⟩ := Kd.R_slice HO_7.out
            subst eo31
            go_upto_region 14 with (first | ((with_reducible refine gate_callee (f := 18) rfl ?_); refine goesL_ (some 38) rfl rfl Try.func18 (by kernel_rfl) rfl #[.slice Ao31 t324.length co31, .int .i64 1] rfl (by (try simp only [List.map_toArray, List.map_cons, List.map_nil]); first | done | rfl | (simp only [List.length_drop, List.length_take]; rfl)) ?_; (with_reducible refine (laws_markIntS.calls kj6 (fun k_ => some k_ = (.slice Ao31 t324.length co31 : Value).ownBlock) (.slice Ao31 t324.length co31) t324 1 t329 t330 w _ ?side1 ?side2 A22.out).mono ?_); (case side1 => repeat (first | (with_reducible first | exact HB.out | apply below_alloc | apply pw_below_drewN | apply below_drew1 | refine below_set ?_ GE315.out) | exact HB.out)); (case side2 => exact Kd.R_tight rfl HO_7.out); rintro e w32 ⟨rfl, hy0, hb, hkp⟩; refine ⟨_, rfl, ?_⟩; have n0_ := Aside0.mk (Kd.R_mono (ok' := fun k_ => some k_ ≠ (.slice Ao31 t324.length co31 : Value).ownBlock) (Kd.R_keptB (HO_5.out) hkp (fun k_ hk_ hs_ => (hk_) hs_)) (fun k_ hk_ => hk_.1)); have n1_ := Aside0.mk (Kd.R_reok rfl hy0 (fun k_ e_ => HO_7.out.1 k_ e_)); have n2_ := Aside0.mk (blk_kept (by (with_reducible repeat (first | refine blk_drewN ?_ _ | refine blk_drew ?_ | refine blk_alloc ?_ _)); exact BK315.out) hkp (fun hs_ => (fun e_ => (Kd.R_ne HO_7.out BK315.out (by decide)) e_) hs_)); have n3_ := Aside0.mk (hb); clear HO_5; clear HO_7; clear BK315; clear HB; have HO_5 := n0_; have HO_7 := n1_; have BK315 := n2_; have HB := n3_; clear n0_ n1_ n2_ n3_; (try clear hb); (try clear hkp); (try clear hy0)) | ((with_reducible refine gate_callee (f := 19) rfl ?_); refine goesL_ (some 41) rfl rfl Try.func19 (by kernel_rfl) rfl #[.slice Ao31 t330.length co31, .int .i64 1] rfl (by (try simp only [List.map_toArray, List.map_cons, List.map_nil]); first | done | (rw [show t330.length = t324.length from (Kd.R_reads' HO_7.out).1.symm] <;> rfl) | rfl | (simp only [List.length_drop, List.length_take]; rfl)) ?_; (with_reducible refine (laws_heldIntS.calls kj6 _ _ t330 1 t331 _ ?side1 ?side2 A23.out).mono ?_); (case side1 => repeat (first | exact (Kd.R_reads' HO_7.out).2.2 | (with_reducible refine Kd.C_alloc ?_ _) | (with_reducible refine Kd.C_drewN ?_ _) | (with_reducible refine Kd.C_drew ?_))); (case side2 => rw [show t330.length = t324.length from (Kd.R_reads' HO_7.out).1.symm]; exact (Kd.R_reads' HO_7.out).2.1); rintro e w' ⟨rfl, ⟨nd, rfl⟩⟩; refine ⟨_, rfl, ?_⟩; have hcz33_0 : w32.cell? ⟨gb315, 0, none⟩ = some (.int .i64 a0_0) := (blk_cell BK315.out 0).trans rfl; have hcz33_1 : w32.cell? ⟨gb315, 1, none⟩ = some (.int .i64 a0_1) := (blk_cell BK315.out 1).trans rfl; have hfz33_0 := blk_frozen BK315.out 0; have hfz33_1 := blk_frozen BK315.out 1) | ((with_reducible refine gate_callee (f := 15) rfl ?_); refine goesL_ (some 49) rfl rfl Try.func15 (by kernel_rfl) rfl #[.agg #[.int .i64 a0_0, .int .i64 a0_1]] rfl (by (try simp only [List.map_toArray, List.map_cons, List.map_nil]); first | done | rfl | (simp only [List.length_drop, List.length_take]; rfl)) ?_; (with_reducible refine (laws_toStreet.calls a0_0 a0_1 t332 t333 _ A28.out).mono ?_); rintro e w34 ⟨rfl, hb⟩; refine ⟨_, rfl, ?_⟩; have n0_ := Aside0.mk (Kd.R_below (by (with_reducible repeat (first | apply Kd.R_alloc | apply Kd.R_drewN | apply Kd.R_drew)); exact HO_5.out) hb); have n1_ := Aside0.mk (Kd.R_below (by (with_reducible repeat (first | apply Kd.R_alloc | apply Kd.R_drewN | apply Kd.R_drew)); exact HO_7.out) hb); have n2_ := Aside0.mk (blk_below (g := gb315) (o := .cells #[.int .i64 a0_0, .int .i64 a0_1] 23 (0, 0)) (by (with_reducible repeat (first | refine blk_drewN ?_ _ | refine blk_drew ?_ | refine blk_alloc ?_ _)); exact BK315.out) hb); have n3_ := Aside0.mk (below_step (by repeat (first | (with_reducible first | exact HB.out | apply below_alloc | apply pw_below_drewN | apply below_drew1 | refine below_set ?_ GE315.out) | exact HB.out)) hb); clear HO_5; clear HO_7; clear BK315; clear HB; have HO_5 := n0_; have HO_7 := n1_; have BK315 := n2_; have HB := n3_; clear n0_ n1_ n2_ n3_; (try clear hb); (try clear hb2); (try clear hk); (try clear hi)) | ((with_reducible refine gate_callee (f := 48) rfl ?_); refine goesL_ (some 51) rfl rfl Try.func48 (by kernel_rfl) rfl #[.agg #[.int .i64 t332, .int .i64 t333], .int .i64 a1] rfl (by (try simp only [List.map_toArray, List.map_cons, List.map_nil]); first | done | rfl | (simp only [List.length_drop, List.length_take]; rfl)) ?_; (with_reducible refine (impl_NextHouses.calls kj6 t332 t333 a1 t334 t337 _ A29.out).mono ?_); rintro e w35 ⟨v335, rfl, ho0, hb⟩; refine ⟨_, rfl, ?_⟩; have n0_ := Aside0.mk (Kd.R_elder' (by (with_reducible repeat (first | apply Kd.R_alloc | apply Kd.R_drewN | apply Kd.R_drew)); exact HO_5.out) (Kd.R_base ho0) hb); have n1_ := Aside0.mk (Kd.R_elder' (by (with_reducible repeat (first | apply Kd.R_alloc | apply Kd.R_drewN | apply Kd.R_drew)); exact HO_7.out) (Kd.R_base ho0) hb); have n2_ := Aside0.mk (Kd.R_lower (Kd.R_new' (Kd.R_new' ho0 (Kd.R_lt (by (with_reducible repeat (first | apply Kd.R_alloc | apply Kd.R_drewN | apply Kd.R_drew)); exact HO_5.out))) (Kd.R_lt (by (with_reducible repeat (first | apply Kd.R_alloc | apply Kd.R_drewN | apply Kd.R_drew)); exact HO_7.out))) (below_size (by repeat (first | (with_reducible first | exact HB.out | apply below_alloc | apply pw_below_drewN | apply below_drew1 | refine below_set ?_ GE315.out) | exact HB.out)))); have n3_ := Aside0.mk (blk_below (g := gb315) (o := .cells #[.int .i64 a0_0, .int .i64 a0_1] 23 (0, 0)) (by (with_reducible repeat (first | refine blk_drewN ?_ _ | refine blk_drew ?_ | refine blk_alloc ?_ _)); exact BK315.out) hb); have n4_ := Aside0.mk (below_step (by repeat (first | (with_reducible first | exact HB.out | apply below_alloc | apply pw_below_drewN | apply below_drew1 | refine below_set ?_ GE315.out) | exact HB.out)) hb); clear HO_5; clear HO_7; clear BK315; clear HB; have HO_5 := n0_; have HO_7 := n1_; have HO336 := n2_; have BK315 := n3_; have HB := n4_; clear n0_ n1_ n2_ n3_ n4_; (try clear hb); (try clear hb2); (try clear hk); (try clear hi); (try clear ho0)))
            (try simp only [Act.put, List.setIfInBounds_toArray, List.set_cons_zero, List.set_cons_succ])
            go_cut [62] (fun v62 wc => ∃ (kq : Nat) (x62_29 : Bool), v62 = .bool x62_29 ∧ Aside0 (laws_FnExactNextHouses.j1 kq t330 t329 x62_29 = some r) ∧ Aside0 (kq ≤ kj6) ∧ Aside0 (Kd.R (Kd.int .i64) 3 wc w.heap.size (fun _ => True) (.slice Ao31 t324.length co31) t330) ∧ Aside0 (wc.heap[gb315]? = some (.cells #[.int .i64 a0_0, .int .i64 a0_1] 23 (0, 0))) ∧ Aside0 (Below w.heap.size w wc))
            case first =>
              have H := HC30.out
              clear HC30
              replace H := Option.bind_eq_some_iff.mp H
              obtain ⟨t338, A360, H⟩ := H
              replace H : (if t338 = true then (laws_FnExactNextHouses.j1 kj6 t330 t329 (t337 != t321)) else (laws_FnExactNextHouses.j1 kj6 t330 t329 true)) = some r := H
              have A36 := Aside0.mk A360
              clear A360
              by_cases c37 : t338 = true
              · subst c37
                have H1 : (laws_FnExactNextHouses.j1 kj6 t330 t329 (t337 != t321)) = some r := by rw [if_pos rfl] at H; exact H
                clear H
                have H := H1
                clear H1
                have H' := Aside0.mk H
                clear H
                obtain ⟨Ao38, co38, eo38⟩ := Kd.R_slice HO336.out
                subst eo38
                obtain ⟨Ao39, co39, eo39⟩ := Kd.R_slice HO_5.out
                subst eo39
                go_wp2_with (first | ((with_reducible refine gate_callee (f := 17) rfl ?_); refine goesL_ (some 56) rfl rfl Try.func17 (by kernel_rfl) rfl #[.slice Ao38 t334.length co38, .slice Ao39 t318.length co39] rfl (by (try simp only [List.map_toArray, List.map_cons, List.map_nil]); first | done | rfl | (simp only [List.length_drop, List.length_take]; rfl)) ?_; (with_reducible refine (laws_eqIntS.calls kj6 _ _ t334 _ _ t318 true _ ?side1 ?side2 ?side3 ?side4 A36.out).mono ?_); (case side1 => repeat (first | exact (Kd.R_reads' HO336.out).2.2 | (with_reducible refine Kd.C_alloc ?_ _) | (with_reducible refine Kd.C_drewN ?_ _) | (with_reducible refine Kd.C_drew ?_))); (case side2 => exact (Kd.R_reads' HO336.out).2.1); (case side3 => repeat (first | exact (Kd.R_reads' HO_5.out).2.2 | (with_reducible refine Kd.C_alloc ?_ _) | (with_reducible refine Kd.C_drewN ?_ _) | (with_reducible refine Kd.C_drew ?_))); (case side4 => exact (Kd.R_reads' HO_5.out).2.1); rintro e w' ⟨rfl, ⟨nd, rfl⟩⟩; refine ⟨_, rfl, ?_⟩))
                go_meet
                case rel => exact ⟨_, ((t337 != t321)), (by first | rfl | (simp; done) | (simp [*]; done)), H', ⟨by have := HJ6.out; first | omega | exact Nat.le_refl _⟩, ⟨by (with_reducible repeat (first | apply Kd.R_alloc | apply Kd.R_drewN | apply Kd.R_drew)); exact Kd.R_mono HO_7.out (fun _ hk => trivial)⟩, ⟨by (with_reducible repeat (first | refine blk_drewN ?_ _ | refine blk_drew ?_ | refine blk_alloc ?_ _)); exact BK315.out⟩, ⟨by repeat (first | (with_reducible first | exact HB.out | apply below_alloc | apply pw_below_drewN | apply below_drew1 | refine below_set ?_ GE315.out) | exact HB.out)⟩⟩
              · replace c37 := Bool.eq_false_iff.mpr c37
                subst c37
                have H1 : (laws_FnExactNextHouses.j1 kj6 t330 t329 true) = some r := by rw [if_neg (show ¬ (false = true) by decide)] at H; exact H
                clear H
                have H := H1
                clear H1
                have H' := Aside0.mk H
                clear H
                obtain ⟨Ao40, co40, eo40⟩ := Kd.R_slice HO336.out
                subst eo40
                obtain ⟨Ao41, co41, eo41⟩ := Kd.R_slice HO_5.out
                subst eo41
                go_wp2_with (first | ((with_reducible refine gate_callee (f := 17) rfl ?_); refine goesL_ (some 56) rfl rfl Try.func17 (by kernel_rfl) rfl #[.slice Ao40 t334.length co40, .slice Ao41 t318.length co41] rfl (by (try simp only [List.map_toArray, List.map_cons, List.map_nil]); first | done | rfl | (simp only [List.length_drop, List.length_take]; rfl)) ?_; (with_reducible refine (laws_eqIntS.calls kj6 _ _ t334 _ _ t318 false _ ?side1 ?side2 ?side3 ?side4 A36.out).mono ?_); (case side1 => repeat (first | exact (Kd.R_reads' HO336.out).2.2 | (with_reducible refine Kd.C_alloc ?_ _) | (with_reducible refine Kd.C_drewN ?_ _) | (with_reducible refine Kd.C_drew ?_))); (case side2 => exact (Kd.R_reads' HO336.out).2.1); (case side3 => repeat (first | exact (Kd.R_reads' HO_5.out).2.2 | (with_reducible refine Kd.C_alloc ?_ _) | (with_reducible refine Kd.C_drewN ?_ _) | (with_reducible refine Kd.C_drew ?_))); (case side4 => exact (Kd.R_reads' HO_5.out).2.1); rintro e w' ⟨rfl, ⟨nd, rfl⟩⟩; refine ⟨_, rfl, ?_⟩))
                go_meet
                case rel => exact ⟨_, (true), (by first | rfl | (simp; done) | (simp [*]; done)), H', ⟨by have := HJ6.out; first | omega | exact Nat.le_refl _⟩, ⟨by (with_reducible repeat (first | apply Kd.R_alloc | apply Kd.R_drewN | apply Kd.R_drew)); exact Kd.R_mono HO_7.out (fun _ hk => trivial)⟩, ⟨by (with_reducible repeat (first | refine blk_drewN ?_ _ | refine blk_drew ?_ | refine blk_alloc ?_ _)); exact BK315.out⟩, ⟨by repeat (first | (with_reducible first | exact HB.out | apply below_alloc | apply pw_below_drewN | apply below_drew1 | refine below_set ?_ GE315.out) | exact HB.out)⟩⟩
            case rest =>
              clear HC30
              try clear c1
              try clear c2
              try clear p2
              try clear c3
              try clear c4
              try clear c13
              try clear c15
              try clear c16
              try clear c17
              try clear c18
              try clear c19
              try clear c21
              try clear c24
              try clear c24b0
              try clear c27
              try clear c27b0
              try clear c27b1
              try clear c37
              try clear hcz12_0
              try clear hcz12_1
              try clear hcz33_0
              try clear hcz33_1
              try clear hcz9_0
              try clear hcz9_1
              try clear hfz12_0
              try clear hfz12_1
              try clear hfz33_0
              try clear hfz33_1
              try clear hfz9_0
              try clear hfz9_1
              try clear p2
              obtain ⟨kq, x62_29, rfl, HA, HJ29, HO_7, BK315, HB⟩ := hcut
              have hl7_29 := (Kd.R_reads' HO_7.out).1
              rw [hl7_29] at HO_7
              (try simp only [hl7_29])
              (try simp only [hl7_29] at BK315)
              cases kq with
              | zero => exact absurd HA.out (by simp [laws_FnExactNextHouses.j1])
              | succ kj29 =>
                have H := HA.out
                clear HA
                simp only [laws_FnExactNextHouses.j1] at H
                by_cases c42 : x62_29 = true
                · subst c42
                  have H1 : (some false) = some r := by rw [if_pos rfl] at H; exact H
                  clear H
                  have H := H1
                  clear H1
                  obtain rfl := Option.some.inj H
                  go_wp2
                  go_ret
                  exact ⟨by first | rfl | (simp [errW_none, errW_some] <;> rfl) | (simp [*, errW_none, errW_some] <;> rfl), by repeat (first | (with_reducible first | exact HB.out | apply below_alloc | apply pw_below_drewN | apply below_drew1 | refine below_set ?_ GE315.out) | exact HB.out)⟩
                · replace c42 := Bool.eq_false_iff.mpr c42
                  subst c42
                  have H1 : ((laws_heldIntS.f kj29 t330 1).bind fun t339 => (if t339 < 0 then (some false) else (if t339 = t329 then (some true) else (some false)))) = some r := by rw [if_neg (show ¬ (false = true) by decide)] at H; exact H
                  clear H
                  have H := H1
                  clear H1
                  replace H := Option.bind_eq_some_iff.mp H
                  obtain ⟨t339, A430, H⟩ := H
                  replace H : (if t339 < 0 then (some false) else (if t339 = t329 then (some true) else (some false))) = some r := H
                  have A43 := Aside0.mk A430
                  clear A430
                  by_cases c44 : t339 < 0
                  · rw [if_pos c44] at H
                    have c44b0 : decide (t339 < 0) = true := decide_eq_true c44
                    clear c44
                    obtain rfl := Option.some.inj H
                    go_wp2_with (first | ((with_reducible refine gate_callee (f := 19) rfl ?_); refine goesL_ (some 65) rfl rfl Try.func19 (by kernel_rfl) rfl #[.slice Ao31 t330.length co31, .int .i64 1] rfl (by (try simp only [List.map_toArray, List.map_cons, List.map_nil]); first | done | rfl | (simp only [List.length_drop, List.length_take]; rfl)) ?_; (with_reducible refine (laws_heldIntS.calls kj29 _ _ t330 1 t339 _ ?side1 ?side2 A43.out).mono ?_); (case side1 => repeat (first | exact (Kd.R_reads' HO_7.out).2.2 | (with_reducible refine Kd.C_alloc ?_ _) | (with_reducible refine Kd.C_drewN ?_ _) | (with_reducible refine Kd.C_drew ?_))); (case side2 => exact (Kd.R_reads' HO_7.out).2.1); rintro e w' ⟨rfl, ⟨nd, rfl⟩⟩; refine ⟨_, rfl, ?_⟩))
                    go_ret
                    exact ⟨by first | rfl | (simp [errW_none, errW_some] <;> rfl) | (simp [*, errW_none, errW_some] <;> rfl), by repeat (first | (with_reducible first | exact HB.out | apply below_alloc | apply pw_below_drewN | apply below_drew1 | refine below_set ?_ GE315.out) | exact HB.out)⟩
                  · rw [if_neg c44] at H
                    have c44b0 : decide (t339 < 0) = false := decide_eq_false c44
                    clear c44
                    by_cases c45 : t339 = t329
                    · rw [if_pos c45] at H
                      have c45b0 : (t339 == t329) = true := beq_iff_eq.mpr c45
                      have c45b1 : (t339 != t329) = false := bne_eq_false_iff_eq.mpr c45
                      clear c45
                      obtain rfl := Option.some.inj H
                      go_wp2_with (first | ((with_reducible refine gate_callee (f := 19) rfl ?_); refine goesL_ (some 65) rfl rfl Try.func19 (by kernel_rfl) rfl #[.slice Ao31 t330.length co31, .int .i64 1] rfl (by (try simp only [List.map_toArray, List.map_cons, List.map_nil]); first | done | rfl | (simp only [List.length_drop, List.length_take]; rfl)) ?_; (with_reducible refine (laws_heldIntS.calls kj29 _ _ t330 1 t339 _ ?side1 ?side2 A43.out).mono ?_); (case side1 => repeat (first | exact (Kd.R_reads' HO_7.out).2.2 | (with_reducible refine Kd.C_alloc ?_ _) | (with_reducible refine Kd.C_drewN ?_ _) | (with_reducible refine Kd.C_drew ?_))); (case side2 => exact (Kd.R_reads' HO_7.out).2.1); rintro e w' ⟨rfl, ⟨nd, rfl⟩⟩; refine ⟨_, rfl, ?_⟩))
                      go_ret
                      exact ⟨by first | rfl | (simp [errW_none, errW_some] <;> rfl) | (simp [*, errW_none, errW_some] <;> rfl), by repeat (first | (with_reducible first | exact HB.out | apply below_alloc | apply pw_below_drewN | apply below_drew1 | refine below_set ?_ GE315.out) | exact HB.out)⟩
                    · rw [if_neg c45] at H
                      have c45b0 : (t339 == t329) = false := beq_eq_false_iff_ne.mpr c45
                      have c45b1 : (t339 != t329) = true := bne_iff_ne.mpr c45
                      obtain rfl := Option.some.inj H
                      go_wp2_with (first | ((with_reducible refine gate_callee (f := 19) rfl ?_); refine goesL_ (some 65) rfl rfl Try.func19 (by kernel_rfl) rfl #[.slice Ao31 t330.length co31, .int .i64 1] rfl (by (try simp only [List.map_toArray, List.map_cons, List.map_nil]); first | done | rfl | (simp only [List.length_drop, List.length_take]; rfl)) ?_; (with_reducible refine (laws_heldIntS.calls kj29 _ _ t330 1 t339 _ ?side1 ?side2 A43.out).mono ?_); (case side1 => repeat (first | exact (Kd.R_reads' HO_7.out).2.2 | (with_reducible refine Kd.C_alloc ?_ _) | (with_reducible refine Kd.C_drewN ?_ _) | (with_reducible refine Kd.C_drew ?_))); (case side2 => exact (Kd.R_reads' HO_7.out).2.1); rintro e w' ⟨rfl, ⟨nd, rfl⟩⟩; refine ⟨_, rfl, ?_⟩))
                      go_ret
                      exact ⟨by first | rfl | (simp [errW_none, errW_some] <;> rfl) | (simp [*, errW_none, errW_some] <;> rfl), by repeat (first | (with_reducible first | exact HB.out | apply below_alloc | apply pw_below_drewN | apply below_drew1 | refine below_set ?_ GE315.out) | exact HB.out)⟩
          · rw [if_neg c27] at H
            have c27b0 : (t331 == t329) = false := beq_eq_false_iff_ne.mpr c27
            have c27b1 : (t331 != t329) = true := bne_iff_ne.mpr c27
            obtain rfl := Option.some.inj H
            obtain ⟨Ao46, co46, eo46⟩ := Kd.R_slice HO_7.out
            subst eo46
            go_wp2_with (first | ((with_reducible refine gate_callee (f := 18) rfl ?_); refine goesL_ (some 38) rfl rfl Try.func18 (by kernel_rfl) rfl #[.slice Ao46 t324.length co46, .int .i64 1] rfl (by (try simp only [List.map_toArray, List.map_cons, List.map_nil]); first | done | rfl | (simp only [List.length_drop, List.length_take]; rfl)) ?_; (with_reducible refine (laws_markIntS.calls kj6 (fun k_ => some k_ = (.slice Ao46 t324.length co46 : Value).ownBlock) (.slice Ao46 t324.length co46) t324 1 t329 t330 w _ ?side1 ?side2 A22.out).mono ?_); (case side1 => repeat (first | (with_reducible first | exact HB.out | apply below_alloc | apply pw_below_drewN | apply below_drew1 | refine below_set ?_ GE315.out) | exact HB.out)); (case side2 => exact Kd.R_tight rfl HO_7.out); rintro e w47 ⟨rfl, hy0, hb, hkp⟩; refine ⟨_, rfl, ?_⟩; have n0_ := Aside0.mk (Kd.R_mono (ok' := fun k_ => some k_ ≠ (.slice Ao46 t324.length co46 : Value).ownBlock) (Kd.R_keptB (HO_5.out) hkp (fun k_ hk_ hs_ => (hk_) hs_)) (fun k_ hk_ => hk_.1)); have n1_ := Aside0.mk (Kd.R_reok rfl hy0 (fun k_ e_ => HO_7.out.1 k_ e_)); have n2_ := Aside0.mk (blk_kept (by (with_reducible repeat (first | refine blk_drewN ?_ _ | refine blk_drew ?_ | refine blk_alloc ?_ _)); exact BK315.out) hkp (fun hs_ => (fun e_ => (Kd.R_ne HO_7.out BK315.out (by decide)) e_) hs_)); have n3_ := Aside0.mk (hb); clear HO_5; clear HO_7; clear BK315; clear HB; have HO_5 := n0_; have HO_7 := n1_; have BK315 := n2_; have HB := n3_; clear n0_ n1_ n2_ n3_; (try clear hb); (try clear hkp); (try clear hy0)) | ((with_reducible refine gate_callee (f := 19) rfl ?_); refine goesL_ (some 41) rfl rfl Try.func19 (by kernel_rfl) rfl #[.slice Ao46 t330.length co46, .int .i64 1] rfl (by (try simp only [List.map_toArray, List.map_cons, List.map_nil]); first | done | (rw [show t330.length = t324.length from (Kd.R_reads' HO_7.out).1.symm] <;> rfl) | rfl | (simp only [List.length_drop, List.length_take]; rfl)) ?_; (with_reducible refine (laws_heldIntS.calls kj6 _ _ t330 1 t331 _ ?side1 ?side2 A23.out).mono ?_); (case side1 => repeat (first | exact (Kd.R_reads' HO_7.out).2.2 | (with_reducible refine Kd.C_alloc ?_ _) | (with_reducible refine Kd.C_drewN ?_ _) | (with_reducible refine Kd.C_drew ?_))); (case side2 => rw [show t330.length = t324.length from (Kd.R_reads' HO_7.out).1.symm]; exact (Kd.R_reads' HO_7.out).2.1); rintro e w' ⟨rfl, ⟨nd, rfl⟩⟩; refine ⟨_, rfl, ?_⟩))
            go_ret
            exact ⟨by first | rfl | (simp [errW_none, errW_some] <;> rfl) | (simp [*, errW_none, errW_some] <;> rfl), by repeat (first | (with_reducible first | exact HB.out | apply below_alloc | apply pw_below_drewN | apply below_drew1 | refine below_set ?_ GE315.out) | exact HB.out)⟩

end Go.Proofs.Ytgjgbdpfjohaaaa.PFnExactNextHouses
