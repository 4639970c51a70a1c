/- Functions that the law FnPlatesInserted reaches, each as a Lean function, and that the Go code comes to just these answers (written by programs). -/
import Derived.Test.YtbnhfipcjbnknaaPFnPlatesInsertedx0
import Derived.Test.YtbnhfipcjbnknaaPFnPlatesInsertedx7
namespace Go.Proofs.Ytbnhfipcjbnknaa.PFnPlatesInserted
open Go.RowKit Go.Proofs.YtbnhfipcjbnknaaW.PrintWords Go.Proofs.YtbnhfipcjbnknaaW.PrintLast Go.Proofs.YtbnhfipcjbnknaaW.PrintMore
attribute [local go_sem] max2_int min2_int max_two min_two max_three min_three max_four min_four   -- for this text's walks alone
set_option linter.unusedVariables false
set_option linter.unusedSimpArgs false

abbrev M12_0 : Array Bool := #[false, false, false, false, false, false, false, false]
abbrev M12_1 : Array Bool := #[true, false, false, false, false, false, false, false]
abbrev M12_2 : Array Bool := #[true, true, false, false, false, false, false, false]
abbrev M12_3 : Array Bool := #[true, true, true, false, false, false, false, false]
abbrev M12_4 : Array Bool := #[true, true, true, true, false, false, false, false]
abbrev M12_5 : Array Bool := #[true, true, true, true, true, false, false, false]
abbrev M12_6 : Array Bool := #[true, true, true, true, true, true, false, false]
abbrev M12_7 : Array Bool := #[true, true, true, true, true, true, true, false]
abbrev M12_8 : Array Bool := #[true, true, true, true, true, true, true, true]
abbrev M12_9 : Array Bool := #[false, false, false, false, false, false, false, false, false, false, false, false, false, false, false, false]
abbrev M12_10 : Array Bool := #[true, false, false, false, false, false, false, false, false, false, false, false, false, false, false, false]
abbrev M12_11 : Array Bool := #[true, true, false, false, false, false, false, false, false, false, false, false, false, false, false, false]
abbrev M12_12 : Array Bool := #[true, true, true, false, false, false, false, false, false, false, false, false, false, false, false, false]
abbrev M12_13 : Array Bool := #[true, true, true, true, false, false, false, false, false, false, false, false, false, false, false, false]
abbrev M12_14 : Array Bool := #[true, true, true, true, true, false, false, false, false, false, false, false, false, false, false, false]
abbrev M12_15 : Array Bool := #[true, true, true, true, true, true, false, false, false, false, false, false, false, false, false, false]
abbrev M12_16 : Array Bool := #[true, true, true, true, true, true, true, false, false, false, false, false, false, false, false, false]
abbrev M12_17 : Array Bool := #[true, true, true, true, true, true, true, true, false, false, false, false, false, false, false, false]
abbrev M12_18 : Array Bool := #[true, true, true, true, true, true, true, true, true, false, false, false, false, false, false, false]
abbrev M12_19 : Array Bool := #[true, true, true, true, true, true, true, true, true, true, false, false, false, false, false, false]
abbrev M12_20 : Array Bool := #[true, true, true, true, true, true, true, true, true, true, true, false, false, false, false, false]
abbrev M12_21 : Array Bool := #[true, true, true, true, true, true, true, true, true, true, true, true, false, false, false, false]
abbrev M12_22 : Array Bool := #[true, true, true, true, true, true, true, true, true, true, true, true, true, false, false, false]
abbrev M12_23 : Array Bool := #[true, true, true, true, true, true, true, true, true, true, true, true, true, true, false, false]
abbrev M12_24 : Array Bool := #[true, true, true, true, true, true, true, true, true, true, true, true, true, true, true, false]
abbrev M12_25 : Array Bool := #[true, true, true, true, true, true, true, true, true, true, true, true, true, true, true, true]
/-! ### impl_Plate_39: function 39 -/
theorem goesv_ {P : Program} {ops : Array Oper} {Q : Exit → Act → World → Prop} {oi : Oper} {N : Option Tmp} {a : Act} {w : World} {K : Act → World → Prop} {f : FuncId} {fn : Func} {n : Tmp} {as_ : Array Operand} {ts : Array TypeId} (hf : P.funcs[f]? = some fn) (hname : (fn.name == "runtime.NumGoroutine") = false) (hb : fn.body.isSome = true) (args : Array Value)
  (hw : Region.wanted oi (yielded ops a.tmps) = true) (hN : oi.dst = N) (hop : oi.op = .call { callee := .value (.tmp n), args := as_, argTypes := ts }) (hval : a.eval (.tmp n) = .func (.func f) #[] #[]) (hargs : as_.map a.eval = args)
  (h : Calls P f args w fun e w' => ∃ v, e = .returned v ∧ K (a.put N v) w') : if Region.wanted oi (yielded ops a.tmps) = true then Oper.wp P oi a w K Q else K (a.put N undef) w := by
 refine call_ f args hw hN ?_ h
 have he := enters_ hf hname hb args w
 unfold execOp
 simp [hop, resolve, Deferred.ofValue, invoke, hval, hargs, he]
def impl_Plate_39.l0 : Nat → List (S26) → Int → Int → Int → Int → Int → Option (Int × Bool)
 | 0, _, _, _, _, _, _ => none
 | k + 1, x0, x8, x9, x10, x355000, x355001 => if x9 < x10 then (if 0 ≤ (wrap64 ((IntKind.u64.wrap (wrap64 (x9 + x10))) / 2)) then (if (wrap64 ((IntKind.u64.wrap (wrap64 (x9 + x10))) / 2)) < (x0.length : Int) then ((impl_comparePlates.f ((rd_T26 x0 (wrap64 ((IntKind.u64.wrap (wrap64 (x9 + x10))) / 2))).f0) ((rd_T26 x0 (wrap64 ((IntKind.u64.wrap (wrap64 (x9 + x10))) / 2))).f1) x355000 x355001).bind fun t356 => (if t356 < 0 then (impl_Plate_39.l0 k x0 x8 (wrap64 ((wrap64 ((IntKind.u64.wrap (wrap64 (x9 + x10))) / 2)) + 1)) x10 x355000 x355001) else (impl_Plate_39.l0 k x0 x8 x9 (wrap64 ((IntKind.u64.wrap (wrap64 (x9 + x10))) / 2)) x355000 x355001))) else (none)) else (none)) else (if x9 < x8 then (if 0 ≤ x9 then (if x9 < (x0.length : Int) then ((impl_comparePlates.f ((rd_T26 x0 x9).f0) ((rd_T26 x0 x9).f1) x355000 x355001).bind fun t358 => (some (x9, (t358 == 0)))) else (none)) else (none)) else (some (x9, false)))
def impl_Plate_39.f (k : Nat) (l0 : List (S26)) (a1_0 : Int) (a1_1 : Int) (a2 : Int) : Option (Int × Bool) := impl_Plate_39.l0 k l0 (l0.length : Int) 0 (l0.length : Int) a1_0 a1_1
def impl_Plate_39.T5 : Bool × List (List Nat × List Nat) := (true, [([], []), ([], []), ([], []), ([1, 2], [1, 2]), ([3], [3]), ([], []), ([0, 4, 5], [0, 4, 5]), ([6], [6])])
def impl_Plate_39.B5 : List Nat := [0, 0, 0, 6, 14, 0, 63, 127]
theorem impl_Plate_39.tab5 : rtab .any (opsOf Try.f39 5) = impl_Plate_39.T5 := by kernel_rfl
theorem impl_Plate_39.bits5 : waitsOk impl_Plate_39.T5.2 impl_Plate_39.B5 = true := by kernel_rfl
def impl_Plate_39.T8 : Bool × List (List Nat × List Nat) := (true, [([], []), ([], []), ([], []), ([1, 2], [1, 2]), ([3], [3]), ([4], [4]), ([4], [4]), ([4], [4]), ([6, 7, 4], [4, 6, 7]), ([8, 4], [4, 8]), ([4], [4]), ([5, 9, 10, 4, 4], [4, 5, 9, 10]), ([11, 4], [4, 11]), ([4, 12], [4, 12]), ([0, 11, 0], [0]), ([13, 14, 0, 1, 2, 3, 4, 5, 6, 7, 8, 9, 10, 11, 12, 13, 14], [13])])
def impl_Plate_39.B8 : List Nat := [0, 0, 0, 6, 14, 30, 30, 30, 222, 478, 30, 2046, 4094, 8190, 4095, 32767]
theorem impl_Plate_39.tab8 : rtab .any (opsOf Try.f39 8) = impl_Plate_39.T8 := by kernel_rfl
theorem impl_Plate_39.bits8 : waitsOk impl_Plate_39.T8.2 impl_Plate_39.B8 = true := by kernel_rfl
set_option maxHeartbeats 8000000 in
set_option maxRecDepth 100000 in
theorem impl_Plate_39.calls (k : Nat) (A0 : Option Addr) (c0 : Nat) (l0 : List (S26)) (a1_0 : Int) (a1_1 : Int) (a2 : Int) (r1 : Int) (r2 : Bool) (w : World) (hr0 : Kd.C k26 w A0 l0.length l0) (hc0 : l0.length ≤ c0) (h : impl_Plate_39.f k l0 a1_0 a1_1 a2 = some (r1, r2)) :
  Calls Try.prog 39 #[.slice A0 l0.length c0, .agg #[.int .i64 a1_0, .int .i64 a1_1], .func (.func 40) #[] #[]] w fun e w' => e = .returned (.tuple #[.int .i64 r1, .bool r2]) ∧ Below w.heap.size w w' := by
 have hu26 := Try.underlying26
 have HR0 := Aside0.mk hr0
 have HC0 := Aside0.mk hc0
 clear hr0 hc0
 have HB := Aside0.mk (Below.refl w.heap.size w)
 have H : (impl_Plate_39.l0 k l0 (l0.length : Int) 0 (l0.length : Int) a1_0 a1_1) = some (r1, r2) := h
 clear h
 have H' := Aside0.mk H
 clear H
 go_enter Try.func39, Try.ntmps39
 go_wp2_with (first | ((with_reducible refine gate_dst (N := 4) rfl ?_); refine box_event ?hg (N := 4) ?hd (cs := #[.int .i64 a1_0, .int .i64 a1_1]) (t := 26) ?hr ?_; (case hd => rfl); (case hg => rfl); (case hr => go_simp <;> rfl); intro gb354 hg w4 hbox hb; have BK354 := Aside0.mk (hbox); have GW354 := Aside0.mk ((by rw [hg]; exact (below_size HB.out) : w.heap.size ≤ gb354)); have GE354 := GW354; replace HB := Aside0.mk (below_step HB.out hb); clear hb hbox hg))
 go_loopg [9, 10] k (fun kq v9 v10 w' => ∃ (x9_1 : Int) (x10_1 : Int), v9 = .int .i64 x9_1 ∧ v10 = .int .i64 x10_1 ∧ Aside0 (impl_Plate_39.l0 kq l0 (l0.length : Int) x9_1 x10_1 a1_0 a1_1 = some (r1, r2)) ∧ Aside0 (kq ≤ k) ∧ Aside0 (w'.heap[gb354]? = some (.cells #[.int .i64 a1_0, .int .i64 a1_1] 26 (0, 0))) ∧ Aside0 (Below w.heap.size w w'))
 case atStart => exact ⟨(0), ((l0.length : Int)), rfl, rfl, H', ⟨Nat.le_refl _⟩, ⟨by exact BK354.out⟩, ⟨HB.out⟩⟩
 case round =>
  clear H'
  try clear p2
  try clear c3
  obtain ⟨x9_1, x10_1, rfl, rfl, HA, HK1, BK354, HB⟩ := hrel
  cases gk with
  | zero => exact absurd HA.out (by simp [impl_Plate_39.l0])
  | succ k1 =>
   have H := HA.out
   clear HA
   simp only [impl_Plate_39.l0] at H
   by_cases c5 : x9_1 < x10_1
   ·rw [if_pos c5] at H
    have c5b0 : decide (x9_1 < x10_1) = true := decide_eq_true c5
    clear c5
    obtain ⟨ji6, hji6⟩ : ∃ j_ : Int, (wrap64 ((IntKind.u64.wrap (wrap64 (x9_1 + x10_1))) / 2)) = j_ := ⟨_, rfl⟩
    replace H : (if 0 ≤ (ji6) then (if (ji6) < (l0.length : Int) then ((impl_comparePlates.f ((rd_T26 l0 (ji6)).f0) ((rd_T26 l0 (ji6)).f1) a1_0 a1_1).bind fun t356 => (if t356 < 0 then (impl_Plate_39.l0 k1 l0 (l0.length : Int) (wrap64 ((ji6) + 1)) x10_1 a1_0 a1_1) else (impl_Plate_39.l0 k1 l0 (l0.length : Int) x9_1 ji6 a1_0 a1_1))) else (none)) else (none)) = some (r1, r2) := by first | (rw [hji6] at H; exact H) | (simp only [hji6] at H ⊢; exact H)
    have hji6w : (IntKind.i64.wrap ((IntKind.u64.wrap (wrap64 (x9_1 + x10_1))) / 2)) = ji6 := (i64_w _).trans hji6
    by_cases c7 : 0 ≤ (ji6)
    ·rw [if_pos c7] at H
     have c7b0 : decide (0 ≤ (ji6)) = true := decide_eq_true c7
     clear c7
     by_cases c8 : (ji6) < (l0.length : Int)
     ·rw [if_pos c8] at H
      have c8b0 : decide ((ji6) < (l0.length : Int)) = true := decide_eq_true c8
      clear c8
      replace H := Option.bind_eq_some_iff.mp H
      obtain ⟨t356, A90, H⟩ := H

      have A9 := Aside0.mk A90
      clear A90
      by_cases c10 : t356 < 0
      ·rw [if_pos c10] at H
       have c10b0 : decide (t356 < 0) = true := decide_eq_true c10
       clear c10
       have H' := Aside0.mk H
       clear H
       try go_wp2
       replace BK354 := Aside0.mk (blk_drew BK354.out)
       replace HB := Aside0.mk (below_drew1 HB.out)
       have p355 : 0 ≤ ((ji6) : Int) := of_decide_eq_true (by assumption)
       have q355 : (ji6) < (l0.length : Int) := of_decide_eq_true (by assumption)
       obtain ⟨ad355, e355, hx355_0, hx355_1⟩ := at_T26 HR0.out (ji6) p355 q355
       have hw355_1 := hx355_1
       have hw355_0 := hx355_0
       cases e355
       replace hx355_0 := (HB.out.cell (World.block_lt_of_cell? w _ hx355_0)).trans hx355_0
       replace hx355_1 := (HB.out.cell (World.block_lt_of_cell? w _ hx355_1)).trans hx355_1
       replace p355 := eq_true p355
       replace q355 := eq_true q355
       refine start_ (n := 8) (S := fun w' => w'.cell? ⟨gb354, 0, none⟩ = some (.int .i64 a1_0) ∧ w'.cell? ⟨gb354, 1, none⟩ = some (.int .i64 a1_1) ∧ w'.cell? (ad355.add (((ji6)).toNat * 2)) = some (.int .i64 ((rd_T26 l0 (ji6)).f0)) ∧ w'.cell? ⟨(ad355.add (((ji6)).toNat * 2)).block, (ad355.add (((ji6)).toNat * 2)).off + 1, none⟩ = some (.int .i64 ((rd_T26 l0 (ji6)).f1))) (ds := []) M12_0 (by kernel_rfl) rfl rfl ⟨(blk_cell BK354.out 0).trans rfl, (blk_cell BK354.out 1).trans rfl, ((HB.out.cell (World.block_lt_of_cell? w _ hw355_0)).trans hw355_0), ((HB.out.cell (World.block_lt_of_cell? w _ hw355_1)).trans hw355_1)⟩ (fun hHeld => ?_); refine with_tabW impl_Plate_39.tab5 impl_Plate_39.bits5 (fun HT_ HW_ => ?_)
       generalize wr.drew = w11 at BK354 HB hx355_0 hx355_1 hHeld ⊢
       refine pure_ (i := 0) (N := some 24) (v := ?_) (a' := ?_) M12_1 rfl rfl (any_of HT_.out (by kernel_rfl)) (fun _ _ _ h => h) (Or.inl ⟨by rfl, ?_⟩) ?_ ?_
       rotate_left
       ·intro w'
        go_simp
        with_reducible rfl
       rotate_left
       ·simp only [sp_]
        rfl
       refine pure_ (i := 1) (N := some 25) (v := ?_) (a' := ?_) M12_2 rfl rfl (any_of HT_.out (by kernel_rfl)) (fun _ _ _ h => h) (Or.inl ⟨by rfl, ?_⟩) ?_ ?_
       rotate_left
       ·intro w'
        go_simp
        with_reducible rfl
       rotate_left
       ·simp only [sp_]
        rfl
       refine pure_ (i := 2) (N := some 26) (v := ?_) (a' := ?_) M12_3 rfl rfl (any_of HT_.out (by kernel_rfl)) (fun _ _ _ h => h) (Or.inl ⟨by rfl, ?_⟩) ?_ ?_
       rotate_left
       ·intro w'
        go_simp
        with_reducible rfl
       rotate_left
       ·simp only [sp_]
        rfl
       refine pure_ (i := 3) (N := some 27) (v := ?_) (a' := ?_) M12_4 rfl rfl (any_of HT_.out (by kernel_rfl)) (fun _ _ _ h => h) (Or.inl ⟨by rfl, ?_⟩) ?_ ?_
       rotate_left
       ·intro w'
        go_simp
        with_reducible rfl
       rotate_left
       ·simp only [sp_]
        rfl
       refine take_ (i := 4) (N := some 28) (v := ?_) (a' := ?_) M12_5 rfl rfl (take_ofW HT_.out HW_.out (by kernel_rfl)) (fun _ _ _ h => h) (Or.inl ⟨by rfl, ?_⟩) hHeld ?_ ?_
       rotate_left
       ·rintro w' ⟨s0, s1, s2, s3⟩
        go_simp
        with_reducible rfl
       rotate_left
       ·simp only [sp_]
        rfl
       refine take_ (i := 5) (N := some 29) (v := ?_) (a' := ?_) M12_6 rfl rfl (take_ofW HT_.out HW_.out (by kernel_rfl)) (fun _ _ _ h => h) (Or.inl ⟨by rfl, ?_⟩) hHeld ?_ ?_
       rotate_left
       ·rintro w' ⟨s0, s1, s2, s3⟩
        go_simp
        with_reducible rfl
       rotate_left
       ·simp only [sp_]
        rfl
       refine one_ (i := 6) (N := some 30) M12_7 rfl rfl (one_of HT_.out (by kernel_rfl)) (by decide) (fun K hK => ?_)
       refine goesv_ Try.func40 (by kernel_rfl) rfl #[.agg #[.int .i64 ((rd_T26 l0 (ji6)).f0), .int .i64 ((rd_T26 l0 (ji6)).f1)], .agg #[.int .i64 a1_0, .int .i64 a1_1]] (by rfl) rfl rfl (by rfl) (by (try simp only [List.map_toArray, List.map_cons, List.map_nil]); first | done | (simp only [hji6]; rfl) | rfl | (simp only [List.length_drop, List.length_take]; rfl)) ?_
       with_reducible refine (impl_comparePlates.calls ((rd_T26 l0 (ji6)).f0) ((rd_T26 l0 (ji6)).f1) a1_0 a1_1 t356 _ A9.out).mono ?_
       rintro e w12 ⟨rfl, hb⟩
       refine ⟨_, rfl, ?_⟩
       replace BK354 := Aside0.mk (blk_below (g := gb354) (o := .cells #[.int .i64 a1_0, .int .i64 a1_1] 26 (0, 0)) BK354.out hb)
       replace HB := Aside0.mk (below_step HB.out hb)
       (try clear hb)
       (try clear hb2)
       (try clear hk)
       (try clear hi)
       refine hK.out _ _ ⟨(blk_cell BK354.out 0).trans rfl, (blk_cell BK354.out 1).trans rfl, ((HB.out.cell (World.block_lt_of_cell? w _ hw355_0)).trans hw355_0), ((HB.out.cell (World.block_lt_of_cell? w _ hw355_1)).trans hw355_1)⟩ (fun hHeld => ?_)
       clear hK K
       refine norm_ (a' := ?_) ?_ ?_
       rotate_left
       ·show Act.put _ (some 30) _ = _
        simp only [sp_]
        rfl
       refine pure_ (i := 7) (N := some 31) (v := ?_) (a' := ?_) M12_8 rfl rfl (any_of HT_.out (by kernel_rfl)) (fun _ _ _ h => h) (Or.inl ⟨by rfl, ?_⟩) ?_ ?_
       rotate_left
       ·intro w'
        go_simp
        with_reducible rfl
       rotate_left
       ·simp only [sp_]
        rfl
       refine done_ (done_of HT_.out (by kernel_rfl)) ?_
       try go_wp2
       go_roundg k1
       case measure => have := HK1.out; omega
       case rel => exact ⟨(wrap64 ((ji6) + 1)), (x10_1), (by first | rfl | (simp; done) | (simp only [← hji6] <;> (first | rfl | simp)) | (simp [*]; done)), rfl, H', ⟨by have := HK1.out; omega⟩, ⟨by exact BK354.out⟩, ⟨HB.out⟩⟩
      ·rw [if_neg c10] at H
       have c10b0 : decide (t356 < 0) = false := decide_eq_false c10
       clear c10
       have H' := Aside0.mk H
       clear H
       try go_wp2
       replace BK354 := Aside0.mk (blk_drew BK354.out)
       replace HB := Aside0.mk (below_drew1 HB.out)
       have p355 : 0 ≤ ((ji6) : Int) := of_decide_eq_true (by assumption)
       have q355 : (ji6) < (l0.length : Int) := of_decide_eq_true (by assumption)
       obtain ⟨ad355, e355, hx355_0, hx355_1⟩ := at_T26 HR0.out (ji6) p355 q355
       have hw355_1 := hx355_1
       have hw355_0 := hx355_0
       cases e355
       replace hx355_0 := (HB.out.cell (World.block_lt_of_cell? w _ hx355_0)).trans hx355_0
       replace hx355_1 := (HB.out.cell (World.block_lt_of_cell? w _ hx355_1)).trans hx355_1
       replace p355 := eq_true p355
       replace q355 := eq_true q355
       refine start_ (n := 8) (S := fun w' => w'.cell? ⟨gb354, 0, none⟩ = some (.int .i64 a1_0) ∧ w'.cell? ⟨gb354, 1, none⟩ = some (.int .i64 a1_1) ∧ w'.cell? (ad355.add (((ji6)).toNat * 2)) = some (.int .i64 ((rd_T26 l0 (ji6)).f0)) ∧ w'.cell? ⟨(ad355.add (((ji6)).toNat * 2)).block, (ad355.add (((ji6)).toNat * 2)).off + 1, none⟩ = some (.int .i64 ((rd_T26 l0 (ji6)).f1))) (ds := []) M12_0 (by kernel_rfl) rfl rfl ⟨(blk_cell BK354.out 0).trans rfl, (blk_cell BK354.out 1).trans rfl, ((HB.out.cell (World.block_lt_of_cell? w _ hw355_0)).trans hw355_0), ((HB.out.cell (World.block_lt_of_cell? w _ hw355_1)).trans hw355_1)⟩ (fun hHeld => ?_); refine with_tabW impl_Plate_39.tab5 impl_Plate_39.bits5 (fun HT_ HW_ => ?_)
       generalize wr.drew = w13 at BK354 HB hx355_0 hx355_1 hHeld ⊢
       refine pure_ (i := 0) (N := some 24) (v := ?_) (a' := ?_) M12_1 rfl rfl (any_of HT_.out (by kernel_rfl)) (fun _ _ _ h => h) (Or.inl ⟨by rfl, ?_⟩) ?_ ?_
       rotate_left
       ·intro w'
        go_simp
        with_reducible rfl
       rotate_left
       ·simp only [sp_]
        rfl
       refine pure_ (i := 1) (N := some 25) (v := ?_) (a' := ?_) M12_2 rfl rfl (any_of HT_.out (by kernel_rfl)) (fun _ _ _ h => h) (Or.inl ⟨by rfl, ?_⟩) ?_ ?_
       rotate_left
       ·intro w'
        go_simp
        with_reducible rfl
       rotate_left
       ·simp only [sp_]
        rfl
       refine pure_ (i := 2) (N := some 26) (v := ?_) (a' := ?_) M12_3 rfl rfl (any_of HT_.out (by kernel_rfl)) (fun _ _ _ h => h) (Or.inl ⟨by rfl, ?_⟩) ?_ ?_
       rotate_left
       ·intro w'
        go_simp
        with_reducible rfl
       rotate_left
       ·simp only [sp_]
        rfl
       refine pure_ (i := 3) (N := some 27) (v := ?_) (a' := ?_) M12_4 rfl rfl (any_of HT_.out (by kernel_rfl)) (fun _ _ _ h => h) (Or.inl ⟨by rfl, ?_⟩) ?_ ?_
       rotate_left
       ·intro w'
        go_simp
        with_reducible rfl
       rotate_left
       ·simp only [sp_]
        rfl
       refine take_ (i := 4) (N := some 28) (v := ?_) (a' := ?_) M12_5 rfl rfl (take_ofW HT_.out HW_.out (by kernel_rfl)) (fun _ _ _ h => h) (Or.inl ⟨by rfl, ?_⟩) hHeld ?_ ?_
       rotate_left
       ·rintro w' ⟨s0, s1, s2, s3⟩
        go_simp
        with_reducible rfl
       rotate_left
       ·simp only [sp_]
        rfl
       refine take_ (i := 5) (N := some 29) (v := ?_) (a' := ?_) M12_6 rfl rfl (take_ofW HT_.out HW_.out (by kernel_rfl)) (fun _ _ _ h => h) (Or.inl ⟨by rfl, ?_⟩) hHeld ?_ ?_
       rotate_left
       ·rintro w' ⟨s0, s1, s2, s3⟩
        go_simp
        with_reducible rfl
       rotate_left
       ·simp only [sp_]
        rfl
       refine one_ (i := 6) (N := some 30) M12_7 rfl rfl (one_of HT_.out (by kernel_rfl)) (by decide) (fun K hK => ?_)
       refine goesv_ Try.func40 (by kernel_rfl) rfl #[.agg #[.int .i64 ((rd_T26 l0 (ji6)).f0), .int .i64 ((rd_T26 l0 (ji6)).f1)], .agg #[.int .i64 a1_0, .int .i64 a1_1]] (by rfl) rfl rfl (by rfl) (by (try simp only [List.map_toArray, List.map_cons, List.map_nil]); first | done | (simp only [hji6]; rfl) | rfl | (simp only [List.length_drop, List.length_take]; rfl)) ?_
       with_reducible refine (impl_comparePlates.calls ((rd_T26 l0 (ji6)).f0) ((rd_T26 l0 (ji6)).f1) a1_0 a1_1 t356 _ A9.out).mono ?_
       rintro e w14 ⟨rfl, hb⟩
       refine ⟨_, rfl, ?_⟩
       replace BK354 := Aside0.mk (blk_below (g := gb354) (o := .cells #[.int .i64 a1_0, .int .i64 a1_1] 26 (0, 0)) BK354.out hb)
       replace HB := Aside0.mk (below_step HB.out hb)
       (try clear hb)
       (try clear hb2)
       (try clear hk)
       (try clear hi)
       refine hK.out _ _ ⟨(blk_cell BK354.out 0).trans rfl, (blk_cell BK354.out 1).trans rfl, ((HB.out.cell (World.block_lt_of_cell? w _ hw355_0)).trans hw355_0), ((HB.out.cell (World.block_lt_of_cell? w _ hw355_1)).trans hw355_1)⟩ (fun hHeld => ?_)
       clear hK K
       refine norm_ (a' := ?_) ?_ ?_
       rotate_left
       ·show Act.put _ (some 30) _ = _
        simp only [sp_]
        rfl
       refine pure_ (i := 7) (N := some 31) (v := ?_) (a' := ?_) M12_8 rfl rfl (any_of HT_.out (by kernel_rfl)) (fun _ _ _ h => h) (Or.inl ⟨by rfl, ?_⟩) ?_ ?_
       rotate_left
       ·intro w'
        go_simp
        with_reducible rfl
       rotate_left
       ·simp only [sp_]
        rfl
       refine done_ (done_of HT_.out (by kernel_rfl)) ?_
       try go_wp2
       go_roundg k1
       case measure => have := HK1.out; omega
       case rel => exact ⟨(x9_1), (ji6), rfl, (by first | rfl | (simp; done) | (simp only [← hji6] <;> (first | rfl | simp)) | (simp [*]; done)), H', ⟨by have := HK1.out; omega⟩, ⟨by exact BK354.out⟩, ⟨HB.out⟩⟩
     ·rw [if_neg c8] at H
      exact absurd H (by simp)
    ·rw [if_neg c7] at H
     exact absurd H (by simp)
   ·rw [if_neg c5] at H
    have c5b0 : decide (x9_1 < x10_1) = false := decide_eq_false c5
    clear c5
    by_cases c15 : x9_1 < (l0.length : Int)
    ·rw [if_pos c15] at H
     have c15b0 : decide (x9_1 < (l0.length : Int)) = true := decide_eq_true c15
     clear c15
     by_cases c16 : 0 ≤ x9_1
     ·rw [if_pos c16] at H
      have c16b0 : decide (0 ≤ x9_1) = true := decide_eq_true c16
      clear c16
      by_cases c17 : x9_1 < (l0.length : Int)
      ·rw [if_pos c17] at H
       have c17b0 : decide (x9_1 < (l0.length : Int)) = true := decide_eq_true c17
       clear c17
       replace H := Option.bind_eq_some_iff.mp H
       obtain ⟨t358, A180, H⟩ := H

       have A18 := Aside0.mk A180
       clear A180
       simp only [Option.some.injEq, Prod.mk.injEq] at H
       obtain ⟨rfl, rfl⟩ := H
       try go_wp2
       replace BK354 := Aside0.mk (blk_drew BK354.out)
       replace HB := Aside0.mk (below_drew1 HB.out)
       have p357 : 0 ≤ (x9_1 : Int) := of_decide_eq_true (by assumption)
       have q357 : x9_1 < (l0.length : Int) := of_decide_eq_true (by assumption)
       obtain ⟨ad357, e357, hx357_0, hx357_1⟩ := at_T26 HR0.out x9_1 p357 q357
       have hw357_1 := hx357_1
       have hw357_0 := hx357_0
       cases e357
       replace hx357_0 := (HB.out.cell (World.block_lt_of_cell? w _ hx357_0)).trans hx357_0
       replace hx357_1 := (HB.out.cell (World.block_lt_of_cell? w _ hx357_1)).trans hx357_1
       replace p357 := eq_true p357
       replace q357 := eq_true q357
       refine start_ (n := 16) (S := fun w' => w'.cell? ⟨gb354, 0, none⟩ = some (.int .i64 a1_0) ∧ w'.cell? ⟨gb354, 1, none⟩ = some (.int .i64 a1_1) ∧ w'.cell? (ad357.add ((x9_1).toNat * 2)) = some (.int .i64 ((rd_T26 l0 x9_1).f0)) ∧ w'.cell? ⟨(ad357.add ((x9_1).toNat * 2)).block, (ad357.add ((x9_1).toNat * 2)).off + 1, none⟩ = some (.int .i64 ((rd_T26 l0 x9_1).f1))) (ds := []) M12_9 (by kernel_rfl) rfl rfl ⟨(blk_cell BK354.out 0).trans rfl, (blk_cell BK354.out 1).trans rfl, ((HB.out.cell (World.block_lt_of_cell? w _ hw357_0)).trans hw357_0), ((HB.out.cell (World.block_lt_of_cell? w _ hw357_1)).trans hw357_1)⟩ (fun hHeld => ?_); refine with_tabW impl_Plate_39.tab8 impl_Plate_39.bits8 (fun HT_ HW_ => ?_)
       generalize wr.drew = w19 at BK354 HB hx357_0 hx357_1 hHeld ⊢
       refine pure_ (i := 0) (N := some 35) (v := ?_) (a' := ?_) M12_10 rfl rfl (any_of HT_.out (by kernel_rfl)) (fun _ _ _ h => h) (Or.inl ⟨by rfl, ?_⟩) ?_ ?_
       rotate_left
       ·intro w'
        go_simp
        with_reducible rfl
       rotate_left
       ·simp only [sp_]
        rfl
       refine pure_ (i := 1) (N := some 36) (v := ?_) (a' := ?_) M12_11 rfl rfl (any_of HT_.out (by kernel_rfl)) (fun _ _ _ h => h) (Or.inl ⟨by rfl, ?_⟩) ?_ ?_
       rotate_left
       ·intro w'
        go_simp
        with_reducible rfl
       rotate_left
       ·simp only [sp_]
        rfl
       refine pure_ (i := 2) (N := some 37) (v := ?_) (a' := ?_) M12_12 rfl rfl (any_of HT_.out (by kernel_rfl)) (fun _ _ _ h => h) (Or.inl ⟨by rfl, ?_⟩) ?_ ?_
       rotate_left
       ·intro w'
        go_simp
        with_reducible rfl
       rotate_left
       ·simp only [sp_]
        rfl
       refine pure_ (i := 3) (N := some 38) (v := ?_) (a' := ?_) M12_13 rfl rfl (any_of HT_.out (by kernel_rfl)) (fun _ _ _ h => h) (Or.inl ⟨by rfl, ?_⟩) ?_ ?_
       rotate_left
       ·intro w'
        go_simp
        with_reducible rfl
       rotate_left
       ·simp only [sp_]
        rfl
       refine pure_ (i := 4) (N := some 39) (v := ?_) (a' := ?_) M12_14 rfl rfl (any_of HT_.out (by kernel_rfl)) (fun _ _ _ h => h) (Or.inl ⟨by rfl, ?_⟩) ?_ ?_
       rotate_left
       ·intro w'
        go_simp
        with_reducible rfl
       rotate_left
       ·simp only [sp_]
        rfl
       refine pure_ (i := 5) (N := some 40) (v := ?_) (a' := ?_) M12_15 rfl rfl (any_of HT_.out (by kernel_rfl)) (fun _ _ _ h => h) (Or.inl ⟨by rfl, ?_⟩) ?_ ?_
       rotate_left
       ·intro w'
        go_simp
        with_reducible rfl
       rotate_left
       ·simp only [sp_]
        rfl
       refine pure_ (i := 6) (N := some 41) (v := ?_) (a' := ?_) M12_16 rfl rfl (any_of HT_.out (by kernel_rfl)) (fun _ _ _ h => h) (Or.inl ⟨by rfl, ?_⟩) ?_ ?_
       rotate_left
       ·intro w'
        go_simp
        with_reducible rfl
       rotate_left
       ·simp only [sp_]
        rfl
       refine pure_ (i := 7) (N := some 42) (v := ?_) (a' := ?_) M12_17 rfl rfl (any_of HT_.out (by kernel_rfl)) (fun _ _ _ h => h) (Or.inl ⟨by rfl, ?_⟩) ?_ ?_
       rotate_left
       ·intro w'
        go_simp
        with_reducible rfl
       rotate_left
       ·simp only [sp_]
        rfl
       refine pure_ (i := 8) (N := some 43) (v := ?_) (a' := ?_) M12_18 rfl rfl (any_of HT_.out (by kernel_rfl)) (fun _ _ _ h => h) (Or.inl ⟨by rfl, ?_⟩) ?_ ?_
       rotate_left
       ·intro w'
        go_simp
        with_reducible rfl
       rotate_left
       ·simp only [sp_]
        rfl
       refine take_ (i := 9) (N := some 44) (v := ?_) (a' := ?_) M12_19 rfl rfl (take_ofW HT_.out HW_.out (by kernel_rfl)) (fun _ _ _ h => h) (Or.inl ⟨by rfl, ?_⟩) hHeld ?_ ?_
       rotate_left
       ·rintro w' ⟨s0, s1, s2, s3⟩
        go_simp
        with_reducible rfl
       rotate_left
       ·simp only [sp_]
        rfl
       refine take_ (i := 10) (N := some 45) (v := ?_) (a' := ?_) M12_20 rfl rfl (take_ofW HT_.out HW_.out (by kernel_rfl)) (fun _ _ _ h => h) (Or.inl ⟨by rfl, ?_⟩) hHeld ?_ ?_
       rotate_left
       ·rintro w' ⟨s0, s1, s2, s3⟩
        go_simp
        with_reducible rfl
       rotate_left
       ·simp only [sp_]
        rfl
       refine one_ (i := 11) (N := some 46) M12_21 rfl rfl (one_of HT_.out (by kernel_rfl)) (by decide) (fun K hK => ?_)
       refine goesv_ Try.func40 (by kernel_rfl) rfl #[.agg #[.int .i64 ((rd_T26 l0 x9_1).f0), .int .i64 ((rd_T26 l0 x9_1).f1)], .agg #[.int .i64 a1_0, .int .i64 a1_1]] (by rfl) rfl rfl (by rfl) (by (try simp only [List.map_toArray, List.map_cons, List.map_nil]); try rfl) ?_
       with_reducible refine (impl_comparePlates.calls ((rd_T26 l0 x9_1).f0) ((rd_T26 l0 x9_1).f1) a1_0 a1_1 t358 _ A18.out).mono ?_
       rintro e w20 ⟨rfl, hb⟩
       refine ⟨_, rfl, ?_⟩
       replace BK354 := Aside0.mk (blk_below (g := gb354) (o := .cells #[.int .i64 a1_0, .int .i64 a1_1] 26 (0, 0)) BK354.out hb)
       replace HB := Aside0.mk (below_step HB.out hb)
       (try clear hb)
       (try clear hb2)
       (try clear hk)
       (try clear hi)
       refine hK.out _ _ ⟨(blk_cell BK354.out 0).trans rfl, (blk_cell BK354.out 1).trans rfl, ((HB.out.cell (World.block_lt_of_cell? w _ hw357_0)).trans hw357_0), ((HB.out.cell (World.block_lt_of_cell? w _ hw357_1)).trans hw357_1)⟩ (fun hHeld => ?_)
       clear hK K
       refine norm_ (a' := ?_) ?_ ?_
       rotate_left
       ·show Act.put _ (some 46) _ = _
        simp only [sp_]
        rfl
       refine pure_ (i := 12) (N := some 47) (v := ?_) (a' := ?_) M12_22 rfl rfl (any_of HT_.out (by kernel_rfl)) (fun _ _ _ h => h) (Or.inl ⟨by rfl, ?_⟩) ?_ ?_
       rotate_left
       ·intro w'
        go_simp
        with_reducible rfl
       rotate_left
       ·simp only [sp_]
        rfl
       refine pure_ (i := 13) (N := some 48) (v := ?_) (a' := ?_) M12_23 rfl rfl (any_of HT_.out (by kernel_rfl)) (fun _ _ _ h => h) (Or.inl ⟨by rfl, ?_⟩) ?_ ?_
       rotate_left
       ·intro w'
        go_simp
        with_reducible rfl
       rotate_left
       ·simp only [sp_]
        rfl
       refine pure_ (i := 14) (N := some 6) (v := ?_) (a' := ?_) M12_24 rfl rfl (any_of HT_.out (by kernel_rfl)) (fun _ _ _ h => h) (Or.inl ⟨by rfl, ?_⟩) ?_ ?_
       rotate_left
       ·intro w'
        go_simp
        with_reducible rfl
       rotate_left
       ·simp only [sp_]
        rfl
       refine pure_ (i := 15) (N := some 7) (v := ?_) (a' := ?_) M12_25 rfl rfl (any_of HT_.out (by kernel_rfl)) (fun _ _ _ h => h) (Or.inl ⟨by rfl, ?_⟩) ?_ ?_
       rotate_left
       ·intro w'
        go_simp
        with_reducible rfl
       rotate_left
       ·simp only [sp_]
        rfl
       refine done_ (done_of HT_.out (by kernel_rfl)) ?_
       try go_wp2
       go_ret2
       exact ⟨rfl, HB.out⟩
      ·rw [if_neg c17] at H
       exact absurd H (by simp)
     ·rw [if_neg c16] at H
      exact absurd H (by simp)
    ·rw [if_neg c15] at H
     have c15b0 : decide (x9_1 < (l0.length : Int)) = false := decide_eq_false c15
     clear c15
     simp only [Option.some.injEq, Prod.mk.injEq] at H
     obtain ⟨rfl, rfl⟩ := H
     try go_wp2
     replace BK354 := Aside0.mk (blk_drew BK354.out)
     replace HB := Aside0.mk (below_drew1 HB.out)
     refine start_ (n := 16) (S := fun w' => True) (ds := []) M12_9 (by kernel_rfl) rfl rfl trivial (fun hHeld => ?_); refine with_tabW impl_Plate_39.tab8 impl_Plate_39.bits8 (fun HT_ HW_ => ?_)
     generalize wr.drew = w21 at BK354 HB hHeld ⊢
     refine pure_ (i := 0) (N := some 35) (v := ?_) (a' := ?_) M12_10 rfl rfl (any_of HT_.out (by kernel_rfl)) (fun _ _ _ h => h) (Or.inl ⟨by rfl, ?_⟩) ?_ ?_
     rotate_left
     ·intro w'
      go_simp
      with_reducible rfl
     rotate_left
     ·simp only [sp_]
      rfl
     refine pure_ (i := 1) (N := some 36) (v := ?_) (a' := ?_) M12_11 rfl rfl (any_of HT_.out (by kernel_rfl)) (fun _ _ _ h => h) (Or.inl ⟨by rfl, ?_⟩) ?_ ?_
     rotate_left
     ·intro w'
      go_simp
      with_reducible rfl
     rotate_left
     ·simp only [sp_]
      rfl
     refine pure_ (i := 2) (N := some 37) (v := ?_) (a' := ?_) M12_12 rfl rfl (any_of HT_.out (by kernel_rfl)) (fun _ _ _ h => h) (Or.inl ⟨by rfl, ?_⟩) ?_ ?_
     rotate_left
     ·intro w'
      go_simp
      with_reducible rfl
     rotate_left
     ·simp only [sp_]
      rfl
     refine pure_ (i := 3) (N := some 38) (v := ?_) (a' := ?_) M12_13 rfl rfl (any_of HT_.out (by kernel_rfl)) (fun _ _ _ h => h) (Or.inl ⟨by rfl, ?_⟩) ?_ ?_
     rotate_left
     ·intro w'
      go_simp
      with_reducible rfl
     rotate_left
     ·simp only [sp_]
      rfl
     refine pure_ (i := 4) (N := some 39) (v := ?_) (a' := ?_) M12_14 rfl rfl (any_of HT_.out (by kernel_rfl)) (fun _ _ _ h => h) (Or.inl ⟨by rfl, ?_⟩) ?_ ?_
     rotate_left
     ·intro w'
      go_simp
      with_reducible rfl
     rotate_left
     ·simp only [sp_]
      rfl
     refine pure_ (i := 5) (N := some 40) (v := undef) (a' := ?_) M12_15 rfl rfl (any_of HT_.out (by kernel_rfl)) (fun _ _ _ h => h) (Or.inr ⟨by rfl, rfl⟩) ?_ ?_
     rotate_left
     ·simp only [sp_]
      rfl
     refine pure_ (i := 6) (N := some 41) (v := undef) (a' := ?_) M12_16 rfl rfl (any_of HT_.out (by kernel_rfl)) (fun _ _ _ h => h) (Or.inr ⟨by rfl, rfl⟩) ?_ ?_
     rotate_left
     ·simp only [sp_]
      rfl
     refine pure_ (i := 7) (N := some 42) (v := undef) (a' := ?_) M12_17 rfl rfl (any_of HT_.out (by kernel_rfl)) (fun _ _ _ h => h) (Or.inr ⟨by rfl, rfl⟩) ?_ ?_
     rotate_left
     ·simp only [sp_]
      rfl
     refine pure_ (i := 8) (N := some 43) (v := undef) (a' := ?_) M12_18 rfl rfl (any_of HT_.out (by kernel_rfl)) (fun _ _ _ h => h) (Or.inr ⟨by rfl, rfl⟩) ?_ ?_
     rotate_left
     ·simp only [sp_]
      rfl
     refine pure_ (i := 9) (N := some 44) (v := undef) (a' := ?_) M12_19 rfl rfl (any_of HT_.out (by kernel_rfl)) (fun _ _ _ h => h) (Or.inr ⟨by rfl, rfl⟩) ?_ ?_
     rotate_left
     ·simp only [sp_]
      rfl
     refine pure_ (i := 10) (N := some 45) (v := undef) (a' := ?_) M12_20 rfl rfl (any_of HT_.out (by kernel_rfl)) (fun _ _ _ h => h) (Or.inr ⟨by rfl, rfl⟩) ?_ ?_
     rotate_left
     ·simp only [sp_]
      rfl
     refine pure_ (i := 11) (N := some 46) (v := undef) (a' := ?_) M12_21 rfl rfl (any_of HT_.out (by kernel_rfl)) (fun _ _ _ h => h) (Or.inr ⟨by rfl, rfl⟩) ?_ ?_
     rotate_left
     ·simp only [sp_]
      rfl
     refine pure_ (i := 12) (N := some 47) (v := undef) (a' := ?_) M12_22 rfl rfl (any_of HT_.out (by kernel_rfl)) (fun _ _ _ h => h) (Or.inr ⟨by rfl, rfl⟩) ?_ ?_
     rotate_left
     ·simp only [sp_]
      rfl
     refine pure_ (i := 13) (N := some 48) (v := ?_) (a' := ?_) M12_23 rfl rfl (any_of HT_.out (by kernel_rfl)) (fun _ _ _ h => h) (Or.inl ⟨by rfl, ?_⟩) ?_ ?_
     rotate_left
     ·intro w'
      go_simp
      with_reducible rfl
     rotate_left
     ·simp only [sp_]
      rfl
     refine pure_ (i := 14) (N := some 6) (v := ?_) (a' := ?_) M12_24 rfl rfl (any_of HT_.out (by kernel_rfl)) (fun _ _ _ h => h) (Or.inl ⟨by rfl, ?_⟩) ?_ ?_
     rotate_left
     ·intro w'
      go_simp
      with_reducible rfl
     rotate_left
     ·simp only [sp_]
      rfl
     refine pure_ (i := 15) (N := some 7) (v := ?_) (a' := ?_) M12_25 rfl rfl (any_of HT_.out (by kernel_rfl)) (fun _ _ _ h => h) (Or.inl ⟨by rfl, ?_⟩) ?_ ?_
     rotate_left
     ·intro w'
      go_simp
      with_reducible rfl
     rotate_left
     ·simp only [sp_]
      rfl
     refine done_ (done_of HT_.out (by kernel_rfl)) ?_
     try go_wp2
     go_ret2
     exact ⟨rfl, HB.out⟩

end Go.Proofs.Ytbnhfipcjbnknaa.PFnPlatesInserted
