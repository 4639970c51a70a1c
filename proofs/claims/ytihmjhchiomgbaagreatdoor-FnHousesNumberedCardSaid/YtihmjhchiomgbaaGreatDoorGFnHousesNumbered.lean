/- The walk of the law FnHousesNumbered: where its calls answer as the letters tell, the law's call answers true and leaves what was there. (Written by a program: lawwalk.py.) -/
import Derived.Test.YtihmjhchiomgbaaGreatDoorK
import Derived.Test.YtihmjhchiomgbaaGreatDoorPFnHousesNumberedx11
import Derived.Test.YtihmjhchiomgbaaGreatDoorPFnHousesNumberedx12
import Derived.Test.YtihmjhchiomgbaaGreatDoorPFnHousesNumberedx13
import Derived.Test.YtihmjhchiomgbaaGreatDoorPFnHousesNumberedx14
import Derived.Test.YtihmjhchiomgbaaGreatDoorPFnHousesNumberedx16
import Derived.Test.YtihmjhchiomgbaaGreatDoorPFnHousesNumberedx17
import Derived.Test.YtihmjhchiomgbaaGreatDoorPFnHousesNumberedx18
import Derived.Test.YtihmjhchiomgbaaGreatDoorPFnHousesNumberedx19
import Derived.Test.YtihmjhchiomgbaaGreatDoorPFnHousesNumberedx2
import Derived.Test.YtihmjhchiomgbaaGreatDoorPFnHousesNumberedx3
import Derived.Test.YtihmjhchiomgbaaGreatDoorPFnHousesNumberedv
namespace Go.Proofs.YtihmjhchiomgbaaGreatDoor.GFnHousesNumbered
open Go Go.RowKit Go.Proofs.YtihmjhchiomgbaaGreatDoorW.PrintWords Go.Proofs.YtihmjhchiomgbaaGreatDoorW.PrintLast Go.Proofs.YtihmjhchiomgbaaGreatDoorW.PrintMore Go.Proofs.YtihmjhchiomgbaaGreatDoor.K Go.Proofs.YtihmjhchiomgbaaGreatDoor.PFnHousesNumbered
set_option linter.unusedVariables false
set_option linter.unusedSimpArgs false
set_option maxRecDepth 100000
theorem mix : Tryz.prog.follows .mixedOrders = true := by kernel_rfl
noncomputable def rg (k : Nat) : List Oper := (opsOf Tryz.f3 k).toList
noncomputable def R0 := rg 0
noncomputable def R1 := rg 1
noncomputable def R2 := rg 2
noncomputable def R3 := rg 3
noncomputable def R4 := rg 4
noncomputable def R5 := rg 5
noncomputable def R6 := rg 6
noncomputable def R7 := rg 7
noncomputable def R8 := rg 8
noncomputable def R9 := rg 9
noncomputable def R10 := rg 10
noncomputable def R11 := rg 11
noncomputable def R12 := rg 12
noncomputable def R13 := rg 13
noncomputable def R14 := rg 14
noncomputable def R15 := rg 15
noncomputable def R16 := rg 16
noncomputable def R17 := rg 17
noncomputable def R18 := rg 18
noncomputable def R19 := rg 19
noncomputable def R20 := rg 20
noncomputable def R21 := rg 21
noncomputable def R22 := rg 22
noncomputable def R23 := rg 23
noncomputable def R24 := rg 24
noncomputable def R25 := rg 25
noncomputable def R26 := rg 26
noncomputable def R27 := rg 27
noncomputable def R28 := rg 28
noncomputable def R29 := rg 29
noncomputable def R30 := rg 30
noncomputable def R31 := rg 31
noncomputable def R32 := rg 32
noncomputable def R33 := rg 33
noncomputable def R34 := rg 34
noncomputable def R35 := rg 35
noncomputable def R36 := rg 36
noncomputable def R37 := rg 37
noncomputable def R38 := rg 38
noncomputable def R39 := rg 39
noncomputable def R40 := rg 40
noncomputable def R41 := rg 41
noncomputable def R42 := rg 42
noncomputable def R43 := rg 43
noncomputable def R44 := rg 44
noncomputable def R45 := rg 45
noncomputable def R46 := rg 46
noncomputable def R47 := rg 47
noncomputable def R48 := rg 48
noncomputable def R49 := rg 49
noncomputable def R50 := rg 50
noncomputable def R51 := rg 51
noncomputable def R52 := rg 52
noncomputable def R53 := rg 53
noncomputable def R54 := rg 54
noncomputable def R55 := rg 55
noncomputable def R56 := rg 56
noncomputable def R57 := rg 57
noncomputable def R58 := rg 58
noncomputable def R59 := rg 59
noncomputable def R60 := rg 60
noncomputable def R61 := rg 61
noncomputable def R62 := rg 62
noncomputable def R63 := rg 63
noncomputable def R64 := rg 64
noncomputable def R65 := rg 65
noncomputable def R66 := rg 66
noncomputable def R67 := rg 67
noncomputable def R68 := rg 68
noncomputable def R69 := rg 69
theorem lex14 : (!true || Region.lexB .any R14.toArray) = true := lex_of (by kernel_rfl)
noncomputable def B0 : Code := Code.seq (Code.region 2 R2.toArray false) Code.ret
noncomputable def B1 : Code := Code.seq (Code.region 1 R1.toArray false) (Code.cond (Operand.tmp 94) B0 Code.skip)
noncomputable def B2 : Code := Code.seq (Code.region 15 R15.toArray false) Code.ret
noncomputable def B3 : Code := Code.seq (Code.region 14 R14.toArray true) (Code.cond (Operand.tmp 258) B2 Code.skip)
noncomputable def B4 : Code := Code.seq (Code.region 19 R19.toArray false) Code.ret
noncomputable def B5 : Code := Code.seq (Code.region 18 R18.toArray false) (Code.cond (Operand.tmp 293) B4 Code.skip)
noncomputable def B6 : Code := Code.seq (Code.region 26 R26.toArray false) Code.ret
noncomputable def B7 : Code := Code.seq (Code.region 25 R25.toArray false) (Code.cond (Operand.tmp 340) B6 Code.skip)
noncomputable def B8 : Code := Code.seq (Code.region 24 R24.toArray false) B7
noncomputable def B9 : Code := Code.seq (Code.region 23 R23.toArray false) B8
noncomputable def B10 : Code := Code.seq (Code.region 22 R22.toArray false) B9
noncomputable def B11 : Code := Code.seq (Code.block 1 B10) (Code.region 27 R27.toArray false)
noncomputable def B12 : Code := Code.seq (Code.cond (Operand.tmp 297) Code.skip (Code.exit 0)) B11
noncomputable def B13 : Code := Code.seq (Code.region 21 R21.toArray false) B12
noncomputable def B14 : Code := Code.seq (Code.region 20 R20.toArray false) (Code.block 0 (Code.loop B13))
noncomputable def B15 : Code := Code.seq B5 B14
noncomputable def B16 : Code := Code.seq (Code.region 17 R17.toArray false) B15
noncomputable def B17 : Code := Code.seq (Code.region 16 R16.toArray false) (Code.cond (Operand.tmp 259) B16 Code.skip)
noncomputable def B18 : Code := Code.seq (Code.region 33 R33.toArray false) Code.ret
noncomputable def B19 : Code := Code.seq (Code.region 32 R32.toArray false) (Code.cond (Operand.tmp 392) B18 Code.skip)
noncomputable def B20 : Code := Code.seq (Code.region 31 R31.toArray false) B19
noncomputable def B21 : Code := Code.seq (Code.region 30 R30.toArray false) B20
noncomputable def B22 : Code := Code.seq (Code.region 29 R29.toArray false) B21
noncomputable def B23 : Code := Code.seq (Code.region 28 R28.toArray false) (Code.cond (Operand.tmp 342) B22 Code.skip)
noncomputable def B24 : Code := Code.seq (Code.region 41 R41.toArray false) Code.ret
noncomputable def B25 : Code := Code.seq (Code.region 40 R40.toArray false) (Code.cond (Operand.tmp 473) B24 Code.skip)
noncomputable def B26 : Code := Code.seq (Code.region 39 R39.toArray false) B25
noncomputable def B27 : Code := Code.seq (Code.region 38 R38.toArray false) B26
noncomputable def B28 : Code := Code.seq (Code.region 37 R37.toArray false) B27
noncomputable def B29 : Code := Code.seq (Code.region 36 R36.toArray false) B28
noncomputable def B30 : Code := Code.seq (Code.region 35 R35.toArray false) B29
noncomputable def B31 : Code := Code.seq (Code.region 34 R34.toArray false) (Code.cond (Operand.tmp 393) B30 Code.skip)
noncomputable def B32 : Code := Code.seq (Code.region 57 R57.toArray false) Code.ret
noncomputable def B33 : Code := Code.seq (Code.region 56 R56.toArray false) (Code.cond (Operand.tmp 611) B32 Code.skip)
noncomputable def B34 : Code := Code.seq (Code.region 61 R61.toArray false) Code.ret
noncomputable def B35 : Code := Code.seq (Code.region 60 R60.toArray false) (Code.cond (Operand.tmp 631) B34 Code.skip)
noncomputable def B36 : Code := Code.seq (Code.region 59 R59.toArray false) B35
noncomputable def B37 : Code := Code.seq (Code.region 58 R58.toArray false) (Code.cond (Operand.tmp 612) B36 Code.skip)
noncomputable def B38 : Code := Code.seq (Code.region 65 R65.toArray false) Code.ret
noncomputable def B39 : Code := Code.seq (Code.region 64 R64.toArray false) (Code.cond (Operand.tmp 656) B38 Code.skip)
noncomputable def B40 : Code := Code.seq (Code.region 63 R63.toArray false) B39
noncomputable def B41 : Code := Code.seq (Code.region 62 R62.toArray false) (Code.cond (Operand.tmp 632) B40 Code.skip)
noncomputable def B42 : Code := Code.seq (Code.region 68 R68.toArray false) Code.ret
noncomputable def B43 : Code := Code.seq (Code.region 67 R67.toArray false) B42
noncomputable def B44 : Code := Code.seq (Code.region 66 R66.toArray false) (Code.cond (Operand.tmp 657) B43 Code.skip)
noncomputable def B45 : Code := Code.seq (Code.region 69 R69.toArray false) Code.ret
noncomputable def B46 : Code := Code.seq B44 B45
noncomputable def B47 : Code := Code.seq B41 B46
noncomputable def B48 : Code := Code.seq B37 B47
noncomputable def B49 : Code := Code.seq B33 B48
noncomputable def B50 : Code := Code.seq (Code.region 55 R55.toArray false) B49
noncomputable def B51 : Code := Code.seq (Code.region 54 R54.toArray false) B50
noncomputable def B52 : Code := Code.seq (Code.region 53 R53.toArray false) B51
noncomputable def B53 : Code := Code.seq (Code.region 52 R52.toArray false) B52
noncomputable def B54 : Code := Code.seq (Code.region 51 R51.toArray false) B53
noncomputable def B55 : Code := Code.seq (Code.region 50 R50.toArray false) B54
noncomputable def B56 : Code := Code.seq (Code.region 49 R49.toArray false) B55
noncomputable def B57 : Code := Code.seq (Code.region 48 R48.toArray false) B56
noncomputable def B58 : Code := Code.seq (Code.region 47 R47.toArray false) B57
noncomputable def B59 : Code := Code.seq (Code.region 46 R46.toArray false) B58
noncomputable def B60 : Code := Code.seq (Code.region 45 R45.toArray false) B59
noncomputable def B61 : Code := Code.seq (Code.region 44 R44.toArray false) B60
noncomputable def B62 : Code := Code.seq (Code.region 43 R43.toArray false) B61
noncomputable def B63 : Code := Code.seq (Code.region 42 R42.toArray false) B62
noncomputable def B64 : Code := Code.seq B31 B63
noncomputable def B65 : Code := Code.seq B23 B64
noncomputable def B66 : Code := Code.seq B17 B65
noncomputable def B67 : Code := Code.seq B3 B66
noncomputable def B68 : Code := Code.seq (Code.region 13 R13.toArray false) B67
noncomputable def B69 : Code := Code.seq (Code.region 12 R12.toArray false) B68
noncomputable def B70 : Code := Code.seq (Code.region 11 R11.toArray false) B69
noncomputable def B71 : Code := Code.seq (Code.region 10 R10.toArray false) B70
noncomputable def B72 : Code := Code.seq (Code.region 9 R9.toArray false) B71
noncomputable def B73 : Code := Code.seq (Code.region 8 R8.toArray false) B72
noncomputable def B74 : Code := Code.seq (Code.region 7 R7.toArray false) B73
noncomputable def B75 : Code := Code.seq (Code.region 6 R6.toArray false) B74
noncomputable def B76 : Code := Code.seq (Code.region 5 R5.toArray false) B75
noncomputable def B77 : Code := Code.seq (Code.region 4 R4.toArray false) B76
noncomputable def B78 : Code := Code.seq (Code.region 3 R3.toArray false) B77
noncomputable def B79 : Code := Code.seq B1 B78
noncomputable def B80 : Code := Code.seq (Code.region 0 R0.toArray false) B79
theorem body_eq : Tryz.f3.body = some B80 := by kernel_rfl
abbrev Ql (w0 : World) : Exit → Act → World → Prop := bodyPost Tryz.prog Tryz.f3 fun e w' => e = .returned (.bool true) ∧ Below w0.heap.size w0 w'
theorem post_ {n : Nat} {a : Act} {L : List (Nat × Value)} {w w0 : World} (h : Has n a L) (hl : K.look L 4 = some (.bool true)) (hb : Below w0.heap.size w0 w) : Ql w0 .ret a w := by
  refine bodyPost_ret (v := .bool true) ?_ h.dfr ⟨rfl, hb⟩
  have h1 := h.at_ 4 _ hl
  have h2 : Tryz.f3.results = #[.tmp 4] := by kernel_rfl
  unfold results
  rw [h2]
  simp [h1]
theorem wadd_ {i : Nat} (h : i + 1 ≤ 9223372036854775807) : wrap64 ((i : Int) + 1) = ((i + 1 : Nat) : Int) := by
  unfold wrap64
  omega
section
variable {F : World → Prop} {X Y : Operand} {ty t' : TypeId}
theorem ok_load3 {g off : Nat} {z : Int} (h : ∀ w, F w → w.cell? ⟨g, off, none⟩ = some (.int .i64 z)) : Ob.Ok Tryz.prog F (.op (.load 3 X) ty [(X, .pointer (some ⟨g, off, none⟩))] (.int .i64 z)) := by
  intro ρ o ho ht hρ w hw
  have h1 : ρ X = .pointer (some ⟨g, off, none⟩) := hρ (X, _) (by simp)
  have h2 := h w hw
  have hu := Tryz.underlying3
  simp [go_sem, ho, h1, h2]
theorem ok_load3p {ad : Addr} {z : Int} (h : ∀ w, F w → w.cell? ad = some (.int .i64 z)) : Ob.Ok Tryz.prog F (.op (.load 3 X) ty [(X, .pointer (some ad))] (.int .i64 z)) := by
  intro ρ o ho ht hρ w hw
  have h1 : ρ X = .pointer (some ad) := hρ (X, _) (by simp)
  have h2 := h w hw
  have hu := Tryz.underlying3
  simp [go_sem, ho, h1, h2]
theorem ok_load25 {g : Nat} {t : TypeId} {y z : Int} (h : ∀ w, F w → w.heap[g]? = some (.cells #[.int .i64 y, .int .i64 z] t (0, 0))) : Ob.Ok Tryz.prog F (.op (.load 25 X) ty [(X, .pointer (some ⟨g, 0, none⟩))] (.agg #[.int .i64 y, .int .i64 z])) := by
  intro ρ o ho ht hρ w hw
  have h1 : ρ X = .pointer (some ⟨g, 0, none⟩) := hρ (X, _) (by simp)
  have h2 : w.cell? ⟨g, 0, none⟩ = some (.int .i64 y) := blk_cell (h w hw) 0
  have h3 : w.cell? ⟨g, 1, none⟩ = some (.int .i64 z) := blk_cell (h w hw) 1
  have hu := Tryz.underlying25
  have hu3 := Tryz.underlying3
  simp [go_sem, ho, h1, h2, h3]
theorem ok_fa25_0 {g : Nat} : Ob.Ok Tryz.prog F (.op (.fieldAddr 25 X 0) ty [(X, .pointer (some ⟨g, 0, none⟩))] (.pointer (some ⟨g, 0, none⟩))) := by
  intro ρ o ho ht hρ w hw
  have h1 : ρ X = .pointer (some ⟨g, 0, none⟩) := hρ (X, _) (by simp)
  have hu := Tryz.underlying25
  have hu3 := Tryz.underlying3
  simp [go_sem, ho, h1]
theorem ok_fa25_1 {g : Nat} : Ob.Ok Tryz.prog F (.op (.fieldAddr 25 X 1) ty [(X, .pointer (some ⟨g, 0, none⟩))] (.pointer (some ⟨g, 1, none⟩))) := by
  intro ρ o ho ht hρ w hw
  have h1 : ρ X = .pointer (some ⟨g, 0, none⟩) := hρ (X, _) (by simp)
  have hu := Tryz.underlying25
  have hu3 := Tryz.underlying3
  simp [go_sem, ho, h1]
theorem ok_neq25 {x y x' y' : Int} {b : Bool} (h : (!(x == x' && y == y')) = b) : Ob.Ok Tryz.prog F (.op (.binOp .neq 25 X Y t') ty [(X, .agg #[.int .i64 x, .int .i64 y]), (Y, .agg #[.int .i64 x', .int .i64 y'])] (.bool b)) := by
  intro ρ o ho ht hρ w hw
  have h1 : ρ X = .agg #[.int .i64 x, .int .i64 y] := hρ (X, _) (by simp)
  have h2 : ρ Y = .agg #[.int .i64 x', .int .i64 y'] := hρ (Y, _) (by simp)
  have hu := Tryz.underlying25
  have hu3 := Tryz.underlying3
  subst h
  simp [go_sem, ho, h1, h2]
  by_cases c1 : x = x' <;> by_cases c2 : y = y' <;> simp [c1, c2]
theorem ok_idx32 {ad : Addr} {n c : Nat} {i : Int} (h0 : 0 ≤ i) (h1 : i < n) : Ob.Ok Tryz.prog F (.op (.indexAddr 32 X Y) ty [(X, .slice (some ad) n c), (Y, .int .i64 i)] (.pointer (some (ad.add i.toNat)))) := by
  intro ρ o ho ht hρ w hw
  have h2 : ρ X = .slice (some ad) n c := hρ (X, _) (by simp)
  have h3 : ρ Y = .int .i64 i := hρ (Y, _) (by simp)
  have hu := Tryz.underlying32
  have hu3 := Tryz.underlying3
  simp [go_sem, ho, h2, h3, h0, h1]
theorem ok_idxe32 {A : Option Addr} {ad : Addr} {n c : Nat} {i : Int} (hA : A = some ad) (h0 : 0 ≤ i) (h1 : i < n) : Ob.Ok Tryz.prog F (.op (.indexAddr 32 X Y) ty [(X, .slice A n c), (Y, .int .i64 i)] (.pointer (some (ad.add i.toNat)))) := by
  subst hA
  exact ok_idx32 h0 h1
/-- A struct variable is made and filled. -/
theorem new25 {n : Nat} {ops : List Oper} {a : Act} {L : Env} (i j : Nat) {Q : Exit → Act → World → Prop} {w : World} {d : Tmp} {y z : Int}
    (ho : newOf n 25 ops i L = some (d, .agg #[.int .i64 y, .int .i64 z])) (hj : j = i + 2) (h : Has n a L) (hS : Stays F) (hw : F w)
    (hk : ∀ g a' w', Has n a' ((d, .pointer (some ⟨g, 0, none⟩)) :: L) → (F w' ∧ w'.heap[g]? = some (.cells #[.int .i64 y, .int .i64 z] 25 (0, 0))) → wpList Tryz.prog ops.toArray Q (ops.drop j) a' w') : wpList Tryz.prog ops.toArray Q (ops.drop i) a w := by
  obtain ⟨x_, ty1, pos1, af1, ty2, pos2, af2, rest, ho, hx, hxd, hd⟩ := newOf_spec ho
  generalize Operand.tmp x_ = x at ho hx hxd
  subst hj
  have e : ops.drop (i + 2) = rest := by rw [← List.drop_drop, ho]; rfl
  rw [e] at hk
  rw [ho]
  have hu := Tryz.underlying25
  have hu3 := Tryz.underlying3
  have hx1 := h.opd hx
  have h1 := h.put (d := some d) (v := .pointer (some ⟨w.heap.size, 0, none⟩)) (L' := (d, .pointer (some ⟨w.heap.size, 0, none⟩)) :: L) (by unfold putE; simp only [hd]; rfl)
  have e1 : (a.put (some d) (.pointer (some ⟨w.heap.size, 0, none⟩))).eval (.tmp d) = .pointer (some ⟨w.heap.size, 0, none⟩) := h1.opd (x := .tmp d) (look_same L d _)
  have e2 : (a.put (some d) (.pointer (some ⟨w.heap.size, 0, none⟩))).eval x = .agg #[.int .i64 y, .int .i64 z] := by
    refine h1.opd ?_
    cases x with
    | tmp t =>
      exact (look_ne L _ (fun e => hxd (congrArg Operand.tmp e.symm))).trans hx
    | const v => exact hx
    | global g => exact hx
    | func f => exact hx
  have b0 := blk_new w (.cells #[.int .i64 0, .int .i64 0] 25 (0, 0))
  have b1 := blk_put b0 0 (.int .i64 y) (cs' := #[.int .i64 y, .int .i64 0]) rfl
  have b2 := blk_put b1 1 (.int .i64 z) (cs' := #[.int .i64 y, .int .i64 z]) rfl
  have c0 : (w.alloc (.cells #[.int .i64 0, .int .i64 0] 25 (0, 0))).cell? ⟨w.heap.size, 0, none⟩ = some (.int .i64 0) := blk_cell b0 0
  have c1 : (w.alloc (.cells #[.int .i64 0, .int .i64 0] 25 (0, 0))).cell? ⟨w.heap.size, 1, none⟩ = some (.int .i64 0) := blk_cell b0 1
  have c2 : ((w.alloc (.cells #[.int .i64 0, .int .i64 0] 25 (0, 0))).setCell ⟨w.heap.size, 0, none⟩ (.int .i64 y)).cell? ⟨w.heap.size, 1, none⟩ = some (.int .i64 0) := blk_cell b1 1
  have f0 : (w.alloc (.cells #[.int .i64 0, .int .i64 0] 25 (0, 0))).frozen? ⟨w.heap.size, 0, none⟩ = false := blk_frozen b0 0
  have f1 : (w.alloc (.cells #[.int .i64 0, .int .i64 0] 25 (0, 0))).frozen? ⟨w.heap.size, 1, none⟩ = false := blk_frozen b0 1
  have f2 : ((w.alloc (.cells #[.int .i64 0, .int .i64 0] 25 (0, 0))).setCell ⟨w.heap.size, 0, none⟩ (.int .i64 y)).frozen? ⟨w.heap.size, 1, none⟩ = false := blk_frozen b1 1
  have r1 : (execOp a.eval ⟨some d, .alloc 25, ty1, pos1, af1, none⟩).run Tryz.prog w = .ok (.value (.pointer (some ⟨w.heap.size, 0, none⟩))) (w.alloc (.cells #[.int .i64 0, .int .i64 0] 25 (0, 0))) := by
    simp [go_sem]
  have r2 : (execOp (a.put (some d) (.pointer (some ⟨w.heap.size, 0, none⟩))).eval ⟨none, .store 25 (.tmp d) x, ty2, pos2, af2, none⟩).run Tryz.prog (w.alloc (.cells #[.int .i64 0, .int .i64 0] 25 (0, 0))) = .ok .skip (((w.alloc (.cells #[.int .i64 0, .int .i64 0] 25 (0, 0))).setCell ⟨w.heap.size, 0, none⟩ (.int .i64 y)).setCell ⟨w.heap.size, 1, none⟩ (.int .i64 z)) := by
    generalize (a.put (some d) (.pointer (some ⟨w.heap.size, 0, none⟩))).eval = ρ at e1 e2 ⊢
    simp [go_sem, e1, e2, c0, c1, c2, f0, f1, f2]
  refine wpList_plain rfl fun K hK => ?_
  unfold Oper.wp
  rw [r1]
  refine hK _ _ ?_
  refine wpList_plain rfl fun K' hK' => ?_
  unfold Oper.wp
  show Oper.upon Tryz.prog _ _ K' Q ((execOp (a.put (some d) (.pointer (some ⟨w.heap.size, 0, none⟩))).eval _).run Tryz.prog _)
  rw [r2]
  refine hK' _ _ (hk w.heap.size _ _ h1 ⟨hS _ _ hw ?_, b2⟩)
  exact (((Below.refl _ _).alloc (Nat.le_refl _) _).setCell (Nat.le_refl _) _).setCell (Nat.le_refl _) _
theorem C_some {w : World} {A : Option Addr} {l : List Int} {i : Nat} (h : Kd.C (Kd.int .i64) w A l.length l) (hi : i < l.length) : ∃ ad, A = some ad := by
  obtain ⟨ad, c, e, _⟩ := Kd.C_get h 0 (i : Int) (by omega) (by omega)
  exact ⟨ad, e⟩
theorem C_cell {w : World} {ad : Addr} {l : List Int} {i : Nat} (h : Kd.C (Kd.int .i64) w (some ad) l.length l) (hi : i < l.length) : w.cell? (ad.add (i : Int).toNat) = some (.int .i64 l[i]) := by
  obtain ⟨ad', c, e, hc, hk, hj⟩ := Kd.C_get h 0 (i : Int) (by omega) (by omega)
  injection e with e
  subst e
  have h1 : c = [.int .i64 l[i]] := by
    have := hk
    simpa [Kd.int, Kd.scalar, List.getD_eq_getElem?_getD, List.getElem?_eq_getElem hi] using this
  have := hj 0 (.int .i64 l[i]) (by rw [h1]; rfl)
  simpa [Kd.int, Kd.scalar] using this
end
theorem getD_mem_ {l : List Int} {i : Nat} (h : i < l.length) : l.getD i 0 ∈ l := by
  rw [List.getD_eq_getElem?_getD, List.getElem?_eq_getElem h]
  exact List.getElem_mem h
theorem C_cellD {w : World} {A : Option Addr} {ad : Addr} {l : List Int} {i : Nat} (h : Kd.C (Kd.int .i64) w A l.length l) (hA : A = some ad) (hi : i < l.length) : w.cell? (ad.add (i : Int).toNat) = some (.int .i64 (l.getD i 0)) := by
  subst hA
  rw [C_cell h hi, List.getD_eq_getElem?_getD, List.getElem?_eq_getElem hi]
  rfl
/-- What the law's calls answer, and what the law's tests ask of that. -/
structure Facts (kk : Nat) (l0 : List Int) (l1 : List Int) (k : Int) (p : Int) (n : Int) (sd : Int) (pl : Int) (ok : Bool) (fac : Int) (one : Bool) (nxt : List Int) (hs : Int) (five : Bool) (txt : ByteArray) (lf : List Int) (rt : List Int) (sx : Int) (sy : Int) (k1 : Int) (p1 : Int) (wh : Int) (at1 : Int) (n1 : Int) (b1 : Bool) (k2 : Int) (p2 : Int) (fr : Int) (to1 : Int) (wd : Int) (wk : Int) (b2 : Bool) (k3 : Int) (p3 : Int) (sf : Int) (nu : List Int) (b3 : Bool) (su : Int) (tw : ByteArray) (k4 : Int) (p4 : Int) (b4 : Bool) : Prop where
  f3_1 : spec_DrawPlotOf.f kk l0 = some (k, p, n)
  f4_2 : impl_PlotOf.f k p n = some (sd, pl, ok)
  f5_2 : spec_PlotOf.f k p n = some (sd, pl, ok)
  f6_2 : impl_OppositeOf.f kk k p n = some (fac, one)
  f7_2 : spec_OppositeOf.f kk k p n = some (fac, one)
  f8_2 : impl_NextHouses.f kk k p n = some (nxt, ok)
  f9_2 : spec_NextHouses.f kk k p n = some (nxt, ok)
  f10_1 : impl_HousesOf.f k p = some (hs, five)
  f11_1 : spec_HousesOf.f k p = some (hs, five)
  f12_1 : impl_StreetText.f k p = some (txt, five)
  f13_1 : spec_StreetText.f kk k p = some (txt, five)
  f42_1 : spec_DrawNumberAt.f l1 = some (k1, p1, wh, at1)
  f43_3 : impl_NumberAt.f k1 p1 wh at1 = some (n1, b1)
  f44_3 : spec_NumberAt.f k1 p1 wh at1 = some (n1, b1)
  f45_1 : spec_DrawWalkBetween.f kk l1 = some (k2, p2, fr, to1, wd)
  f46_4 : impl_WalkBetween.f kk k2 p2 fr to1 wd = some (wk, b2)
  f47_4 : spec_WalkBetween.f kk k2 p2 fr to1 wd = some (wk, b2)
  f48_1 : spec_DrawSideNumbers.f l1 = some (k3, p3, sf)
  f49_2 : impl_SideNumbers.f kk k3 p3 sf = some (nu, b3)
  f50_2 : spec_SideNumbers.f kk k3 p3 sf = some (nu, b3)
  f51_2 : impl_SideSum.f kk k3 p3 sf = some (su, b3)
  f52_2 : spec_SideSum.f kk k3 p3 sf = some (su, b3)
  f53_1 : spec_DrawParseStreet.f kk l1 = some tw
  f54_1 : impl_ParseStreet.f tw = some (k4, p4, b4)
  f55_1 : spec_ParseStreet.f kk tw = some (k4, p4, b4)
  f67_1 : b4 = true → impl_StreetText.f k4 p4 = some (tw, true)
  f63_4 : b2 = true → impl_WalkBetween.f kk k2 p2 to1 fr wd = some (wk, true)
  f59_2 : b1 = true → impl_PlotOf.f k1 p1 n1 = some (wh, at1, true)
  f56_26 : laws_zSame.f kk nu nu = some true
  f35_1 : five = true → impl_SideNumbers.f kk k p 0 = some (lf, true)
  f36_1 : five = true → impl_SideNumbers.f kk k p 1 = some (rt, true)
  f37_1 : five = true → impl_SideSum.f kk k p 0 = some (sx, true)
  f38_1 : five = true → impl_SideSum.f kk k p 1 = some (sy, true)
  f39_1 : five = true → impl_ParseStreet.f txt = some (k, p, true)
  f40_16 : five = true → laws_zSum.f kk lf = some sx
  f40_22 : five = true → laws_zSum.f kk rt = some sy
  f29_2 : one = true → impl_OppositeOf.f kk k p fac = some (n, true)
  f30_2 : one = true → impl_PlotOf.f k p fac = some ((wrap64 (1 - sd)), pl, true)
  f31_3 : one = true → impl_WalkBetween.f kk k p n fac 7 = some (7, true)
  f17_3 : ok = true → impl_NumberAt.f k p sd pl = some (n, true)
  f18_9 : ok = true → laws_zRises.f kk nxt = some true
  f14_31 : laws_zSame.f kk nxt nxt = some true
  f14_62 : impl_IsStreet.f k p = some five
  f14_67 : impl_IsStreet.f k p = some five
  f14_69 : spec_IsStreet.f k p = some five
  hok : ok = (five && decide (n ≥ 1) && decide (n ≤ hs))
  hone : one = (ok && decide (k > 0))
  hlen : ok = true → (nxt.length : Int) < 1 → ¬ p > 1
  hlen2 : ok = true → ¬ (nxt.length : Int) > 2
  hstep : ok = true → ∀ m ∈ nxt, ∃ q, impl_PlotOf.f k p m = some (sd, q, true) ∧ impl_WalkBetween.f kk k p n m 7 = some (1, true) ∧ (q = wrap64 (pl - 1) ∨ q = wrap64 (pl + 1))
  hsum : five = true → wrap64 (sx + sy) = wrap64 (Int.tdiv (wrap64 (hs * (wrap64 (hs + 1)))) 2)
  hcnt : five = true → wrap64 ((lf.length : Int) + (rt.length : Int)) = hs
  hsym : b2 = true → fr = to1 → wk = 0
def FS0 (w0 : World) (A0 : Option Addr) (l0 : List Int) (c0 : Nat) (A1 : Option Addr) (l1 : List Int) (c1 : Nat) (w : World) : Prop := (Below w0.heap.size w0 w) ∧ (VarsOK w) ∧ (Kd.C (Kd.int .u8) w A0 l0.length l0) ∧ (l0.length ≤ c0) ∧ (Kd.C (Kd.int .u8) w A1 l1.length l1) ∧ (l1.length ≤ c1)
theorem FS0.stays {w0 : World} {A0 : Option Addr} {l0 : List Int} {c0 : Nat} {A1 : Option Addr} {l1 : List Int} {c1 : Nat} : Stays (FS0 w0 A0 l0 c0 A1 l1 c1) := fun w w' h hb => by
  unfold FS0 at h ⊢
  exact ⟨h.1.trans (hb.mono h.1.size), h.2.1.below hb, Kd.C_below h.2.2.1 hb, h.2.2.2.1, Kd.C_below h.2.2.2.2.1 hb, h.2.2.2.2.2⟩
def FS1 (w0 : World) (A0 : Option Addr) (l0 : List Int) (c0 : Nat) (A1 : Option Addr) (l1 : List Int) (c1 : Nat) (g5 : Nat) (k : Int) (p : Int) (w : World) : Prop := (Below w0.heap.size w0 w) ∧ (VarsOK w) ∧ (Kd.C (Kd.int .u8) w A0 l0.length l0) ∧ (l0.length ≤ c0) ∧ (Kd.C (Kd.int .u8) w A1 l1.length l1) ∧ (l1.length ≤ c1) ∧ (w.heap[g5]? = some (.cells #[(vI k), (vI p)] 25 (0, 0)))
theorem FS1.stays {w0 : World} {A0 : Option Addr} {l0 : List Int} {c0 : Nat} {A1 : Option Addr} {l1 : List Int} {c1 : Nat} {g5 : Nat} {k : Int} {p : Int} : Stays (FS1 w0 A0 l0 c0 A1 l1 c1 g5 k p) := fun w w' h hb => by
  unfold FS1 at h ⊢
  exact ⟨h.1.trans (hb.mono h.1.size), h.2.1.below hb, Kd.C_below h.2.2.1 hb, h.2.2.2.1, Kd.C_below h.2.2.2.2.1 hb, h.2.2.2.2.2.1, blk_below h.2.2.2.2.2.2 hb⟩
def FS2 (w0 : World) (A1 : Option Addr) (l1 : List Int) (c1 : Nat) (g5 : Nat) (k : Int) (p : Int) (w : World) : Prop := (Below w0.heap.size w0 w) ∧ (VarsOK w) ∧ (Kd.C (Kd.int .u8) w A1 l1.length l1) ∧ (l1.length ≤ c1) ∧ (w.heap[g5]? = some (.cells #[(vI k), (vI p)] 25 (0, 0)))
theorem FS2.stays {w0 : World} {A1 : Option Addr} {l1 : List Int} {c1 : Nat} {g5 : Nat} {k : Int} {p : Int} : Stays (FS2 w0 A1 l1 c1 g5 k p) := fun w w' h hb => by
  unfold FS2 at h ⊢
  exact ⟨h.1.trans (hb.mono h.1.size), h.2.1.below hb, Kd.C_below h.2.2.1 hb, h.2.2.2.1, blk_below h.2.2.2.2 hb⟩
def FS3 (w0 : World) (A1 : Option Addr) (l1 : List Int) (c1 : Nat) (g5 : Nat) (k : Int) (p : Int) (A129_0 : Option Addr) (nxt : List Int) (c129_0 : Nat) (w : World) : Prop := (Below w0.heap.size w0 w) ∧ (VarsOK w) ∧ (Kd.C (Kd.int .u8) w A1 l1.length l1) ∧ (l1.length ≤ c1) ∧ (w.heap[g5]? = some (.cells #[(vI k), (vI p)] 25 (0, 0))) ∧ (Kd.C (Kd.int .i64) w A129_0 nxt.length nxt) ∧ (nxt.length ≤ c129_0)
theorem FS3.stays {w0 : World} {A1 : Option Addr} {l1 : List Int} {c1 : Nat} {g5 : Nat} {k : Int} {p : Int} {A129_0 : Option Addr} {nxt : List Int} {c129_0 : Nat} : Stays (FS3 w0 A1 l1 c1 g5 k p A129_0 nxt c129_0) := fun w w' h hb => by
  unfold FS3 at h ⊢
  exact ⟨h.1.trans (hb.mono h.1.size), h.2.1.below hb, Kd.C_below h.2.2.1 hb, h.2.2.2.1, blk_below h.2.2.2.2.1 hb, Kd.C_below h.2.2.2.2.2.1 hb, h.2.2.2.2.2.2⟩
def FS4 (w0 : World) (A1 : Option Addr) (l1 : List Int) (c1 : Nat) (g5 : Nat) (k : Int) (p : Int) (A129_0 : Option Addr) (nxt : List Int) (c129_0 : Nat) (A135_0 : Option Addr) (c135_0 : Nat) (w : World) : Prop := (Below w0.heap.size w0 w) ∧ (VarsOK w) ∧ (Kd.C (Kd.int .u8) w A1 l1.length l1) ∧ (l1.length ≤ c1) ∧ (w.heap[g5]? = some (.cells #[(vI k), (vI p)] 25 (0, 0))) ∧ (Kd.C (Kd.int .i64) w A129_0 nxt.length nxt) ∧ (nxt.length ≤ c129_0) ∧ (Kd.C (Kd.int .i64) w A135_0 nxt.length nxt) ∧ (nxt.length ≤ c135_0)
theorem FS4.stays {w0 : World} {A1 : Option Addr} {l1 : List Int} {c1 : Nat} {g5 : Nat} {k : Int} {p : Int} {A129_0 : Option Addr} {nxt : List Int} {c129_0 : Nat} {A135_0 : Option Addr} {c135_0 : Nat} : Stays (FS4 w0 A1 l1 c1 g5 k p A129_0 nxt c129_0 A135_0 c135_0) := fun w w' h hb => by
  unfold FS4 at h ⊢
  exact ⟨h.1.trans (hb.mono h.1.size), h.2.1.below hb, Kd.C_below h.2.2.1 hb, h.2.2.2.1, blk_below h.2.2.2.2.1 hb, Kd.C_below h.2.2.2.2.2.1 hb, h.2.2.2.2.2.2.1, Kd.C_below h.2.2.2.2.2.2.2.1 hb, h.2.2.2.2.2.2.2.2⟩
def FS5 (w0 : World) (A1 : Option Addr) (l1 : List Int) (c1 : Nat) (w : World) : Prop := (Below w0.heap.size w0 w) ∧ (VarsOK w) ∧ (Kd.C (Kd.int .u8) w A1 l1.length l1) ∧ (l1.length ≤ c1)
theorem FS5.stays {w0 : World} {A1 : Option Addr} {l1 : List Int} {c1 : Nat} : Stays (FS5 w0 A1 l1 c1) := fun w w' h hb => by
  unfold FS5 at h ⊢
  exact ⟨h.1.trans (hb.mono h.1.size), h.2.1.below hb, Kd.C_below h.2.2.1 hb, h.2.2.2⟩
def FS6 (w0 : World) (A1 : Option Addr) (l1 : List Int) (c1 : Nat) (g55 : Nat) (k1 : Int) (p1 : Int) (w : World) : Prop := (Below w0.heap.size w0 w) ∧ (VarsOK w) ∧ (Kd.C (Kd.int .u8) w A1 l1.length l1) ∧ (l1.length ≤ c1) ∧ (w.heap[g55]? = some (.cells #[(vI k1), (vI p1)] 25 (0, 0)))
theorem FS6.stays {w0 : World} {A1 : Option Addr} {l1 : List Int} {c1 : Nat} {g55 : Nat} {k1 : Int} {p1 : Int} : Stays (FS6 w0 A1 l1 c1 g55 k1 p1) := fun w w' h hb => by
  unfold FS6 at h ⊢
  exact ⟨h.1.trans (hb.mono h.1.size), h.2.1.below hb, Kd.C_below h.2.2.1 hb, h.2.2.2.1, blk_below h.2.2.2.2 hb⟩
def FS7 (w0 : World) (A1 : Option Addr) (l1 : List Int) (c1 : Nat) (g55 : Nat) (k1 : Int) (p1 : Int) (g62 : Nat) (k2 : Int) (p2 : Int) (w : World) : Prop := (Below w0.heap.size w0 w) ∧ (VarsOK w) ∧ (Kd.C (Kd.int .u8) w A1 l1.length l1) ∧ (l1.length ≤ c1) ∧ (w.heap[g55]? = some (.cells #[(vI k1), (vI p1)] 25 (0, 0))) ∧ (w.heap[g62]? = some (.cells #[(vI k2), (vI p2)] 25 (0, 0)))
theorem FS7.stays {w0 : World} {A1 : Option Addr} {l1 : List Int} {c1 : Nat} {g55 : Nat} {k1 : Int} {p1 : Int} {g62 : Nat} {k2 : Int} {p2 : Int} : Stays (FS7 w0 A1 l1 c1 g55 k1 p1 g62 k2 p2) := fun w w' h hb => by
  unfold FS7 at h ⊢
  exact ⟨h.1.trans (hb.mono h.1.size), h.2.1.below hb, Kd.C_below h.2.2.1 hb, h.2.2.2.1, blk_below h.2.2.2.2.1 hb, blk_below h.2.2.2.2.2 hb⟩
def FS8 (w0 : World) (A1 : Option Addr) (l1 : List Int) (c1 : Nat) (g55 : Nat) (k1 : Int) (p1 : Int) (g62 : Nat) (k2 : Int) (p2 : Int) (g70 : Nat) (k3 : Int) (p3 : Int) (w : World) : Prop := (Below w0.heap.size w0 w) ∧ (VarsOK w) ∧ (Kd.C (Kd.int .u8) w A1 l1.length l1) ∧ (l1.length ≤ c1) ∧ (w.heap[g55]? = some (.cells #[(vI k1), (vI p1)] 25 (0, 0))) ∧ (w.heap[g62]? = some (.cells #[(vI k2), (vI p2)] 25 (0, 0))) ∧ (w.heap[g70]? = some (.cells #[(vI k3), (vI p3)] 25 (0, 0)))
theorem FS8.stays {w0 : World} {A1 : Option Addr} {l1 : List Int} {c1 : Nat} {g55 : Nat} {k1 : Int} {p1 : Int} {g62 : Nat} {k2 : Int} {p2 : Int} {g70 : Nat} {k3 : Int} {p3 : Int} : Stays (FS8 w0 A1 l1 c1 g55 k1 p1 g62 k2 p2 g70 k3 p3) := fun w w' h hb => by
  unfold FS8 at h ⊢
  exact ⟨h.1.trans (hb.mono h.1.size), h.2.1.below hb, Kd.C_below h.2.2.1 hb, h.2.2.2.1, blk_below h.2.2.2.2.1 hb, blk_below h.2.2.2.2.2.1 hb, blk_below h.2.2.2.2.2.2 hb⟩
def FS9 (w0 : World) (A1 : Option Addr) (l1 : List Int) (c1 : Nat) (g55 : Nat) (k1 : Int) (p1 : Int) (g62 : Nat) (k2 : Int) (p2 : Int) (g70 : Nat) (k3 : Int) (p3 : Int) (A525_0 : Option Addr) (nu : List Int) (c525_0 : Nat) (w : World) : Prop := (Below w0.heap.size w0 w) ∧ (VarsOK w) ∧ (Kd.C (Kd.int .u8) w A1 l1.length l1) ∧ (l1.length ≤ c1) ∧ (w.heap[g55]? = some (.cells #[(vI k1), (vI p1)] 25 (0, 0))) ∧ (w.heap[g62]? = some (.cells #[(vI k2), (vI p2)] 25 (0, 0))) ∧ (w.heap[g70]? = some (.cells #[(vI k3), (vI p3)] 25 (0, 0))) ∧ (Kd.C (Kd.int .i64) w A525_0 nu.length nu) ∧ (nu.length ≤ c525_0)
theorem FS9.stays {w0 : World} {A1 : Option Addr} {l1 : List Int} {c1 : Nat} {g55 : Nat} {k1 : Int} {p1 : Int} {g62 : Nat} {k2 : Int} {p2 : Int} {g70 : Nat} {k3 : Int} {p3 : Int} {A525_0 : Option Addr} {nu : List Int} {c525_0 : Nat} : Stays (FS9 w0 A1 l1 c1 g55 k1 p1 g62 k2 p2 g70 k3 p3 A525_0 nu c525_0) := fun w w' h hb => by
  unfold FS9 at h ⊢
  exact ⟨h.1.trans (hb.mono h.1.size), h.2.1.below hb, Kd.C_below h.2.2.1 hb, h.2.2.2.1, blk_below h.2.2.2.2.1 hb, blk_below h.2.2.2.2.2.1 hb, blk_below h.2.2.2.2.2.2.1 hb, Kd.C_below h.2.2.2.2.2.2.2.1 hb, h.2.2.2.2.2.2.2.2⟩
def FS10 (w0 : World) (A1 : Option Addr) (l1 : List Int) (c1 : Nat) (g55 : Nat) (k1 : Int) (p1 : Int) (g62 : Nat) (k2 : Int) (p2 : Int) (g70 : Nat) (k3 : Int) (p3 : Int) (A525_0 : Option Addr) (nu : List Int) (c525_0 : Nat) (A531_0 : Option Addr) (c531_0 : Nat) (w : World) : Prop := (Below w0.heap.size w0 w) ∧ (VarsOK w) ∧ (Kd.C (Kd.int .u8) w A1 l1.length l1) ∧ (l1.length ≤ c1) ∧ (w.heap[g55]? = some (.cells #[(vI k1), (vI p1)] 25 (0, 0))) ∧ (w.heap[g62]? = some (.cells #[(vI k2), (vI p2)] 25 (0, 0))) ∧ (w.heap[g70]? = some (.cells #[(vI k3), (vI p3)] 25 (0, 0))) ∧ (Kd.C (Kd.int .i64) w A525_0 nu.length nu) ∧ (nu.length ≤ c525_0) ∧ (Kd.C (Kd.int .i64) w A531_0 nu.length nu) ∧ (nu.length ≤ c531_0)
theorem FS10.stays {w0 : World} {A1 : Option Addr} {l1 : List Int} {c1 : Nat} {g55 : Nat} {k1 : Int} {p1 : Int} {g62 : Nat} {k2 : Int} {p2 : Int} {g70 : Nat} {k3 : Int} {p3 : Int} {A525_0 : Option Addr} {nu : List Int} {c525_0 : Nat} {A531_0 : Option Addr} {c531_0 : Nat} : Stays (FS10 w0 A1 l1 c1 g55 k1 p1 g62 k2 p2 g70 k3 p3 A525_0 nu c525_0 A531_0 c531_0) := fun w w' h hb => by
  unfold FS10 at h ⊢
  exact ⟨h.1.trans (hb.mono h.1.size), h.2.1.below hb, Kd.C_below h.2.2.1 hb, h.2.2.2.1, blk_below h.2.2.2.2.1 hb, blk_below h.2.2.2.2.2.1 hb, blk_below h.2.2.2.2.2.2.1 hb, Kd.C_below h.2.2.2.2.2.2.2.1 hb, h.2.2.2.2.2.2.2.2.1, Kd.C_below h.2.2.2.2.2.2.2.2.2.1 hb, h.2.2.2.2.2.2.2.2.2.2⟩
def FS11 (w0 : World) (A1 : Option Addr) (l1 : List Int) (c1 : Nat) (g55 : Nat) (k1 : Int) (p1 : Int) (g62 : Nat) (k2 : Int) (p2 : Int) (A525_0 : Option Addr) (nu : List Int) (c525_0 : Nat) (A531_0 : Option Addr) (c531_0 : Nat) (w : World) : Prop := (Below w0.heap.size w0 w) ∧ (VarsOK w) ∧ (Kd.C (Kd.int .u8) w A1 l1.length l1) ∧ (l1.length ≤ c1) ∧ (w.heap[g55]? = some (.cells #[(vI k1), (vI p1)] 25 (0, 0))) ∧ (w.heap[g62]? = some (.cells #[(vI k2), (vI p2)] 25 (0, 0))) ∧ (Kd.C (Kd.int .i64) w A525_0 nu.length nu) ∧ (nu.length ≤ c525_0) ∧ (Kd.C (Kd.int .i64) w A531_0 nu.length nu) ∧ (nu.length ≤ c531_0)
theorem FS11.stays {w0 : World} {A1 : Option Addr} {l1 : List Int} {c1 : Nat} {g55 : Nat} {k1 : Int} {p1 : Int} {g62 : Nat} {k2 : Int} {p2 : Int} {A525_0 : Option Addr} {nu : List Int} {c525_0 : Nat} {A531_0 : Option Addr} {c531_0 : Nat} : Stays (FS11 w0 A1 l1 c1 g55 k1 p1 g62 k2 p2 A525_0 nu c525_0 A531_0 c531_0) := fun w w' h hb => by
  unfold FS11 at h ⊢
  exact ⟨h.1.trans (hb.mono h.1.size), h.2.1.below hb, Kd.C_below h.2.2.1 hb, h.2.2.2.1, blk_below h.2.2.2.2.1 hb, blk_below h.2.2.2.2.2.1 hb, Kd.C_below h.2.2.2.2.2.2.1 hb, h.2.2.2.2.2.2.2.1, Kd.C_below h.2.2.2.2.2.2.2.2.1 hb, h.2.2.2.2.2.2.2.2.2⟩
def FS12 (w0 : World) (g55 : Nat) (k1 : Int) (p1 : Int) (g62 : Nat) (k2 : Int) (p2 : Int) (A525_0 : Option Addr) (nu : List Int) (c525_0 : Nat) (A531_0 : Option Addr) (c531_0 : Nat) (w : World) : Prop := (Below w0.heap.size w0 w) ∧ (VarsOK w) ∧ (w.heap[g55]? = some (.cells #[(vI k1), (vI p1)] 25 (0, 0))) ∧ (w.heap[g62]? = some (.cells #[(vI k2), (vI p2)] 25 (0, 0))) ∧ (Kd.C (Kd.int .i64) w A525_0 nu.length nu) ∧ (nu.length ≤ c525_0) ∧ (Kd.C (Kd.int .i64) w A531_0 nu.length nu) ∧ (nu.length ≤ c531_0)
theorem FS12.stays {w0 : World} {g55 : Nat} {k1 : Int} {p1 : Int} {g62 : Nat} {k2 : Int} {p2 : Int} {A525_0 : Option Addr} {nu : List Int} {c525_0 : Nat} {A531_0 : Option Addr} {c531_0 : Nat} : Stays (FS12 w0 g55 k1 p1 g62 k2 p2 A525_0 nu c525_0 A531_0 c531_0) := fun w w' h hb => by
  unfold FS12 at h ⊢
  exact ⟨h.1.trans (hb.mono h.1.size), h.2.1.below hb, blk_below h.2.2.1 hb, blk_below h.2.2.2.1 hb, Kd.C_below h.2.2.2.2.1 hb, h.2.2.2.2.2.1, Kd.C_below h.2.2.2.2.2.2.1 hb, h.2.2.2.2.2.2.2⟩
def FS13 (w0 : World) (g55 : Nat) (k1 : Int) (p1 : Int) (g62 : Nat) (k2 : Int) (p2 : Int) (A525_0 : Option Addr) (nu : List Int) (c525_0 : Nat) (A531_0 : Option Addr) (c531_0 : Nat) (g81 : Nat) (k4 : Int) (p4 : Int) (w : World) : Prop := (Below w0.heap.size w0 w) ∧ (VarsOK w) ∧ (w.heap[g55]? = some (.cells #[(vI k1), (vI p1)] 25 (0, 0))) ∧ (w.heap[g62]? = some (.cells #[(vI k2), (vI p2)] 25 (0, 0))) ∧ (Kd.C (Kd.int .i64) w A525_0 nu.length nu) ∧ (nu.length ≤ c525_0) ∧ (Kd.C (Kd.int .i64) w A531_0 nu.length nu) ∧ (nu.length ≤ c531_0) ∧ (w.heap[g81]? = some (.cells #[(vI k4), (vI p4)] 25 (0, 0)))
theorem FS13.stays {w0 : World} {g55 : Nat} {k1 : Int} {p1 : Int} {g62 : Nat} {k2 : Int} {p2 : Int} {A525_0 : Option Addr} {nu : List Int} {c525_0 : Nat} {A531_0 : Option Addr} {c531_0 : Nat} {g81 : Nat} {k4 : Int} {p4 : Int} : Stays (FS13 w0 g55 k1 p1 g62 k2 p2 A525_0 nu c525_0 A531_0 c531_0 g81 k4 p4) := fun w w' h hb => by
  unfold FS13 at h ⊢
  exact ⟨h.1.trans (hb.mono h.1.size), h.2.1.below hb, blk_below h.2.2.1 hb, blk_below h.2.2.2.1 hb, Kd.C_below h.2.2.2.2.1 hb, h.2.2.2.2.2.1, Kd.C_below h.2.2.2.2.2.2.1 hb, h.2.2.2.2.2.2.2.1, blk_below h.2.2.2.2.2.2.2.2 hb⟩
def FS14 (w0 : World) (g55 : Nat) (k1 : Int) (p1 : Int) (g62 : Nat) (k2 : Int) (p2 : Int) (A525_0 : Option Addr) (nu : List Int) (c525_0 : Nat) (A531_0 : Option Addr) (c531_0 : Nat) (g81 : Nat) (k4 : Int) (p4 : Int) (g83 : Nat) (w : World) : Prop := (Below w0.heap.size w0 w) ∧ (VarsOK w) ∧ (w.heap[g55]? = some (.cells #[(vI k1), (vI p1)] 25 (0, 0))) ∧ (w.heap[g62]? = some (.cells #[(vI k2), (vI p2)] 25 (0, 0))) ∧ (Kd.C (Kd.int .i64) w A525_0 nu.length nu) ∧ (nu.length ≤ c525_0) ∧ (Kd.C (Kd.int .i64) w A531_0 nu.length nu) ∧ (nu.length ≤ c531_0) ∧ (w.heap[g81]? = some (.cells #[(vI k4), (vI p4)] 25 (0, 0))) ∧ (w.heap[g83]? = some (.cells #[(vI k4), (vI p4)] 25 (0, 0)))
theorem FS14.stays {w0 : World} {g55 : Nat} {k1 : Int} {p1 : Int} {g62 : Nat} {k2 : Int} {p2 : Int} {A525_0 : Option Addr} {nu : List Int} {c525_0 : Nat} {A531_0 : Option Addr} {c531_0 : Nat} {g81 : Nat} {k4 : Int} {p4 : Int} {g83 : Nat} : Stays (FS14 w0 g55 k1 p1 g62 k2 p2 A525_0 nu c525_0 A531_0 c531_0 g81 k4 p4 g83) := fun w w' h hb => by
  unfold FS14 at h ⊢
  exact ⟨h.1.trans (hb.mono h.1.size), h.2.1.below hb, blk_below h.2.2.1 hb, blk_below h.2.2.2.1 hb, Kd.C_below h.2.2.2.2.1 hb, h.2.2.2.2.2.1, Kd.C_below h.2.2.2.2.2.2.1 hb, h.2.2.2.2.2.2.2.1, blk_below h.2.2.2.2.2.2.2.2.1 hb, blk_below h.2.2.2.2.2.2.2.2.2 hb⟩
def FS15 (w0 : World) (w : World) : Prop := (Below w0.heap.size w0 w) ∧ (VarsOK w)
theorem FS15.stays {w0 : World} : Stays (FS15 w0) := fun w w' h hb => by
  unfold FS15 at h ⊢
  exact ⟨h.1.trans (hb.mono h.1.size), h.2.below hb⟩
def FS16 (w0 : World) (g81 : Nat) (k4 : Int) (p4 : Int) (w : World) : Prop := (Below w0.heap.size w0 w) ∧ (VarsOK w) ∧ (w.heap[g81]? = some (.cells #[(vI k4), (vI p4)] 25 (0, 0)))
theorem FS16.stays {w0 : World} {g81 : Nat} {k4 : Int} {p4 : Int} : Stays (FS16 w0 g81 k4 p4) := fun w w' h hb => by
  unfold FS16 at h ⊢
  exact ⟨h.1.trans (hb.mono h.1.size), h.2.1.below hb, blk_below h.2.2 hb⟩
def FS17 (w0 : World) (g62 : Nat) (k2 : Int) (p2 : Int) (g81 : Nat) (k4 : Int) (p4 : Int) (w : World) : Prop := (Below w0.heap.size w0 w) ∧ (VarsOK w) ∧ (w.heap[g62]? = some (.cells #[(vI k2), (vI p2)] 25 (0, 0))) ∧ (w.heap[g81]? = some (.cells #[(vI k4), (vI p4)] 25 (0, 0)))
theorem FS17.stays {w0 : World} {g62 : Nat} {k2 : Int} {p2 : Int} {g81 : Nat} {k4 : Int} {p4 : Int} : Stays (FS17 w0 g62 k2 p2 g81 k4 p4) := fun w w' h hb => by
  unfold FS17 at h ⊢
  exact ⟨h.1.trans (hb.mono h.1.size), h.2.1.below hb, blk_below h.2.2.1 hb, blk_below h.2.2.2 hb⟩
def FS18 (w0 : World) (g55 : Nat) (k1 : Int) (p1 : Int) (g62 : Nat) (k2 : Int) (p2 : Int) (g81 : Nat) (k4 : Int) (p4 : Int) (w : World) : Prop := (Below w0.heap.size w0 w) ∧ (VarsOK w) ∧ (w.heap[g55]? = some (.cells #[(vI k1), (vI p1)] 25 (0, 0))) ∧ (w.heap[g62]? = some (.cells #[(vI k2), (vI p2)] 25 (0, 0))) ∧ (w.heap[g81]? = some (.cells #[(vI k4), (vI p4)] 25 (0, 0)))
theorem FS18.stays {w0 : World} {g55 : Nat} {k1 : Int} {p1 : Int} {g62 : Nat} {k2 : Int} {p2 : Int} {g81 : Nat} {k4 : Int} {p4 : Int} : Stays (FS18 w0 g55 k1 p1 g62 k2 p2 g81 k4 p4) := fun w w' h hb => by
  unfold FS18 at h ⊢
  exact ⟨h.1.trans (hb.mono h.1.size), h.2.1.below hb, blk_below h.2.2.1 hb, blk_below h.2.2.2.1 hb, blk_below h.2.2.2.2 hb⟩
def FS19 (w0 : World) (A1 : Option Addr) (l1 : List Int) (c1 : Nat) (g5 : Nat) (k : Int) (p : Int) (A396_0 : Option Addr) (lf : List Int) (c396_0 : Nat) (w : World) : Prop := (Below w0.heap.size w0 w) ∧ (VarsOK w) ∧ (Kd.C (Kd.int .u8) w A1 l1.length l1) ∧ (l1.length ≤ c1) ∧ (w.heap[g5]? = some (.cells #[(vI k), (vI p)] 25 (0, 0))) ∧ (Kd.C (Kd.int .i64) w A396_0 lf.length lf) ∧ (lf.length ≤ c396_0)
theorem FS19.stays {w0 : World} {A1 : Option Addr} {l1 : List Int} {c1 : Nat} {g5 : Nat} {k : Int} {p : Int} {A396_0 : Option Addr} {lf : List Int} {c396_0 : Nat} : Stays (FS19 w0 A1 l1 c1 g5 k p A396_0 lf c396_0) := fun w w' h hb => by
  unfold FS19 at h ⊢
  exact ⟨h.1.trans (hb.mono h.1.size), h.2.1.below hb, Kd.C_below h.2.2.1 hb, h.2.2.2.1, blk_below h.2.2.2.2.1 hb, Kd.C_below h.2.2.2.2.2.1 hb, h.2.2.2.2.2.2⟩
def FS20 (w0 : World) (A1 : Option Addr) (l1 : List Int) (c1 : Nat) (g5 : Nat) (k : Int) (p : Int) (A396_0 : Option Addr) (lf : List Int) (c396_0 : Nat) (A401_0 : Option Addr) (rt : List Int) (c401_0 : Nat) (w : World) : Prop := (Below w0.heap.size w0 w) ∧ (VarsOK w) ∧ (Kd.C (Kd.int .u8) w A1 l1.length l1) ∧ (l1.length ≤ c1) ∧ (w.heap[g5]? = some (.cells #[(vI k), (vI p)] 25 (0, 0))) ∧ (Kd.C (Kd.int .i64) w A396_0 lf.length lf) ∧ (lf.length ≤ c396_0) ∧ (Kd.C (Kd.int .i64) w A401_0 rt.length rt) ∧ (rt.length ≤ c401_0)
theorem FS20.stays {w0 : World} {A1 : Option Addr} {l1 : List Int} {c1 : Nat} {g5 : Nat} {k : Int} {p : Int} {A396_0 : Option Addr} {lf : List Int} {c396_0 : Nat} {A401_0 : Option Addr} {rt : List Int} {c401_0 : Nat} : Stays (FS20 w0 A1 l1 c1 g5 k p A396_0 lf c396_0 A401_0 rt c401_0) := fun w w' h hb => by
  unfold FS20 at h ⊢
  exact ⟨h.1.trans (hb.mono h.1.size), h.2.1.below hb, Kd.C_below h.2.2.1 hb, h.2.2.2.1, blk_below h.2.2.2.2.1 hb, Kd.C_below h.2.2.2.2.2.1 hb, h.2.2.2.2.2.2.1, Kd.C_below h.2.2.2.2.2.2.2.1 hb, h.2.2.2.2.2.2.2.2⟩
def FS21 (w0 : World) (A1 : Option Addr) (l1 : List Int) (c1 : Nat) (g5 : Nat) (k : Int) (p : Int) (A396_0 : Option Addr) (lf : List Int) (c396_0 : Nat) (A401_0 : Option Addr) (rt : List Int) (c401_0 : Nat) (g53 : Nat) (w : World) : Prop := (Below w0.heap.size w0 w) ∧ (VarsOK w) ∧ (Kd.C (Kd.int .u8) w A1 l1.length l1) ∧ (l1.length ≤ c1) ∧ (w.heap[g5]? = some (.cells #[(vI k), (vI p)] 25 (0, 0))) ∧ (Kd.C (Kd.int .i64) w A396_0 lf.length lf) ∧ (lf.length ≤ c396_0) ∧ (Kd.C (Kd.int .i64) w A401_0 rt.length rt) ∧ (rt.length ≤ c401_0) ∧ (w.heap[g53]? = some (.cells #[(vI k), (vI p)] 25 (0, 0)))
theorem FS21.stays {w0 : World} {A1 : Option Addr} {l1 : List Int} {c1 : Nat} {g5 : Nat} {k : Int} {p : Int} {A396_0 : Option Addr} {lf : List Int} {c396_0 : Nat} {A401_0 : Option Addr} {rt : List Int} {c401_0 : Nat} {g53 : Nat} : Stays (FS21 w0 A1 l1 c1 g5 k p A396_0 lf c396_0 A401_0 rt c401_0 g53) := fun w w' h hb => by
  unfold FS21 at h ⊢
  exact ⟨h.1.trans (hb.mono h.1.size), h.2.1.below hb, Kd.C_below h.2.2.1 hb, h.2.2.2.1, blk_below h.2.2.2.2.1 hb, Kd.C_below h.2.2.2.2.2.1 hb, h.2.2.2.2.2.2.1, Kd.C_below h.2.2.2.2.2.2.2.1 hb, h.2.2.2.2.2.2.2.2.1, blk_below h.2.2.2.2.2.2.2.2.2 hb⟩
variable {w0 : World} {A0 : Option Addr} {c0 : Nat} {l0 : List Int} {A1 : Option Addr} {c1 : Nat} {l1 : List Int} {kk : Nat} {k : Int} {p : Int} {n : Int} {sd : Int} {pl : Int} {ok : Bool} {fac : Int} {one : Bool} {nxt : List Int} {hs : Int} {five : Bool} {txt : ByteArray} {lf : List Int} {rt : List Int} {sx : Int} {sy : Int} {k1 : Int} {p1 : Int} {wh : Int} {at1 : Int} {n1 : Int} {b1 : Bool} {k2 : Int} {p2 : Int} {fr : Int} {to1 : Int} {wd : Int} {wk : Int} {b2 : Bool} {k3 : Int} {p3 : Int} {sf : Int} {nu : List Int} {b3 : Bool} {su : Int} {tw : ByteArray} {k4 : Int} {p4 : Int} {b4 : Bool} {g5 : Nat} {A129_0 : Option Addr} {c129_0 : Nat} {A135_0 : Option Addr} {c135_0 : Nat} {g55 : Nat} {g62 : Nat} {g70 : Nat} {A525_0 : Option Addr} {c525_0 : Nat} {A531_0 : Option Addr} {c531_0 : Nat} {g81 : Nat} {g83 : Nat} {A396_0 : Option Addr} {c396_0 : Nat} {A401_0 : Option Addr} {c401_0 : Nat} {g53 : Nat} {i : Nat} {ad : Addr} {q : Int}
theorem t45 {a : Act} {w : World} (h : Has 669 a []) (hw : FS15 w0 w) : B45.wp Tryz.prog (Ql w0) a w := by
  show Code.wp _ (Code.seq (Code.region 69 R69.toArray false) Code.ret) _ _ _
  refine wp_seq ?_
  refine region_ (F := FS15 w0) (K := [(4, (vB true))]) (obs := []) (by kernel_rfl) mix rfl FS15.stays trivial h hw ?_
  clear h hw
  intro a w h hw
  show Code.wp _ Code.ret _ _ _
  refine wp_ret ?_
  exact post_ h rfl (hw.1)
theorem t42 {a : Act} {w : World} (h : Has 669 a [(80, (.string tw)), (90, (.string tw)), (91, (vB true))]) (hw : FS15 w0 w) : B42.wp Tryz.prog (Exit.then (fun a w => Code.wp Tryz.prog B45 (Ql w0) a w) (Ql w0)) a w := by
  show Code.wp _ (Code.seq (Code.region 68 R68.toArray false) Code.ret) _ _ _
  refine wp_seq ?_
  refine region_ (F := FS15 w0) (K := [(4, (vB true))]) (obs := [.op (Op.binOp BinOp.eql 9 (Operand.tmp 665) (Operand.tmp 666) 9) 4 [((Operand.tmp 665), (.string tw)), ((Operand.tmp 666), (.string tw))] (vB true)]) (by kernel_rfl) mix rfl FS15.stays ⟨(ok_eql_str (by simp)), trivial⟩ h hw ?_
  clear h hw
  intro a w h hw
  show Code.wp _ Code.ret _ _ _
  refine wp_ret ?_
  exact post_ h rfl (hw.1)
theorem t43 (H : Facts kk l0 l1 k p n sd pl ok fac one nxt hs five txt lf rt sx sy k1 p1 wh at1 n1 b1 k2 p2 fr to1 wd wk b2 k3 p3 sf nu b3 su tw k4 p4 true) {a : Act} {w : World} (h : Has 669 a [(80, (.string tw)), (81, (vP g81))]) (hw : FS16 w0 g81 k4 p4 w) : B43.wp Tryz.prog (Exit.then (fun a w => Code.wp Tryz.prog B45 (Ql w0) a w) (Ql w0)) a w := by
  show Code.wp _ (Code.seq (Code.region 67 R67.toArray false) B42) _ _ _
  refine wp_seq ?_
  refine region_ (F := FS16 w0 g81 k4 p4) (K := [(80, (.string tw)), (90, (.string tw)), (91, (vB true))]) (obs := [lS 25 81 g81 k4 p4, .call 14 [(vA k4 p4)] (.tuple #[(.string tw), (vB true)])]) (by kernel_rfl) mix rfl FS16.stays ⟨(ok_load25 (fun w hw => (hw.2.2))), ⟨⟨_, Tryz.func14, by kernel_rfl, by kernel_rfl⟩, fun w hw => FS16.stays.calls hw (impl_StreetText.calls _ _ _ _ _ (H.f67_1 rfl) (hw.2.1))⟩, trivial⟩ h hw ?_
  clear h hw
  intro a w h hw
  show Code.wp _ B42 _ _ _
  exact t42 h ⟨hw.1, hw.2.1⟩
theorem t46 (H : Facts kk l0 l1 k p n sd pl ok fac one nxt hs five txt lf rt sx sy k1 p1 wh at1 n1 b1 k2 p2 fr to1 wd wk b2 k3 p3 sf nu b3 su tw k4 p4 b4) {a : Act} {w : World} (h : Has 669 a [(80, (.string tw)), (81, (vP g81)), (82, (vB b4))]) (hw : FS16 w0 g81 k4 p4 w) : B46.wp Tryz.prog (Ql w0) a w := by
  show Code.wp _ (Code.seq B44 B45) _ _ _
  refine wp_seq ?_
  show Code.wp _ (Code.seq (Code.region 66 R66.toArray false) (Code.cond (Operand.tmp 657) B43 Code.skip)) _ _ _
  refine wp_seq ?_
  refine region_ (F := FS16 w0 g81 k4 p4) (K := [(80, (.string tw)), (81, (vP g81)), (657, (vB b4))]) (obs := []) (by kernel_rfl) mix rfl FS16.stays trivial h hw ?_
  clear h hw
  intro a w h hw
  show Code.wp _ (Code.cond (Operand.tmp 657) B43 Code.skip) _ _ _
  cases b4 with
  | true =>
    refine wp_cond_true (h.opd (by kernel_rfl)) ?_
    exact t43 H (h.cut (by kernel_rfl)) hw
  | false =>
    refine wp_cond_false (h.opd (by kernel_rfl)) ?_
    refine wp_skip ?_
    show Code.wp _ B45 _ _ _
    exact t45 (h.cut (by kernel_rfl)) ⟨hw.1, hw.2.1⟩
theorem t39 (H : Facts kk l0 l1 k p n sd pl ok fac one nxt hs five txt lf rt sx sy k1 p1 wh at1 n1 b1 k2 p2 fr to1 wd wk true k3 p3 sf nu b3 su tw k4 p4 b4) {a : Act} {w : World} (h : Has 669 a [(63, (vI fr)), (64, (vI to1)), (66, (vI wk)), (80, (.string tw)), (81, (vP g81)), (82, (vB b4)), (88, (vI wk)), (89, (vB true))]) (hw : FS16 w0 g81 k4 p4 w) : B39.wp Tryz.prog (Exit.then (fun a w => Code.wp Tryz.prog B46 (Ql w0) a w) (Ql w0)) a w := by
  show Code.wp _ (Code.seq (Code.region 64 R64.toArray false) (Code.cond (Operand.tmp 656) B38 Code.skip)) _ _ _
  refine wp_seq ?_
  by_cases hx1 : fr = to1
  · refine region_ (F := FS16 w0 g81 k4 p4) (K := [(80, (.string tw)), (81, (vP g81)), (82, (vB b4)), (656, (vB false))]) (obs := [cI .neq 644 645 wk wk false, cI .eql 649 650 fr to1 true, cK .neq 653 wk 0 false]) (by kernel_rfl) mix rfl FS16.stays ⟨(ok_neq_int (bne_self_eq_false _)), (ok_eql_int (beq_iff_eq.mpr hx1)), (ok_neq_int (bne_eq_false_iff_eq.mpr (H.hsym rfl hx1))), trivial⟩ h hw ?_
    clear h hw
    intro a w h hw
    show Code.wp _ (Code.cond (Operand.tmp 656) B38 Code.skip) _ _ _
    refine wp_cond_false (h.opd (by kernel_rfl)) ?_
    refine wp_skip ?_
    show Code.wp _ B46 _ _ _
    exact t46 H (h.cut (by kernel_rfl)) hw
  · refine region_ (F := FS16 w0 g81 k4 p4) (K := [(80, (.string tw)), (81, (vP g81)), (82, (vB b4)), (656, (vB false))]) (obs := [cI .neq 644 645 wk wk false, cI .eql 649 650 fr to1 false]) (by kernel_rfl) mix rfl FS16.stays ⟨(ok_neq_int (bne_self_eq_false _)), (ok_eql_int (beq_eq_false_iff_ne.mpr hx1)), trivial⟩ h hw ?_
    clear h hw
    intro a w h hw
    show Code.wp _ (Code.cond (Operand.tmp 656) B38 Code.skip) _ _ _
    refine wp_cond_false (h.opd (by kernel_rfl)) ?_
    refine wp_skip ?_
    show Code.wp _ B46 _ _ _
    exact t46 H (h.cut (by kernel_rfl)) hw
theorem t40 (H : Facts kk l0 l1 k p n sd pl ok fac one nxt hs five txt lf rt sx sy k1 p1 wh at1 n1 b1 k2 p2 fr to1 wd wk true k3 p3 sf nu b3 su tw k4 p4 b4) {a : Act} {w : World} (h : Has 669 a [(62, (vP g62)), (63, (vI fr)), (64, (vI to1)), (65, (vI wd)), (66, (vI wk)), (80, (.string tw)), (81, (vP g81)), (82, (vB b4))]) (hw : FS17 w0 g62 k2 p2 g81 k4 p4 w) : B40.wp Tryz.prog (Exit.then (fun a w => Code.wp Tryz.prog B46 (Ql w0) a w) (Ql w0)) a w := by
  show Code.wp _ (Code.seq (Code.region 63 R63.toArray false) B39) _ _ _
  refine wp_seq ?_
  refine region_ (F := FS17 w0 g62 k2 p2 g81 k4 p4) (K := [(63, (vI fr)), (64, (vI to1)), (66, (vI wk)), (80, (.string tw)), (81, (vP g81)), (82, (vB b4)), (88, (vI wk)), (89, (vB true))]) (obs := [lS 25 62 g62 k2 p2, .call 21 [(vA k2 p2), (vI to1), (vI fr), (vI wd)] (.tuple #[(vI wk), (vB true)])]) (by kernel_rfl) mix rfl FS17.stays ⟨(ok_load25 (fun w hw => (hw.2.2.1))), ⟨⟨_, Tryz.func21, by kernel_rfl, by kernel_rfl⟩, fun w hw => FS17.stays.calls hw (impl_WalkBetween.calls _ _ _ _ _ _ _ _ _ (H.f63_4 rfl))⟩, trivial⟩ h hw ?_
  clear h hw
  intro a w h hw
  show Code.wp _ B39 _ _ _
  exact t39 H h ⟨hw.1, hw.2.1, hw.2.2.2⟩
theorem t47 (H : Facts kk l0 l1 k p n sd pl ok fac one nxt hs five txt lf rt sx sy k1 p1 wh at1 n1 b1 k2 p2 fr to1 wd wk b2 k3 p3 sf nu b3 su tw k4 p4 b4) {a : Act} {w : World} (h : Has 669 a [(62, (vP g62)), (63, (vI fr)), (64, (vI to1)), (65, (vI wd)), (66, (vI wk)), (67, (vB b2)), (80, (.string tw)), (81, (vP g81)), (82, (vB b4))]) (hw : FS17 w0 g62 k2 p2 g81 k4 p4 w) : B47.wp Tryz.prog (Ql w0) a w := by
  show Code.wp _ (Code.seq B41 B46) _ _ _
  refine wp_seq ?_
  show Code.wp _ (Code.seq (Code.region 62 R62.toArray false) (Code.cond (Operand.tmp 632) B40 Code.skip)) _ _ _
  refine wp_seq ?_
  refine region_ (F := FS17 w0 g62 k2 p2 g81 k4 p4) (K := [(62, (vP g62)), (63, (vI fr)), (64, (vI to1)), (65, (vI wd)), (66, (vI wk)), (80, (.string tw)), (81, (vP g81)), (82, (vB b4)), (632, (vB b2))]) (obs := []) (by kernel_rfl) mix rfl FS17.stays trivial h hw ?_
  clear h hw
  intro a w h hw
  show Code.wp _ (Code.cond (Operand.tmp 632) B40 Code.skip) _ _ _
  cases b2 with
  | true =>
    refine wp_cond_true (h.opd (by kernel_rfl)) ?_
    exact t40 H (h.cut (by kernel_rfl)) hw
  | false =>
    refine wp_cond_false (h.opd (by kernel_rfl)) ?_
    refine wp_skip ?_
    show Code.wp _ B46 _ _ _
    exact t46 H (h.cut (by kernel_rfl)) ⟨hw.1, hw.2.1, hw.2.2.2⟩
theorem t35 (H : Facts kk l0 l1 k p n sd pl ok fac one nxt hs five txt lf rt sx sy k1 p1 wh at1 n1 true k2 p2 fr to1 wd wk b2 k3 p3 sf nu b3 su tw k4 p4 b4) {a : Act} {w : World} (h : Has 669 a [(56, (vI wh)), (57, (vI at1)), (62, (vP g62)), (63, (vI fr)), (64, (vI to1)), (65, (vI wd)), (66, (vI wk)), (67, (vB b2)), (80, (.string tw)), (81, (vP g81)), (82, (vB b4)), (85, (vI wh)), (86, (vI at1)), (87, (vB true))]) (hw : FS17 w0 g62 k2 p2 g81 k4 p4 w) : B35.wp Tryz.prog (Exit.then (fun a w => Code.wp Tryz.prog B47 (Ql w0) a w) (Ql w0)) a w := by
  show Code.wp _ (Code.seq (Code.region 60 R60.toArray false) (Code.cond (Operand.tmp 631) B34 Code.skip)) _ _ _
  refine wp_seq ?_
  refine region_ (F := FS17 w0 g62 k2 p2 g81 k4 p4) (K := [(62, (vP g62)), (63, (vI fr)), (64, (vI to1)), (65, (vI wd)), (66, (vI wk)), (67, (vB b2)), (80, (.string tw)), (81, (vP g81)), (82, (vB b4)), (631, (vB false))]) (obs := [cI .neq 623 624 wh wh false, cI .neq 628 629 at1 at1 false]) (by kernel_rfl) mix rfl FS17.stays ⟨(ok_neq_int (bne_self_eq_false _)), (ok_neq_int (bne_self_eq_false _)), trivial⟩ h hw ?_
  clear h hw
  intro a w h hw
  show Code.wp _ (Code.cond (Operand.tmp 631) B34 Code.skip) _ _ _
  refine wp_cond_false (h.opd (by kernel_rfl)) ?_
  refine wp_skip ?_
  show Code.wp _ B47 _ _ _
  exact t47 H (h.cut (by kernel_rfl)) hw
theorem t36 (H : Facts kk l0 l1 k p n sd pl ok fac one nxt hs five txt lf rt sx sy k1 p1 wh at1 n1 true k2 p2 fr to1 wd wk b2 k3 p3 sf nu b3 su tw k4 p4 b4) {a : Act} {w : World} (h : Has 669 a [(55, (vP g55)), (56, (vI wh)), (57, (vI at1)), (58, (vI n1)), (62, (vP g62)), (63, (vI fr)), (64, (vI to1)), (65, (vI wd)), (66, (vI wk)), (67, (vB b2)), (80, (.string tw)), (81, (vP g81)), (82, (vB b4))]) (hw : FS18 w0 g55 k1 p1 g62 k2 p2 g81 k4 p4 w) : B36.wp Tryz.prog (Exit.then (fun a w => Code.wp Tryz.prog B47 (Ql w0) a w) (Ql w0)) a w := by
  show Code.wp _ (Code.seq (Code.region 59 R59.toArray false) B35) _ _ _
  refine wp_seq ?_
  refine region_ (F := FS18 w0 g55 k1 p1 g62 k2 p2 g81 k4 p4) (K := [(56, (vI wh)), (57, (vI at1)), (62, (vP g62)), (63, (vI fr)), (64, (vI to1)), (65, (vI wd)), (66, (vI wk)), (67, (vB b2)), (80, (.string tw)), (81, (vP g81)), (82, (vB b4)), (85, (vI wh)), (86, (vI at1)), (87, (vB true))]) (obs := [lS 25 55 g55 k1 p1, .call 6 [(vA k1 p1), (vI n1)] (.tuple #[(vI wh), (vI at1), (vB true)])]) (by kernel_rfl) mix rfl FS18.stays ⟨(ok_load25 (fun w hw => (hw.2.2.1))), ⟨⟨_, Tryz.func6, by kernel_rfl, by kernel_rfl⟩, fun w hw => FS18.stays.calls hw (impl_PlotOf.calls _ _ _ _ _ _ _ (H.f59_2 rfl))⟩, trivial⟩ h hw ?_
  clear h hw
  intro a w h hw
  show Code.wp _ B35 _ _ _
  exact t35 H h ⟨hw.1, hw.2.1, hw.2.2.2.1, hw.2.2.2.2⟩
theorem t48 (H : Facts kk l0 l1 k p n sd pl ok fac one nxt hs five txt lf rt sx sy k1 p1 wh at1 n1 b1 k2 p2 fr to1 wd wk b2 k3 p3 sf nu b3 su tw k4 p4 b4) {a : Act} {w : World} (h : Has 669 a [(55, (vP g55)), (56, (vI wh)), (57, (vI at1)), (58, (vI n1)), (59, (vB b1)), (62, (vP g62)), (63, (vI fr)), (64, (vI to1)), (65, (vI wd)), (66, (vI wk)), (67, (vB b2)), (80, (.string tw)), (81, (vP g81)), (82, (vB b4))]) (hw : FS18 w0 g55 k1 p1 g62 k2 p2 g81 k4 p4 w) : B48.wp Tryz.prog (Ql w0) a w := by
  show Code.wp _ (Code.seq B37 B47) _ _ _
  refine wp_seq ?_
  show Code.wp _ (Code.seq (Code.region 58 R58.toArray false) (Code.cond (Operand.tmp 612) B36 Code.skip)) _ _ _
  refine wp_seq ?_
  refine region_ (F := FS18 w0 g55 k1 p1 g62 k2 p2 g81 k4 p4) (K := [(55, (vP g55)), (56, (vI wh)), (57, (vI at1)), (58, (vI n1)), (62, (vP g62)), (63, (vI fr)), (64, (vI to1)), (65, (vI wd)), (66, (vI wk)), (67, (vB b2)), (80, (.string tw)), (81, (vP g81)), (82, (vB b4)), (612, (vB b1))]) (obs := []) (by kernel_rfl) mix rfl FS18.stays trivial h hw ?_
  clear h hw
  intro a w h hw
  show Code.wp _ (Code.cond (Operand.tmp 612) B36 Code.skip) _ _ _
  cases b1 with
  | true =>
    refine wp_cond_true (h.opd (by kernel_rfl)) ?_
    exact t36 H (h.cut (by kernel_rfl)) hw
  | false =>
    refine wp_cond_false (h.opd (by kernel_rfl)) ?_
    refine wp_skip ?_
    show Code.wp _ B47 _ _ _
    exact t47 H (h.cut (by kernel_rfl)) ⟨hw.1, hw.2.1, hw.2.2.2.1, hw.2.2.2.2⟩
theorem t49 (H : Facts kk l0 l1 k p n sd pl ok fac one nxt hs five txt lf rt sx sy k1 p1 wh at1 n1 b1 k2 p2 fr to1 wd wk b2 k3 p3 sf nu b3 su tw k4 p4 b4) {a : Act} {w : World} (h : Has 669 a [(55, (vP g55)), (56, (vI wh)), (57, (vI at1)), (58, (vI n1)), (59, (vB b1)), (60, (vI n1)), (61, (vB b1)), (62, (vP g62)), (63, (vI fr)), (64, (vI to1)), (65, (vI wd)), (66, (vI wk)), (67, (vB b2)), (68, (vI wk)), (69, (vB b2)), (72, (.slice A525_0 nu.length c525_0)), (73, (vB b3)), (74, (.slice A531_0 nu.length c531_0)), (75, (vB b3)), (76, (vI su)), (77, (vB b3)), (78, (vI su)), (79, (vB b3)), (80, (.string tw)), (81, (vP g81)), (82, (vB b4)), (83, (vP g83)), (84, (vB b4))]) (hw : FS14 w0 g55 k1 p1 g62 k2 p2 A525_0 nu c525_0 A531_0 c531_0 g81 k4 p4 g83 w) : B49.wp Tryz.prog (Ql w0) a w := by
  show Code.wp _ (Code.seq B33 B48) _ _ _
  refine wp_seq ?_
  show Code.wp _ (Code.seq (Code.region 56 R56.toArray false) (Code.cond (Operand.tmp 611) B32 Code.skip)) _ _ _
  refine wp_seq ?_
  refine region_ (F := FS14 w0 g55 k1 p1 g62 k2 p2 A525_0 nu c525_0 A531_0 c531_0 g81 k4 p4 g83) (K := [(55, (vP g55)), (56, (vI wh)), (57, (vI at1)), (58, (vI n1)), (59, (vB b1)), (62, (vP g62)), (63, (vI fr)), (64, (vI to1)), (65, (vI wd)), (66, (vI wk)), (67, (vB b2)), (80, (.string tw)), (81, (vP g81)), (82, (vB b4)), (611, (vB false))]) (obs := [cB .neq 558 559 b1 b1 false, cI .neq 562 563 n1 n1 false, cB .neq 567 568 b2 b2 false, cI .neq 572 573 wk wk false, cB .neq 577 578 b3 b3 false, .call 16 [(.slice A525_0 nu.length c525_0), (.slice A531_0 nu.length c531_0)] (vB true), cB .neq 588 589 b3 b3 false, cI .neq 593 594 su su false, cB .neq 598 599 b3 b3 false, cB .neq 603 604 b4 b4 false, lS 25 81 g81 k4 p4, lS 25 83 g83 k4 p4, .op (Op.binOp BinOp.neq 25 (Operand.tmp 608) (Operand.tmp 609) 25) 4 [((Operand.tmp 608), (vA k4 p4)), ((Operand.tmp 609), (vA k4 p4))] (vB false)]) (by kernel_rfl) mix rfl FS14.stays ⟨(ok_neq_bool Tryz.underlying4 (bne_self_eq_false _)), (ok_neq_int (bne_self_eq_false _)), (ok_neq_bool Tryz.underlying4 (bne_self_eq_false _)), (ok_neq_int (bne_self_eq_false _)), (ok_neq_bool Tryz.underlying4 (bne_self_eq_false _)), ⟨⟨_, Tryz.func16, by kernel_rfl, by kernel_rfl⟩, fun w hw => FS14.stays.callsD hw (laws_zSame.calls _ _ _ _ _ _ _ _ _ (hw.2.2.2.2.1) (hw.2.2.2.2.2.1) (hw.2.2.2.2.2.2.1) (hw.2.2.2.2.2.2.2.1) (H.f56_26))⟩, (ok_neq_bool Tryz.underlying4 (bne_self_eq_false _)), (ok_neq_int (bne_self_eq_false _)), (ok_neq_bool Tryz.underlying4 (bne_self_eq_false _)), (ok_neq_bool Tryz.underlying4 (bne_self_eq_false _)), (ok_load25 (fun w hw => (hw.2.2.2.2.2.2.2.2.1))), (ok_load25 (fun w hw => (hw.2.2.2.2.2.2.2.2.2))), (ok_neq25 (by simp)), trivial⟩ h hw ?_
  clear h hw
  intro a w h hw
  show Code.wp _ (Code.cond (Operand.tmp 611) B32 Code.skip) _ _ _
  refine wp_cond_false (h.opd (by kernel_rfl)) ?_
  refine wp_skip ?_
  show Code.wp _ B48 _ _ _
  exact t48 H (h.cut (by kernel_rfl)) ⟨hw.1, hw.2.1, hw.2.2.1, hw.2.2.2.1, hw.2.2.2.2.2.2.2.2.1⟩
theorem t50 (H : Facts kk l0 l1 k p n sd pl ok fac one nxt hs five txt lf rt sx sy k1 p1 wh at1 n1 b1 k2 p2 fr to1 wd wk b2 k3 p3 sf nu b3 su tw k4 p4 b4) {a : Act} {w : World} (h : Has 669 a [(55, (vP g55)), (56, (vI wh)), (57, (vI at1)), (58, (vI n1)), (59, (vB b1)), (60, (vI n1)), (61, (vB b1)), (62, (vP g62)), (63, (vI fr)), (64, (vI to1)), (65, (vI wd)), (66, (vI wk)), (67, (vB b2)), (68, (vI wk)), (69, (vB b2)), (72, (.slice A525_0 nu.length c525_0)), (73, (vB b3)), (74, (.slice A531_0 nu.length c531_0)), (75, (vB b3)), (76, (vI su)), (77, (vB b3)), (78, (vI su)), (79, (vB b3)), (80, (.string tw)), (81, (vP g81)), (82, (vB b4))]) (hw : FS13 w0 g55 k1 p1 g62 k2 p2 A525_0 nu c525_0 A531_0 c531_0 g81 k4 p4 w) : B50.wp Tryz.prog (Ql w0) a w := by
  show Code.wp _ (Code.seq (Code.region 55 R55.toArray false) B49) _ _ _
  refine wp_seq ?_
  refine region_list ?_
  refine quiet_ 0 5 5 (F := FS13 w0 g55 k1 p1 g62 k2 p2 A525_0 nu c525_0 A531_0 c531_0 g81 k4 p4) (K := [(55, (vP g55)), (56, (vI wh)), (57, (vI at1)), (58, (vI n1)), (59, (vB b1)), (60, (vI n1)), (61, (vB b1)), (62, (vP g62)), (63, (vI fr)), (64, (vI to1)), (65, (vI wd)), (66, (vI wk)), (67, (vB b2)), (68, (vI wk)), (69, (vB b2)), (72, (.slice A525_0 nu.length c525_0)), (73, (vB b3)), (74, (.slice A531_0 nu.length c531_0)), (75, (vB b3)), (76, (vI su)), (77, (vB b3)), (78, (vI su)), (79, (vB b3)), (80, (.string tw)), (81, (vP g81)), (82, (vB b4)), (556, (vA k4 p4)), (557, (vB b4))]) (obs := [.call 34 [(.string tw)] (.tuple #[(vA k4 p4), (vB b4)])]) (by kernel_rfl) rfl ⟨⟨⟨_, Tryz.func34, by kernel_rfl, by kernel_rfl⟩, fun w hw => FS13.stays.calls hw (spec_ParseStreet.calls _ _ _ _ _ _ (H.f55_1))⟩, trivial⟩ h hw ?_
  clear h hw
  intro a w h hw
  refine new25 (F := FS13 w0 g55 k1 p1 g62 k2 p2 A525_0 nu c525_0 A531_0 c531_0 g81 k4 p4) 5 7 (d := 83) (y := k4) (z := p4) (by kernel_rfl) rfl h FS13.stays hw ?_
  clear h hw
  intro g83 a w h hw
  replace hw : FS14 w0 g55 k1 p1 g62 k2 p2 A525_0 nu c525_0 A531_0 c531_0 g81 k4 p4 g83 w := ⟨hw.1.1, hw.1.2.1, hw.1.2.2.1, hw.1.2.2.2.1, hw.1.2.2.2.2.1, hw.1.2.2.2.2.2.1, hw.1.2.2.2.2.2.2.1, hw.1.2.2.2.2.2.2.2.1, hw.1.2.2.2.2.2.2.2.2, hw.2⟩
  refine quiet_ 7 1 8 (F := FS14 w0 g55 k1 p1 g62 k2 p2 A525_0 nu c525_0 A531_0 c531_0 g81 k4 p4 g83) (K := [(55, (vP g55)), (56, (vI wh)), (57, (vI at1)), (58, (vI n1)), (59, (vB b1)), (60, (vI n1)), (61, (vB b1)), (62, (vP g62)), (63, (vI fr)), (64, (vI to1)), (65, (vI wd)), (66, (vI wk)), (67, (vB b2)), (68, (vI wk)), (69, (vB b2)), (72, (.slice A525_0 nu.length c525_0)), (73, (vB b3)), (74, (.slice A531_0 nu.length c531_0)), (75, (vB b3)), (76, (vI su)), (77, (vB b3)), (78, (vI su)), (79, (vB b3)), (80, (.string tw)), (81, (vP g81)), (82, (vB b4)), (83, (vP g83)), (84, (vB b4))]) (obs := []) (by kernel_rfl) rfl trivial h hw ?_
  clear h hw
  intro a w h hw
  refine end_ (by kernel_rfl) ?_
  show Code.wp _ B49 _ _ _
  exact t49 H h hw
theorem t51 (H : Facts kk l0 l1 k p n sd pl ok fac one nxt hs five txt lf rt sx sy k1 p1 wh at1 n1 b1 k2 p2 fr to1 wd wk b2 k3 p3 sf nu b3 su tw k4 p4 b4) {a : Act} {w : World} (h : Has 669 a [(55, (vP g55)), (56, (vI wh)), (57, (vI at1)), (58, (vI n1)), (59, (vB b1)), (60, (vI n1)), (61, (vB b1)), (62, (vP g62)), (63, (vI fr)), (64, (vI to1)), (65, (vI wd)), (66, (vI wk)), (67, (vB b2)), (68, (vI wk)), (69, (vB b2)), (72, (.slice A525_0 nu.length c525_0)), (73, (vB b3)), (74, (.slice A531_0 nu.length c531_0)), (75, (vB b3)), (76, (vI su)), (77, (vB b3)), (78, (vI su)), (79, (vB b3)), (80, (.string tw))]) (hw : FS12 w0 g55 k1 p1 g62 k2 p2 A525_0 nu c525_0 A531_0 c531_0 w) : B51.wp Tryz.prog (Ql w0) a w := by
  show Code.wp _ (Code.seq (Code.region 54 R54.toArray false) B50) _ _ _
  refine wp_seq ?_
  refine region_list ?_
  refine quiet_ 0 5 5 (F := FS12 w0 g55 k1 p1 g62 k2 p2 A525_0 nu c525_0 A531_0 c531_0) (K := [(55, (vP g55)), (56, (vI wh)), (57, (vI at1)), (58, (vI n1)), (59, (vB b1)), (60, (vI n1)), (61, (vB b1)), (62, (vP g62)), (63, (vI fr)), (64, (vI to1)), (65, (vI wd)), (66, (vI wk)), (67, (vB b2)), (68, (vI wk)), (69, (vB b2)), (72, (.slice A525_0 nu.length c525_0)), (73, (vB b3)), (74, (.slice A531_0 nu.length c531_0)), (75, (vB b3)), (76, (vI su)), (77, (vB b3)), (78, (vI su)), (79, (vB b3)), (80, (.string tw)), (551, (vA k4 p4)), (552, (vB b4))]) (obs := [.call 24 [(.string tw)] (.tuple #[(vA k4 p4), (vB b4)])]) (by kernel_rfl) rfl ⟨⟨⟨_, Tryz.func24, by kernel_rfl, by kernel_rfl⟩, fun w hw => FS12.stays.calls hw (impl_ParseStreet.calls _ _ _ _ _ (H.f54_1) (hw.2.1))⟩, trivial⟩ h hw ?_
  clear h hw
  intro a w h hw
  refine new25 (F := FS12 w0 g55 k1 p1 g62 k2 p2 A525_0 nu c525_0 A531_0 c531_0) 5 7 (d := 81) (y := k4) (z := p4) (by kernel_rfl) rfl h FS12.stays hw ?_
  clear h hw
  intro g81 a w h hw
  replace hw : FS13 w0 g55 k1 p1 g62 k2 p2 A525_0 nu c525_0 A531_0 c531_0 g81 k4 p4 w := ⟨hw.1.1, hw.1.2.1, hw.1.2.2.1, hw.1.2.2.2.1, hw.1.2.2.2.2.1, hw.1.2.2.2.2.2.1, hw.1.2.2.2.2.2.2.1, hw.1.2.2.2.2.2.2.2, hw.2⟩
  refine quiet_ 7 1 8 (F := FS13 w0 g55 k1 p1 g62 k2 p2 A525_0 nu c525_0 A531_0 c531_0 g81 k4 p4) (K := [(55, (vP g55)), (56, (vI wh)), (57, (vI at1)), (58, (vI n1)), (59, (vB b1)), (60, (vI n1)), (61, (vB b1)), (62, (vP g62)), (63, (vI fr)), (64, (vI to1)), (65, (vI wd)), (66, (vI wk)), (67, (vB b2)), (68, (vI wk)), (69, (vB b2)), (72, (.slice A525_0 nu.length c525_0)), (73, (vB b3)), (74, (.slice A531_0 nu.length c531_0)), (75, (vB b3)), (76, (vI su)), (77, (vB b3)), (78, (vI su)), (79, (vB b3)), (80, (.string tw)), (81, (vP g81)), (82, (vB b4))]) (obs := []) (by kernel_rfl) rfl trivial h hw ?_
  clear h hw
  intro a w h hw
  refine end_ (by kernel_rfl) ?_
  show Code.wp _ B50 _ _ _
  exact t50 H h hw
theorem t52 (H : Facts kk l0 l1 k p n sd pl ok fac one nxt hs five txt lf rt sx sy k1 p1 wh at1 n1 b1 k2 p2 fr to1 wd wk b2 k3 p3 sf nu b3 su tw k4 p4 b4) {a : Act} {w : World} (h : Has 669 a [(1, (.slice A1 l1.length c1)), (55, (vP g55)), (56, (vI wh)), (57, (vI at1)), (58, (vI n1)), (59, (vB b1)), (60, (vI n1)), (61, (vB b1)), (62, (vP g62)), (63, (vI fr)), (64, (vI to1)), (65, (vI wd)), (66, (vI wk)), (67, (vB b2)), (68, (vI wk)), (69, (vB b2)), (72, (.slice A525_0 nu.length c525_0)), (73, (vB b3)), (74, (.slice A531_0 nu.length c531_0)), (75, (vB b3)), (76, (vI su)), (77, (vB b3)), (78, (vI su)), (79, (vB b3))]) (hw : FS11 w0 A1 l1 c1 g55 k1 p1 g62 k2 p2 A525_0 nu c525_0 A531_0 c531_0 w) : B52.wp Tryz.prog (Ql w0) a w := by
  show Code.wp _ (Code.seq (Code.region 53 R53.toArray false) B51) _ _ _
  refine wp_seq ?_
  refine region_ (F := FS11 w0 A1 l1 c1 g55 k1 p1 g62 k2 p2 A525_0 nu c525_0 A531_0 c531_0) (K := [(55, (vP g55)), (56, (vI wh)), (57, (vI at1)), (58, (vI n1)), (59, (vB b1)), (60, (vI n1)), (61, (vB b1)), (62, (vP g62)), (63, (vI fr)), (64, (vI to1)), (65, (vI wd)), (66, (vI wk)), (67, (vB b2)), (68, (vI wk)), (69, (vB b2)), (72, (.slice A525_0 nu.length c525_0)), (73, (vB b3)), (74, (.slice A531_0 nu.length c531_0)), (75, (vB b3)), (76, (vI su)), (77, (vB b3)), (78, (vI su)), (79, (vB b3)), (80, (.string tw))]) (obs := [.call 33 [(.slice A1 l1.length c1)] (.string tw)]) (by kernel_rfl) mix rfl FS11.stays ⟨⟨⟨_, Tryz.func33, by kernel_rfl, by kernel_rfl⟩, fun w hw => FS11.stays.calls hw (spec_DrawParseStreet.calls _ _ _ _ _ _ (hw.2.2.1) (hw.2.2.2.1) (H.f53_1))⟩, trivial⟩ h hw ?_
  clear h hw
  intro a w h hw
  show Code.wp _ B51 _ _ _
  exact t51 H h ⟨hw.1, hw.2.1, hw.2.2.2.2.1, hw.2.2.2.2.2.1, hw.2.2.2.2.2.2.1, hw.2.2.2.2.2.2.2.1, hw.2.2.2.2.2.2.2.2.1, hw.2.2.2.2.2.2.2.2.2⟩
theorem t53 (H : Facts kk l0 l1 k p n sd pl ok fac one nxt hs five txt lf rt sx sy k1 p1 wh at1 n1 b1 k2 p2 fr to1 wd wk b2 k3 p3 sf nu b3 su tw k4 p4 b4) {a : Act} {w : World} (h : Has 669 a [(1, (.slice A1 l1.length c1)), (55, (vP g55)), (56, (vI wh)), (57, (vI at1)), (58, (vI n1)), (59, (vB b1)), (60, (vI n1)), (61, (vB b1)), (62, (vP g62)), (63, (vI fr)), (64, (vI to1)), (65, (vI wd)), (66, (vI wk)), (67, (vB b2)), (68, (vI wk)), (69, (vB b2)), (70, (vP g70)), (71, (vI sf)), (72, (.slice A525_0 nu.length c525_0)), (73, (vB b3)), (74, (.slice A531_0 nu.length c531_0)), (75, (vB b3)), (76, (vI su)), (77, (vB b3))]) (hw : FS10 w0 A1 l1 c1 g55 k1 p1 g62 k2 p2 g70 k3 p3 A525_0 nu c525_0 A531_0 c531_0 w) : B53.wp Tryz.prog (Ql w0) a w := by
  show Code.wp _ (Code.seq (Code.region 52 R52.toArray false) B52) _ _ _
  refine wp_seq ?_
  refine region_ (F := FS10 w0 A1 l1 c1 g55 k1 p1 g62 k2 p2 g70 k3 p3 A525_0 nu c525_0 A531_0 c531_0) (K := [(1, (.slice A1 l1.length c1)), (55, (vP g55)), (56, (vI wh)), (57, (vI at1)), (58, (vI n1)), (59, (vB b1)), (60, (vI n1)), (61, (vB b1)), (62, (vP g62)), (63, (vI fr)), (64, (vI to1)), (65, (vI wd)), (66, (vI wk)), (67, (vB b2)), (68, (vI wk)), (69, (vB b2)), (72, (.slice A525_0 nu.length c525_0)), (73, (vB b3)), (74, (.slice A531_0 nu.length c531_0)), (75, (vB b3)), (76, (vI su)), (77, (vB b3)), (78, (vI su)), (79, (vB b3))]) (obs := [lS 25 70 g70 k3 p3, .call 32 [(vA k3 p3), (vI sf)] (.tuple #[(vI su), (vB b3)])]) (by kernel_rfl) mix rfl FS10.stays ⟨(ok_load25 (fun w hw => (hw.2.2.2.2.2.2.1))), ⟨⟨_, Tryz.func32, by kernel_rfl, by kernel_rfl⟩, fun w hw => FS10.stays.calls hw (spec_SideSum.calls _ _ _ _ _ _ _ (H.f52_2))⟩, trivial⟩ h hw ?_
  clear h hw
  intro a w h hw
  show Code.wp _ B52 _ _ _
  exact t52 H h ⟨hw.1, hw.2.1, hw.2.2.1, hw.2.2.2.1, hw.2.2.2.2.1, hw.2.2.2.2.2.1, hw.2.2.2.2.2.2.2.1, hw.2.2.2.2.2.2.2.2.1, hw.2.2.2.2.2.2.2.2.2.1, hw.2.2.2.2.2.2.2.2.2.2⟩
theorem t54 (H : Facts kk l0 l1 k p n sd pl ok fac one nxt hs five txt lf rt sx sy k1 p1 wh at1 n1 b1 k2 p2 fr to1 wd wk b2 k3 p3 sf nu b3 su tw k4 p4 b4) {a : Act} {w : World} (h : Has 669 a [(1, (.slice A1 l1.length c1)), (55, (vP g55)), (56, (vI wh)), (57, (vI at1)), (58, (vI n1)), (59, (vB b1)), (60, (vI n1)), (61, (vB b1)), (62, (vP g62)), (63, (vI fr)), (64, (vI to1)), (65, (vI wd)), (66, (vI wk)), (67, (vB b2)), (68, (vI wk)), (69, (vB b2)), (70, (vP g70)), (71, (vI sf)), (72, (.slice A525_0 nu.length c525_0)), (73, (vB b3)), (74, (.slice A531_0 nu.length c531_0)), (75, (vB b3))]) (hw : FS10 w0 A1 l1 c1 g55 k1 p1 g62 k2 p2 g70 k3 p3 A525_0 nu c525_0 A531_0 c531_0 w) : B54.wp Tryz.prog (Ql w0) a w := by
  show Code.wp _ (Code.seq (Code.region 51 R51.toArray false) B53) _ _ _
  refine wp_seq ?_
  refine region_ (F := FS10 w0 A1 l1 c1 g55 k1 p1 g62 k2 p2 g70 k3 p3 A525_0 nu c525_0 A531_0 c531_0) (K := [(1, (.slice A1 l1.length c1)), (55, (vP g55)), (56, (vI wh)), (57, (vI at1)), (58, (vI n1)), (59, (vB b1)), (60, (vI n1)), (61, (vB b1)), (62, (vP g62)), (63, (vI fr)), (64, (vI to1)), (65, (vI wd)), (66, (vI wk)), (67, (vB b2)), (68, (vI wk)), (69, (vB b2)), (70, (vP g70)), (71, (vI sf)), (72, (.slice A525_0 nu.length c525_0)), (73, (vB b3)), (74, (.slice A531_0 nu.length c531_0)), (75, (vB b3)), (76, (vI su)), (77, (vB b3))]) (obs := [lS 25 70 g70 k3 p3, .call 23 [(vA k3 p3), (vI sf)] (.tuple #[(vI su), (vB b3)])]) (by kernel_rfl) mix rfl FS10.stays ⟨(ok_load25 (fun w hw => (hw.2.2.2.2.2.2.1))), ⟨⟨_, Tryz.func23, by kernel_rfl, by kernel_rfl⟩, fun w hw => FS10.stays.calls hw (impl_SideSum.calls _ _ _ _ _ _ _ (H.f51_2))⟩, trivial⟩ h hw ?_
  clear h hw
  intro a w h hw
  show Code.wp _ B53 _ _ _
  exact t53 H h hw
theorem t55 (H : Facts kk l0 l1 k p n sd pl ok fac one nxt hs five txt lf rt sx sy k1 p1 wh at1 n1 b1 k2 p2 fr to1 wd wk b2 k3 p3 sf nu b3 su tw k4 p4 b4) {a : Act} {w : World} (h : Has 669 a [(1, (.slice A1 l1.length c1)), (55, (vP g55)), (56, (vI wh)), (57, (vI at1)), (58, (vI n1)), (59, (vB b1)), (60, (vI n1)), (61, (vB b1)), (62, (vP g62)), (63, (vI fr)), (64, (vI to1)), (65, (vI wd)), (66, (vI wk)), (67, (vB b2)), (68, (vI wk)), (69, (vB b2)), (70, (vP g70)), (71, (vI sf)), (72, (.slice A525_0 nu.length c525_0)), (73, (vB b3))]) (hw : FS9 w0 A1 l1 c1 g55 k1 p1 g62 k2 p2 g70 k3 p3 A525_0 nu c525_0 w) : B55.wp Tryz.prog (Ql w0) a w := by
  show Code.wp _ (Code.seq (Code.region 50 R50.toArray false) B54) _ _ _
  refine wp_seq ?_
  refine region_list ?_
  refine quiet_ 0 2 2 (F := FS9 w0 A1 l1 c1 g55 k1 p1 g62 k2 p2 g70 k3 p3 A525_0 nu c525_0) (K := [(1, (.slice A1 l1.length c1)), (55, (vP g55)), (56, (vI wh)), (57, (vI at1)), (58, (vI n1)), (59, (vB b1)), (60, (vI n1)), (61, (vB b1)), (62, (vP g62)), (63, (vI fr)), (64, (vI to1)), (65, (vI wd)), (66, (vI wk)), (67, (vB b2)), (68, (vI wk)), (69, (vB b2)), (70, (vP g70)), (71, (vI sf)), (72, (.slice A525_0 nu.length c525_0)), (73, (vB b3)), (529, (vA k3 p3)), (530, (vI sf))]) (obs := [lS 25 70 g70 k3 p3]) (by kernel_rfl) rfl ⟨(ok_load25 (fun w hw => (hw.2.2.2.2.2.2.1))), trivial⟩ h hw ?_
  clear h hw
  intro a w h hw
  refine made_ (σ := Option Addr × Nat) (F := FS9 w0 A1 l1 c1 g55 k1 p1 g62 k2 p2 g70 k3 p3 A525_0 nu c525_0) 2 3 (f := 31) (d := 531) (vs := [(vA k3 p3), (vI sf)]) (by kernel_rfl) rfl h hw Tryz.func31 (by kernel_rfl) (by kernel_rfl) (fun s => (.tuple #[(.slice s.1 nu.length s.2), (vB b3)])) (fun s w => FS10 w0 A1 l1 c1 g55 k1 p1 g62 k2 p2 g70 k3 p3 A525_0 nu c525_0 s.1 s.2 w) ?_ ?_
  · intro w hw
    refine (spec_SideNumbers.calls _ _ _ _ _ _ _ (H.f50_2)).mono ?_
    rintro e w' ⟨v0_, he, hR0, hb⟩
    obtain ⟨A0_, c0_, rfl, hc0_, hC0_⟩ := Kd.R_reads hR0
    have hw' := FS9.stays w w' hw hb
    exact ⟨(A0_, c0_), he, ⟨hw'.1, hw'.2.1, hw'.2.2.1, hw'.2.2.2.1, hw'.2.2.2.2.1, hw'.2.2.2.2.2.1, hw'.2.2.2.2.2.2.1, hw'.2.2.2.2.2.2.2.1, hw'.2.2.2.2.2.2.2.2, hC0_, hc0_⟩⟩
  clear h hw
  rintro ⟨A531_0, c531_0⟩ a w h hw
  replace hw : FS10 w0 A1 l1 c1 g55 k1 p1 g62 k2 p2 g70 k3 p3 A525_0 nu c525_0 A531_0 c531_0 w := hw
  replace h : Has 669 a ((531, (.tuple #[(.slice A531_0 nu.length c531_0), (vB b3)])) :: [(1, (.slice A1 l1.length c1)), (55, (vP g55)), (56, (vI wh)), (57, (vI at1)), (58, (vI n1)), (59, (vB b1)), (60, (vI n1)), (61, (vB b1)), (62, (vP g62)), (63, (vI fr)), (64, (vI to1)), (65, (vI wd)), (66, (vI wk)), (67, (vB b2)), (68, (vI wk)), (69, (vB b2)), (70, (vP g70)), (71, (vI sf)), (72, (.slice A525_0 nu.length c525_0)), (73, (vB b3)), (529, (vA k3 p3)), (530, (vI sf))]) := h
  refine quiet_ 3 5 8 (F := FS10 w0 A1 l1 c1 g55 k1 p1 g62 k2 p2 g70 k3 p3 A525_0 nu c525_0 A531_0 c531_0) (K := [(1, (.slice A1 l1.length c1)), (55, (vP g55)), (56, (vI wh)), (57, (vI at1)), (58, (vI n1)), (59, (vB b1)), (60, (vI n1)), (61, (vB b1)), (62, (vP g62)), (63, (vI fr)), (64, (vI to1)), (65, (vI wd)), (66, (vI wk)), (67, (vB b2)), (68, (vI wk)), (69, (vB b2)), (70, (vP g70)), (71, (vI sf)), (72, (.slice A525_0 nu.length c525_0)), (73, (vB b3)), (74, (.slice A531_0 nu.length c531_0)), (75, (vB b3))]) (obs := []) (by kernel_rfl) rfl trivial h hw ?_
  clear h hw
  intro a w h hw
  refine end_ (by kernel_rfl) ?_
  show Code.wp _ B54 _ _ _
  exact t54 H h hw
theorem t56 (H : Facts kk l0 l1 k p n sd pl ok fac one nxt hs five txt lf rt sx sy k1 p1 wh at1 n1 b1 k2 p2 fr to1 wd wk b2 k3 p3 sf nu b3 su tw k4 p4 b4) {a : Act} {w : World} (h : Has 669 a [(1, (.slice A1 l1.length c1)), (55, (vP g55)), (56, (vI wh)), (57, (vI at1)), (58, (vI n1)), (59, (vB b1)), (60, (vI n1)), (61, (vB b1)), (62, (vP g62)), (63, (vI fr)), (64, (vI to1)), (65, (vI wd)), (66, (vI wk)), (67, (vB b2)), (68, (vI wk)), (69, (vB b2)), (70, (vP g70)), (71, (vI sf))]) (hw : FS8 w0 A1 l1 c1 g55 k1 p1 g62 k2 p2 g70 k3 p3 w) : B56.wp Tryz.prog (Ql w0) a w := by
  show Code.wp _ (Code.seq (Code.region 49 R49.toArray false) B55) _ _ _
  refine wp_seq ?_
  refine region_list ?_
  refine quiet_ 0 2 2 (F := FS8 w0 A1 l1 c1 g55 k1 p1 g62 k2 p2 g70 k3 p3) (K := [(1, (.slice A1 l1.length c1)), (55, (vP g55)), (56, (vI wh)), (57, (vI at1)), (58, (vI n1)), (59, (vB b1)), (60, (vI n1)), (61, (vB b1)), (62, (vP g62)), (63, (vI fr)), (64, (vI to1)), (65, (vI wd)), (66, (vI wk)), (67, (vB b2)), (68, (vI wk)), (69, (vB b2)), (70, (vP g70)), (71, (vI sf)), (523, (vA k3 p3)), (524, (vI sf))]) (obs := [lS 25 70 g70 k3 p3]) (by kernel_rfl) rfl ⟨(ok_load25 (fun w hw => (hw.2.2.2.2.2.2))), trivial⟩ h hw ?_
  clear h hw
  intro a w h hw
  refine made_ (σ := Option Addr × Nat) (F := FS8 w0 A1 l1 c1 g55 k1 p1 g62 k2 p2 g70 k3 p3) 2 3 (f := 22) (d := 525) (vs := [(vA k3 p3), (vI sf)]) (by kernel_rfl) rfl h hw Tryz.func22 (by kernel_rfl) (by kernel_rfl) (fun s => (.tuple #[(.slice s.1 nu.length s.2), (vB b3)])) (fun s w => FS9 w0 A1 l1 c1 g55 k1 p1 g62 k2 p2 g70 k3 p3 s.1 nu s.2 w) ?_ ?_
  · intro w hw
    refine (impl_SideNumbers.calls _ _ _ _ _ _ _ (H.f49_2)).mono ?_
    rintro e w' ⟨v0_, he, hR0, hb⟩
    obtain ⟨A0_, c0_, rfl, hc0_, hC0_⟩ := Kd.R_reads hR0
    have hw' := FS8.stays w w' hw hb
    exact ⟨(A0_, c0_), he, ⟨hw'.1, hw'.2.1, hw'.2.2.1, hw'.2.2.2.1, hw'.2.2.2.2.1, hw'.2.2.2.2.2.1, hw'.2.2.2.2.2.2, hC0_, hc0_⟩⟩
  clear h hw
  rintro ⟨A525_0, c525_0⟩ a w h hw
  replace hw : FS9 w0 A1 l1 c1 g55 k1 p1 g62 k2 p2 g70 k3 p3 A525_0 nu c525_0 w := hw
  replace h : Has 669 a ((525, (.tuple #[(.slice A525_0 nu.length c525_0), (vB b3)])) :: [(1, (.slice A1 l1.length c1)), (55, (vP g55)), (56, (vI wh)), (57, (vI at1)), (58, (vI n1)), (59, (vB b1)), (60, (vI n1)), (61, (vB b1)), (62, (vP g62)), (63, (vI fr)), (64, (vI to1)), (65, (vI wd)), (66, (vI wk)), (67, (vB b2)), (68, (vI wk)), (69, (vB b2)), (70, (vP g70)), (71, (vI sf)), (523, (vA k3 p3)), (524, (vI sf))]) := h
  refine quiet_ 3 5 8 (F := FS9 w0 A1 l1 c1 g55 k1 p1 g62 k2 p2 g70 k3 p3 A525_0 nu c525_0) (K := [(1, (.slice A1 l1.length c1)), (55, (vP g55)), (56, (vI wh)), (57, (vI at1)), (58, (vI n1)), (59, (vB b1)), (60, (vI n1)), (61, (vB b1)), (62, (vP g62)), (63, (vI fr)), (64, (vI to1)), (65, (vI wd)), (66, (vI wk)), (67, (vB b2)), (68, (vI wk)), (69, (vB b2)), (70, (vP g70)), (71, (vI sf)), (72, (.slice A525_0 nu.length c525_0)), (73, (vB b3))]) (obs := []) (by kernel_rfl) rfl trivial h hw ?_
  clear h hw
  intro a w h hw
  refine end_ (by kernel_rfl) ?_
  show Code.wp _ B55 _ _ _
  exact t55 H h hw
theorem t57 (H : Facts kk l0 l1 k p n sd pl ok fac one nxt hs five txt lf rt sx sy k1 p1 wh at1 n1 b1 k2 p2 fr to1 wd wk b2 k3 p3 sf nu b3 su tw k4 p4 b4) {a : Act} {w : World} (h : Has 669 a [(1, (.slice A1 l1.length c1)), (55, (vP g55)), (56, (vI wh)), (57, (vI at1)), (58, (vI n1)), (59, (vB b1)), (60, (vI n1)), (61, (vB b1)), (62, (vP g62)), (63, (vI fr)), (64, (vI to1)), (65, (vI wd)), (66, (vI wk)), (67, (vB b2)), (68, (vI wk)), (69, (vB b2))]) (hw : FS7 w0 A1 l1 c1 g55 k1 p1 g62 k2 p2 w) : B57.wp Tryz.prog (Ql w0) a w := by
  show Code.wp _ (Code.seq (Code.region 48 R48.toArray false) B56) _ _ _
  refine wp_seq ?_
  refine region_list ?_
  refine quiet_ 0 5 5 (F := FS7 w0 A1 l1 c1 g55 k1 p1 g62 k2 p2) (K := [(1, (.slice A1 l1.length c1)), (55, (vP g55)), (56, (vI wh)), (57, (vI at1)), (58, (vI n1)), (59, (vB b1)), (60, (vI n1)), (61, (vB b1)), (62, (vP g62)), (63, (vI fr)), (64, (vI to1)), (65, (vI wd)), (66, (vI wk)), (67, (vB b2)), (68, (vI wk)), (69, (vB b2)), (520, (vA k3 p3)), (521, (vI sf))]) (obs := [.call 30 [(.slice A1 l1.length c1)] (.tuple #[(vA k3 p3), (vI sf)])]) (by kernel_rfl) rfl ⟨⟨⟨_, Tryz.func30, by kernel_rfl, by kernel_rfl⟩, fun w hw => FS7.stays.calls hw (spec_DrawSideNumbers.calls _ _ _ _ _ _ _ (hw.2.2.1) (hw.2.2.2.1) (H.f48_1))⟩, trivial⟩ h hw ?_
  clear h hw
  intro a w h hw
  refine new25 (F := FS7 w0 A1 l1 c1 g55 k1 p1 g62 k2 p2) 5 7 (d := 70) (y := k3) (z := p3) (by kernel_rfl) rfl h FS7.stays hw ?_
  clear h hw
  intro g70 a w h hw
  replace hw : FS8 w0 A1 l1 c1 g55 k1 p1 g62 k2 p2 g70 k3 p3 w := ⟨hw.1.1, hw.1.2.1, hw.1.2.2.1, hw.1.2.2.2.1, hw.1.2.2.2.2.1, hw.1.2.2.2.2.2, hw.2⟩
  refine quiet_ 7 1 8 (F := FS8 w0 A1 l1 c1 g55 k1 p1 g62 k2 p2 g70 k3 p3) (K := [(1, (.slice A1 l1.length c1)), (55, (vP g55)), (56, (vI wh)), (57, (vI at1)), (58, (vI n1)), (59, (vB b1)), (60, (vI n1)), (61, (vB b1)), (62, (vP g62)), (63, (vI fr)), (64, (vI to1)), (65, (vI wd)), (66, (vI wk)), (67, (vB b2)), (68, (vI wk)), (69, (vB b2)), (70, (vP g70)), (71, (vI sf))]) (obs := []) (by kernel_rfl) rfl trivial h hw ?_
  clear h hw
  intro a w h hw
  refine end_ (by kernel_rfl) ?_
  show Code.wp _ B56 _ _ _
  exact t56 H h hw
theorem t58 (H : Facts kk l0 l1 k p n sd pl ok fac one nxt hs five txt lf rt sx sy k1 p1 wh at1 n1 b1 k2 p2 fr to1 wd wk b2 k3 p3 sf nu b3 su tw k4 p4 b4) {a : Act} {w : World} (h : Has 669 a [(1, (.slice A1 l1.length c1)), (55, (vP g55)), (56, (vI wh)), (57, (vI at1)), (58, (vI n1)), (59, (vB b1)), (60, (vI n1)), (61, (vB b1)), (62, (vP g62)), (63, (vI fr)), (64, (vI to1)), (65, (vI wd)), (66, (vI wk)), (67, (vB b2))]) (hw : FS7 w0 A1 l1 c1 g55 k1 p1 g62 k2 p2 w) : B58.wp Tryz.prog (Ql w0) a w := by
  show Code.wp _ (Code.seq (Code.region 47 R47.toArray false) B57) _ _ _
  refine wp_seq ?_
  refine region_ (F := FS7 w0 A1 l1 c1 g55 k1 p1 g62 k2 p2) (K := [(1, (.slice A1 l1.length c1)), (55, (vP g55)), (56, (vI wh)), (57, (vI at1)), (58, (vI n1)), (59, (vB b1)), (60, (vI n1)), (61, (vB b1)), (62, (vP g62)), (63, (vI fr)), (64, (vI to1)), (65, (vI wd)), (66, (vI wk)), (67, (vB b2)), (68, (vI wk)), (69, (vB b2))]) (obs := [lS 25 62 g62 k2 p2, .call 29 [(vA k2 p2), (vI fr), (vI to1), (vI wd)] (.tuple #[(vI wk), (vB b2)])]) (by kernel_rfl) mix rfl FS7.stays ⟨(ok_load25 (fun w hw => (hw.2.2.2.2.2))), ⟨⟨_, Tryz.func29, by kernel_rfl, by kernel_rfl⟩, fun w hw => FS7.stays.calls hw (spec_WalkBetween.calls _ _ _ _ _ _ _ _ _ (H.f47_4))⟩, trivial⟩ h hw ?_
  clear h hw
  intro a w h hw
  show Code.wp _ B57 _ _ _
  exact t57 H h hw
theorem t59 (H : Facts kk l0 l1 k p n sd pl ok fac one nxt hs five txt lf rt sx sy k1 p1 wh at1 n1 b1 k2 p2 fr to1 wd wk b2 k3 p3 sf nu b3 su tw k4 p4 b4) {a : Act} {w : World} (h : Has 669 a [(1, (.slice A1 l1.length c1)), (55, (vP g55)), (56, (vI wh)), (57, (vI at1)), (58, (vI n1)), (59, (vB b1)), (60, (vI n1)), (61, (vB b1)), (62, (vP g62)), (63, (vI fr)), (64, (vI to1)), (65, (vI wd))]) (hw : FS7 w0 A1 l1 c1 g55 k1 p1 g62 k2 p2 w) : B59.wp Tryz.prog (Ql w0) a w := by
  show Code.wp _ (Code.seq (Code.region 46 R46.toArray false) B58) _ _ _
  refine wp_seq ?_
  refine region_ (F := FS7 w0 A1 l1 c1 g55 k1 p1 g62 k2 p2) (K := [(1, (.slice A1 l1.length c1)), (55, (vP g55)), (56, (vI wh)), (57, (vI at1)), (58, (vI n1)), (59, (vB b1)), (60, (vI n1)), (61, (vB b1)), (62, (vP g62)), (63, (vI fr)), (64, (vI to1)), (65, (vI wd)), (66, (vI wk)), (67, (vB b2))]) (obs := [lS 25 62 g62 k2 p2, .call 21 [(vA k2 p2), (vI fr), (vI to1), (vI wd)] (.tuple #[(vI wk), (vB b2)])]) (by kernel_rfl) mix rfl FS7.stays ⟨(ok_load25 (fun w hw => (hw.2.2.2.2.2))), ⟨⟨_, Tryz.func21, by kernel_rfl, by kernel_rfl⟩, fun w hw => FS7.stays.calls hw (impl_WalkBetween.calls _ _ _ _ _ _ _ _ _ (H.f46_4))⟩, trivial⟩ h hw ?_
  clear h hw
  intro a w h hw
  show Code.wp _ B58 _ _ _
  exact t58 H h hw
theorem t60 (H : Facts kk l0 l1 k p n sd pl ok fac one nxt hs five txt lf rt sx sy k1 p1 wh at1 n1 b1 k2 p2 fr to1 wd wk b2 k3 p3 sf nu b3 su tw k4 p4 b4) {a : Act} {w : World} (h : Has 669 a [(1, (.slice A1 l1.length c1)), (55, (vP g55)), (56, (vI wh)), (57, (vI at1)), (58, (vI n1)), (59, (vB b1)), (60, (vI n1)), (61, (vB b1))]) (hw : FS6 w0 A1 l1 c1 g55 k1 p1 w) : B60.wp Tryz.prog (Ql w0) a w := by
  show Code.wp _ (Code.seq (Code.region 45 R45.toArray false) B59) _ _ _
  refine wp_seq ?_
  refine region_list ?_
  refine quiet_ 0 7 7 (F := FS6 w0 A1 l1 c1 g55 k1 p1) (K := [(1, (.slice A1 l1.length c1)), (55, (vP g55)), (56, (vI wh)), (57, (vI at1)), (58, (vI n1)), (59, (vB b1)), (60, (vI n1)), (61, (vB b1)), (497, (vA k2 p2)), (498, (vI fr)), (499, (vI to1)), (500, (vI wd))]) (obs := [.call 28 [(.slice A1 l1.length c1)] (.tuple #[(vA k2 p2), (vI fr), (vI to1), (vI wd)])]) (by kernel_rfl) rfl ⟨⟨⟨_, Tryz.func28, by kernel_rfl, by kernel_rfl⟩, fun w hw => FS6.stays.calls hw (spec_DrawWalkBetween.calls _ _ _ _ _ _ _ _ _ _ (hw.2.2.1) (hw.2.2.2.1) (H.f45_1))⟩, trivial⟩ h hw ?_
  clear h hw
  intro a w h hw
  refine new25 (F := FS6 w0 A1 l1 c1 g55 k1 p1) 7 9 (d := 62) (y := k2) (z := p2) (by kernel_rfl) rfl h FS6.stays hw ?_
  clear h hw
  intro g62 a w h hw
  replace hw : FS7 w0 A1 l1 c1 g55 k1 p1 g62 k2 p2 w := ⟨hw.1.1, hw.1.2.1, hw.1.2.2.1, hw.1.2.2.2.1, hw.1.2.2.2.2, hw.2⟩
  refine quiet_ 9 3 12 (F := FS7 w0 A1 l1 c1 g55 k1 p1 g62 k2 p2) (K := [(1, (.slice A1 l1.length c1)), (55, (vP g55)), (56, (vI wh)), (57, (vI at1)), (58, (vI n1)), (59, (vB b1)), (60, (vI n1)), (61, (vB b1)), (62, (vP g62)), (63, (vI fr)), (64, (vI to1)), (65, (vI wd))]) (obs := []) (by kernel_rfl) rfl trivial h hw ?_
  clear h hw
  intro a w h hw
  refine end_ (by kernel_rfl) ?_
  show Code.wp _ B59 _ _ _
  exact t59 H h hw
theorem t61 (H : Facts kk l0 l1 k p n sd pl ok fac one nxt hs five txt lf rt sx sy k1 p1 wh at1 n1 b1 k2 p2 fr to1 wd wk b2 k3 p3 sf nu b3 su tw k4 p4 b4) {a : Act} {w : World} (h : Has 669 a [(1, (.slice A1 l1.length c1)), (55, (vP g55)), (56, (vI wh)), (57, (vI at1)), (58, (vI n1)), (59, (vB b1))]) (hw : FS6 w0 A1 l1 c1 g55 k1 p1 w) : B61.wp Tryz.prog (Ql w0) a w := by
  show Code.wp _ (Code.seq (Code.region 44 R44.toArray false) B60) _ _ _
  refine wp_seq ?_
  refine region_ (F := FS6 w0 A1 l1 c1 g55 k1 p1) (K := [(1, (.slice A1 l1.length c1)), (55, (vP g55)), (56, (vI wh)), (57, (vI at1)), (58, (vI n1)), (59, (vB b1)), (60, (vI n1)), (61, (vB b1))]) (obs := [lS 25 55 g55 k1 p1, .call 27 [(vA k1 p1), (vI wh), (vI at1)] (.tuple #[(vI n1), (vB b1)])]) (by kernel_rfl) mix rfl FS6.stays ⟨(ok_load25 (fun w hw => (hw.2.2.2.2))), ⟨⟨_, Tryz.func27, by kernel_rfl, by kernel_rfl⟩, fun w hw => FS6.stays.calls hw (spec_NumberAt.calls _ _ _ _ _ _ _ (H.f44_3))⟩, trivial⟩ h hw ?_
  clear h hw
  intro a w h hw
  show Code.wp _ B60 _ _ _
  exact t60 H h hw
theorem t62 (H : Facts kk l0 l1 k p n sd pl ok fac one nxt hs five txt lf rt sx sy k1 p1 wh at1 n1 b1 k2 p2 fr to1 wd wk b2 k3 p3 sf nu b3 su tw k4 p4 b4) {a : Act} {w : World} (h : Has 669 a [(1, (.slice A1 l1.length c1)), (55, (vP g55)), (56, (vI wh)), (57, (vI at1))]) (hw : FS6 w0 A1 l1 c1 g55 k1 p1 w) : B62.wp Tryz.prog (Ql w0) a w := by
  show Code.wp _ (Code.seq (Code.region 43 R43.toArray false) B61) _ _ _
  refine wp_seq ?_
  refine region_ (F := FS6 w0 A1 l1 c1 g55 k1 p1) (K := [(1, (.slice A1 l1.length c1)), (55, (vP g55)), (56, (vI wh)), (57, (vI at1)), (58, (vI n1)), (59, (vB b1))]) (obs := [lS 25 55 g55 k1 p1, .call 19 [(vA k1 p1), (vI wh), (vI at1)] (.tuple #[(vI n1), (vB b1)])]) (by kernel_rfl) mix rfl FS6.stays ⟨(ok_load25 (fun w hw => (hw.2.2.2.2))), ⟨⟨_, Tryz.func19, by kernel_rfl, by kernel_rfl⟩, fun w hw => FS6.stays.calls hw (impl_NumberAt.calls _ _ _ _ _ _ _ (H.f43_3))⟩, trivial⟩ h hw ?_
  clear h hw
  intro a w h hw
  show Code.wp _ B61 _ _ _
  exact t61 H h hw
theorem t63 (H : Facts kk l0 l1 k p n sd pl ok fac one nxt hs five txt lf rt sx sy k1 p1 wh at1 n1 b1 k2 p2 fr to1 wd wk b2 k3 p3 sf nu b3 su tw k4 p4 b4) {a : Act} {w : World} (h : Has 669 a [(1, (.slice A1 l1.length c1))]) (hw : FS5 w0 A1 l1 c1 w) : B63.wp Tryz.prog (Ql w0) a w := by
  show Code.wp _ (Code.seq (Code.region 42 R42.toArray false) B62) _ _ _
  refine wp_seq ?_
  refine region_list ?_
  refine quiet_ 0 6 6 (F := FS5 w0 A1 l1 c1) (K := [(1, (.slice A1 l1.length c1)), (477, (vA k1 p1)), (478, (vI wh)), (479, (vI at1))]) (obs := [.call 26 [(.slice A1 l1.length c1)] (.tuple #[(vA k1 p1), (vI wh), (vI at1)])]) (by kernel_rfl) rfl ⟨⟨⟨_, Tryz.func26, by kernel_rfl, by kernel_rfl⟩, fun w hw => FS5.stays.calls hw (spec_DrawNumberAt.calls _ _ _ _ _ _ _ _ (hw.2.2.1) (hw.2.2.2) (H.f42_1))⟩, trivial⟩ h hw ?_
  clear h hw
  intro a w h hw
  refine new25 (F := FS5 w0 A1 l1 c1) 6 8 (d := 55) (y := k1) (z := p1) (by kernel_rfl) rfl h FS5.stays hw ?_
  clear h hw
  intro g55 a w h hw
  replace hw : FS6 w0 A1 l1 c1 g55 k1 p1 w := ⟨hw.1.1, hw.1.2.1, hw.1.2.2.1, hw.1.2.2.2, hw.2⟩
  refine quiet_ 8 2 10 (F := FS6 w0 A1 l1 c1 g55 k1 p1) (K := [(1, (.slice A1 l1.length c1)), (55, (vP g55)), (56, (vI wh)), (57, (vI at1))]) (obs := []) (by kernel_rfl) rfl trivial h hw ?_
  clear h hw
  intro a w h hw
  refine end_ (by kernel_rfl) ?_
  show Code.wp _ B62 _ _ _
  exact t62 H h hw
theorem t25 (H : Facts kk l0 l1 k p n sd pl ok fac one nxt hs true txt lf rt sx sy k1 p1 wh at1 n1 b1 k2 p2 fr to1 wd wk b2 k3 p3 sf nu b3 su tw k4 p4 b4) {a : Act} {w : World} (h : Has 669 a [(1, (.slice A1 l1.length c1)), (5, (vP g5)), (21, (vI hs)), (45, (.slice A396_0 lf.length c396_0)), (46, (vB true)), (47, (.slice A401_0 rt.length c401_0)), (48, (vB true)), (49, (vI sx)), (50, (vB true)), (51, (vI sy)), (52, (vB true)), (53, (vP g53)), (54, (vB true))]) (hw : FS21 w0 A1 l1 c1 g5 k p A396_0 lf c396_0 A401_0 rt c401_0 g53 w) : B25.wp Tryz.prog (Exit.then (fun a w => Code.wp Tryz.prog B63 (Ql w0) a w) (Ql w0)) a w := by
  show Code.wp _ (Code.seq (Code.region 40 R40.toArray false) (Code.cond (Operand.tmp 473) B24 Code.skip)) _ _ _
  refine wp_seq ?_
  refine region_ (F := FS21 w0 A1 l1 c1 g5 k p A396_0 lf c396_0 A401_0 rt c401_0 g53) (K := [(1, (.slice A1 l1.length c1)), (473, (vB false))]) (obs := [.call 25 [(.slice A396_0 lf.length c396_0)] (vI sx), cI .neq 435 436 sx sx false, .call 25 [(.slice A401_0 rt.length c401_0)] (vI sy), cI .neq 441 442 sy sy false, .op (Op.binOp BinOp.add 3 (Operand.tmp 446) (Operand.tmp 447) 3) 3 [((Operand.tmp 446), (vI sx)), ((Operand.tmp 447), (vI sy))] (vI (wrap64 (sx + sy))), .op (Op.binOp BinOp.add 3 (Operand.tmp 450) (Operand.const (Value.int IntKind.i64 1)) 3) 3 [((Operand.tmp 450), (vI hs)), ((Operand.const (Value.int IntKind.i64 1)), (vI 1))] (vI (wrap64 (hs + 1))), .op (Op.binOp BinOp.mul 3 (Operand.tmp 449) (Operand.tmp 451) 3) 3 [((Operand.tmp 449), (vI hs)), ((Operand.tmp 451), (vI (wrap64 (hs + 1))))] (vI (wrap64 (hs * (wrap64 (hs + 1))))), .op (Op.binOp BinOp.quo 3 (Operand.tmp 452) (Operand.const (Value.int IntKind.i64 2)) 3) 3 [((Operand.tmp 452), (vI (wrap64 (hs * (wrap64 (hs + 1)))))), ((Operand.const (Value.int IntKind.i64 2)), (vI 2))] (vI (wrap64 (Int.tdiv (wrap64 (hs * (wrap64 (hs + 1)))) 2))), cI .neq 448 453 (wrap64 (sx + sy)) (wrap64 (Int.tdiv (wrap64 (hs * (wrap64 (hs + 1)))) 2)) false, .op (Op.call { callee := (Callee.builtin Builtin.len), args := #[(Operand.tmp 457)], argTypes := #[32] }) 3 [((Operand.tmp 457), (.slice A396_0 lf.length c396_0))] (vI (lf.length : Int)), .op (Op.call { callee := (Callee.builtin Builtin.len), args := #[(Operand.tmp 459)], argTypes := #[32] }) 3 [((Operand.tmp 459), (.slice A401_0 rt.length c401_0))] (vI (rt.length : Int)), .op (Op.binOp BinOp.add 3 (Operand.tmp 458) (Operand.tmp 460) 3) 3 [((Operand.tmp 458), (vI (lf.length : Int))), ((Operand.tmp 460), (vI (rt.length : Int)))] (vI (wrap64 ((lf.length : Int) + (rt.length : Int)))), cI .neq 461 462 (wrap64 ((lf.length : Int) + (rt.length : Int))) hs false, lS 25 53 g53 k p, lS 25 5 g5 k p, .op (Op.binOp BinOp.neq 25 (Operand.tmp 470) (Operand.tmp 471) 25) 4 [((Operand.tmp 470), (vA k p)), ((Operand.tmp 471), (vA k p))] (vB false)]) (by kernel_rfl) mix rfl FS21.stays ⟨⟨⟨_, Tryz.func25, by kernel_rfl, by kernel_rfl⟩, fun w hw => FS21.stays.callsD hw (laws_zSum.calls _ _ _ _ _ _ (hw.2.2.2.2.2.1) (hw.2.2.2.2.2.2.1) (H.f40_16 rfl))⟩, (ok_neq_int (bne_self_eq_false _)), ⟨⟨_, Tryz.func25, by kernel_rfl, by kernel_rfl⟩, fun w hw => FS21.stays.callsD hw (laws_zSum.calls _ _ _ _ _ _ (hw.2.2.2.2.2.2.2.1) (hw.2.2.2.2.2.2.2.2.1) (H.f40_22 rfl))⟩, (ok_neq_int (bne_self_eq_false _)), (ok_add_int rfl), (ok_add_int rfl), (ok_mul_int rfl), (ok_quo_int (by decide) rfl), (ok_neq_int (bne_eq_false_iff_eq.mpr (H.hsum rfl))), (ok_len Tryz.underlying32), (ok_len Tryz.underlying32), (ok_add_int rfl), (ok_neq_int (bne_eq_false_iff_eq.mpr (H.hcnt rfl))), (ok_load25 (fun w hw => (hw.2.2.2.2.2.2.2.2.2))), (ok_load25 (fun w hw => (hw.2.2.2.2.1))), (ok_neq25 (by simp)), trivial⟩ h hw ?_
  clear h hw
  intro a w h hw
  show Code.wp _ (Code.cond (Operand.tmp 473) B24 Code.skip) _ _ _
  refine wp_cond_false (h.opd (by kernel_rfl)) ?_
  refine wp_skip ?_
  show Code.wp _ B63 _ _ _
  exact t63 H (h.cut (by kernel_rfl)) ⟨hw.1, hw.2.1, hw.2.2.1, hw.2.2.2.1⟩
theorem t26 (H : Facts kk l0 l1 k p n sd pl ok fac one nxt hs true txt lf rt sx sy k1 p1 wh at1 n1 b1 k2 p2 fr to1 wd wk b2 k3 p3 sf nu b3 su tw k4 p4 b4) {a : Act} {w : World} (h : Has 669 a [(1, (.slice A1 l1.length c1)), (5, (vP g5)), (21, (vI hs)), (25, (.string txt)), (45, (.slice A396_0 lf.length c396_0)), (46, (vB true)), (47, (.slice A401_0 rt.length c401_0)), (48, (vB true)), (49, (vI sx)), (50, (vB true)), (51, (vI sy)), (52, (vB true))]) (hw : FS20 w0 A1 l1 c1 g5 k p A396_0 lf c396_0 A401_0 rt c401_0 w) : B26.wp Tryz.prog (Exit.then (fun a w => Code.wp Tryz.prog B63 (Ql w0) a w) (Ql w0)) a w := by
  show Code.wp _ (Code.seq (Code.region 39 R39.toArray false) B25) _ _ _
  refine wp_seq ?_
  refine region_list ?_
  refine quiet_ 0 5 5 (F := FS20 w0 A1 l1 c1 g5 k p A396_0 lf c396_0 A401_0 rt c401_0) (K := [(1, (.slice A1 l1.length c1)), (5, (vP g5)), (21, (vI hs)), (45, (.slice A396_0 lf.length c396_0)), (46, (vB true)), (47, (.slice A401_0 rt.length c401_0)), (48, (vB true)), (49, (vI sx)), (50, (vB true)), (51, (vI sy)), (52, (vB true)), (417, (vA k p)), (418, (vB true))]) (obs := [.call 24 [(.string txt)] (.tuple #[(vA k p), (vB true)])]) (by kernel_rfl) rfl ⟨⟨⟨_, Tryz.func24, by kernel_rfl, by kernel_rfl⟩, fun w hw => FS20.stays.calls hw (impl_ParseStreet.calls _ _ _ _ _ (H.f39_1 rfl) (hw.2.1))⟩, trivial⟩ h hw ?_
  clear h hw
  intro a w h hw
  refine new25 (F := FS20 w0 A1 l1 c1 g5 k p A396_0 lf c396_0 A401_0 rt c401_0) 5 7 (d := 53) (y := k) (z := p) (by kernel_rfl) rfl h FS20.stays hw ?_
  clear h hw
  intro g53 a w h hw
  replace hw : FS21 w0 A1 l1 c1 g5 k p A396_0 lf c396_0 A401_0 rt c401_0 g53 w := ⟨hw.1.1, hw.1.2.1, hw.1.2.2.1, hw.1.2.2.2.1, hw.1.2.2.2.2.1, hw.1.2.2.2.2.2.1, hw.1.2.2.2.2.2.2.1, hw.1.2.2.2.2.2.2.2.1, hw.1.2.2.2.2.2.2.2.2, hw.2⟩
  refine quiet_ 7 1 8 (F := FS21 w0 A1 l1 c1 g5 k p A396_0 lf c396_0 A401_0 rt c401_0 g53) (K := [(1, (.slice A1 l1.length c1)), (5, (vP g5)), (21, (vI hs)), (45, (.slice A396_0 lf.length c396_0)), (46, (vB true)), (47, (.slice A401_0 rt.length c401_0)), (48, (vB true)), (49, (vI sx)), (50, (vB true)), (51, (vI sy)), (52, (vB true)), (53, (vP g53)), (54, (vB true))]) (obs := []) (by kernel_rfl) rfl trivial h hw ?_
  clear h hw
  intro a w h hw
  refine end_ (by kernel_rfl) ?_
  show Code.wp _ B25 _ _ _
  exact t25 H h hw
theorem t27 (H : Facts kk l0 l1 k p n sd pl ok fac one nxt hs true txt lf rt sx sy k1 p1 wh at1 n1 b1 k2 p2 fr to1 wd wk b2 k3 p3 sf nu b3 su tw k4 p4 b4) {a : Act} {w : World} (h : Has 669 a [(1, (.slice A1 l1.length c1)), (5, (vP g5)), (21, (vI hs)), (25, (.string txt)), (45, (.slice A396_0 lf.length c396_0)), (46, (vB true)), (47, (.slice A401_0 rt.length c401_0)), (48, (vB true)), (49, (vI sx)), (50, (vB true))]) (hw : FS20 w0 A1 l1 c1 g5 k p A396_0 lf c396_0 A401_0 rt c401_0 w) : B27.wp Tryz.prog (Exit.then (fun a w => Code.wp Tryz.prog B63 (Ql w0) a w) (Ql w0)) a w := by
  show Code.wp _ (Code.seq (Code.region 38 R38.toArray false) B26) _ _ _
  refine wp_seq ?_
  refine region_ (F := FS20 w0 A1 l1 c1 g5 k p A396_0 lf c396_0 A401_0 rt c401_0) (K := [(1, (.slice A1 l1.length c1)), (5, (vP g5)), (21, (vI hs)), (25, (.string txt)), (45, (.slice A396_0 lf.length c396_0)), (46, (vB true)), (47, (.slice A401_0 rt.length c401_0)), (48, (vB true)), (49, (vI sx)), (50, (vB true)), (51, (vI sy)), (52, (vB true))]) (obs := [lS 25 5 g5 k p, .call 23 [(vA k p), (vI 1)] (.tuple #[(vI sy), (vB true)])]) (by kernel_rfl) mix rfl FS20.stays ⟨(ok_load25 (fun w hw => (hw.2.2.2.2.1))), ⟨⟨_, Tryz.func23, by kernel_rfl, by kernel_rfl⟩, fun w hw => FS20.stays.calls hw (impl_SideSum.calls _ _ _ _ _ _ _ (H.f38_1 rfl))⟩, trivial⟩ h hw ?_
  clear h hw
  intro a w h hw
  show Code.wp _ B26 _ _ _
  exact t26 H h hw
theorem t28 (H : Facts kk l0 l1 k p n sd pl ok fac one nxt hs true txt lf rt sx sy k1 p1 wh at1 n1 b1 k2 p2 fr to1 wd wk b2 k3 p3 sf nu b3 su tw k4 p4 b4) {a : Act} {w : World} (h : Has 669 a [(1, (.slice A1 l1.length c1)), (5, (vP g5)), (21, (vI hs)), (25, (.string txt)), (45, (.slice A396_0 lf.length c396_0)), (46, (vB true)), (47, (.slice A401_0 rt.length c401_0)), (48, (vB true))]) (hw : FS20 w0 A1 l1 c1 g5 k p A396_0 lf c396_0 A401_0 rt c401_0 w) : B28.wp Tryz.prog (Exit.then (fun a w => Code.wp Tryz.prog B63 (Ql w0) a w) (Ql w0)) a w := by
  show Code.wp _ (Code.seq (Code.region 37 R37.toArray false) B27) _ _ _
  refine wp_seq ?_
  refine region_ (F := FS20 w0 A1 l1 c1 g5 k p A396_0 lf c396_0 A401_0 rt c401_0) (K := [(1, (.slice A1 l1.length c1)), (5, (vP g5)), (21, (vI hs)), (25, (.string txt)), (45, (.slice A396_0 lf.length c396_0)), (46, (vB true)), (47, (.slice A401_0 rt.length c401_0)), (48, (vB true)), (49, (vI sx)), (50, (vB true))]) (obs := [lS 25 5 g5 k p, .call 23 [(vA k p), (vI 0)] (.tuple #[(vI sx), (vB true)])]) (by kernel_rfl) mix rfl FS20.stays ⟨(ok_load25 (fun w hw => (hw.2.2.2.2.1))), ⟨⟨_, Tryz.func23, by kernel_rfl, by kernel_rfl⟩, fun w hw => FS20.stays.calls hw (impl_SideSum.calls _ _ _ _ _ _ _ (H.f37_1 rfl))⟩, trivial⟩ h hw ?_
  clear h hw
  intro a w h hw
  show Code.wp _ B27 _ _ _
  exact t27 H h hw
theorem t29 (H : Facts kk l0 l1 k p n sd pl ok fac one nxt hs true txt lf rt sx sy k1 p1 wh at1 n1 b1 k2 p2 fr to1 wd wk b2 k3 p3 sf nu b3 su tw k4 p4 b4) {a : Act} {w : World} (h : Has 669 a [(1, (.slice A1 l1.length c1)), (5, (vP g5)), (21, (vI hs)), (25, (.string txt)), (45, (.slice A396_0 lf.length c396_0)), (46, (vB true))]) (hw : FS19 w0 A1 l1 c1 g5 k p A396_0 lf c396_0 w) : B29.wp Tryz.prog (Exit.then (fun a w => Code.wp Tryz.prog B63 (Ql w0) a w) (Ql w0)) a w := by
  show Code.wp _ (Code.seq (Code.region 36 R36.toArray false) B28) _ _ _
  refine wp_seq ?_
  refine region_list ?_
  refine quiet_ 0 1 1 (F := FS19 w0 A1 l1 c1 g5 k p A396_0 lf c396_0) (K := [(1, (.slice A1 l1.length c1)), (5, (vP g5)), (21, (vI hs)), (25, (.string txt)), (45, (.slice A396_0 lf.length c396_0)), (46, (vB true)), (400, (vA k p))]) (obs := [lS 25 5 g5 k p]) (by kernel_rfl) rfl ⟨(ok_load25 (fun w hw => (hw.2.2.2.2.1))), trivial⟩ h hw ?_
  clear h hw
  intro a w h hw
  refine made_ (σ := Option Addr × Nat) (F := FS19 w0 A1 l1 c1 g5 k p A396_0 lf c396_0) 1 2 (f := 22) (d := 401) (vs := [(vA k p), (vI 1)]) (by kernel_rfl) rfl h hw Tryz.func22 (by kernel_rfl) (by kernel_rfl) (fun s => (.tuple #[(.slice s.1 rt.length s.2), (vB true)])) (fun s w => FS20 w0 A1 l1 c1 g5 k p A396_0 lf c396_0 s.1 rt s.2 w) ?_ ?_
  · intro w hw
    refine (impl_SideNumbers.calls _ _ _ _ _ _ _ (H.f36_1 rfl)).mono ?_
    rintro e w' ⟨v0_, he, hR0, hb⟩
    obtain ⟨A0_, c0_, rfl, hc0_, hC0_⟩ := Kd.R_reads hR0
    have hw' := FS19.stays w w' hw hb
    exact ⟨(A0_, c0_), he, ⟨hw'.1, hw'.2.1, hw'.2.2.1, hw'.2.2.2.1, hw'.2.2.2.2.1, hw'.2.2.2.2.2.1, hw'.2.2.2.2.2.2, hC0_, hc0_⟩⟩
  clear h hw
  rintro ⟨A401_0, c401_0⟩ a w h hw
  replace hw : FS20 w0 A1 l1 c1 g5 k p A396_0 lf c396_0 A401_0 rt c401_0 w := hw
  replace h : Has 669 a ((401, (.tuple #[(.slice A401_0 rt.length c401_0), (vB true)])) :: [(1, (.slice A1 l1.length c1)), (5, (vP g5)), (21, (vI hs)), (25, (.string txt)), (45, (.slice A396_0 lf.length c396_0)), (46, (vB true)), (400, (vA k p))]) := h
  refine quiet_ 2 5 7 (F := FS20 w0 A1 l1 c1 g5 k p A396_0 lf c396_0 A401_0 rt c401_0) (K := [(1, (.slice A1 l1.length c1)), (5, (vP g5)), (21, (vI hs)), (25, (.string txt)), (45, (.slice A396_0 lf.length c396_0)), (46, (vB true)), (47, (.slice A401_0 rt.length c401_0)), (48, (vB true))]) (obs := []) (by kernel_rfl) rfl trivial h hw ?_
  clear h hw
  intro a w h hw
  refine end_ (by kernel_rfl) ?_
  show Code.wp _ B28 _ _ _
  exact t28 H h hw
theorem t30 (H : Facts kk l0 l1 k p n sd pl ok fac one nxt hs true txt lf rt sx sy k1 p1 wh at1 n1 b1 k2 p2 fr to1 wd wk b2 k3 p3 sf nu b3 su tw k4 p4 b4) {a : Act} {w : World} (h : Has 669 a [(1, (.slice A1 l1.length c1)), (5, (vP g5)), (21, (vI hs)), (25, (.string txt))]) (hw : FS2 w0 A1 l1 c1 g5 k p w) : B30.wp Tryz.prog (Exit.then (fun a w => Code.wp Tryz.prog B63 (Ql w0) a w) (Ql w0)) a w := by
  show Code.wp _ (Code.seq (Code.region 35 R35.toArray false) B29) _ _ _
  refine wp_seq ?_
  refine region_list ?_
  refine quiet_ 0 1 1 (F := FS2 w0 A1 l1 c1 g5 k p) (K := [(1, (.slice A1 l1.length c1)), (5, (vP g5)), (21, (vI hs)), (25, (.string txt)), (395, (vA k p))]) (obs := [lS 25 5 g5 k p]) (by kernel_rfl) rfl ⟨(ok_load25 (fun w hw => (hw.2.2.2.2))), trivial⟩ h hw ?_
  clear h hw
  intro a w h hw
  refine made_ (σ := Option Addr × Nat) (F := FS2 w0 A1 l1 c1 g5 k p) 1 2 (f := 22) (d := 396) (vs := [(vA k p), (vI 0)]) (by kernel_rfl) rfl h hw Tryz.func22 (by kernel_rfl) (by kernel_rfl) (fun s => (.tuple #[(.slice s.1 lf.length s.2), (vB true)])) (fun s w => FS19 w0 A1 l1 c1 g5 k p s.1 lf s.2 w) ?_ ?_
  · intro w hw
    refine (impl_SideNumbers.calls _ _ _ _ _ _ _ (H.f35_1 rfl)).mono ?_
    rintro e w' ⟨v0_, he, hR0, hb⟩
    obtain ⟨A0_, c0_, rfl, hc0_, hC0_⟩ := Kd.R_reads hR0
    have hw' := FS2.stays w w' hw hb
    exact ⟨(A0_, c0_), he, ⟨hw'.1, hw'.2.1, hw'.2.2.1, hw'.2.2.2.1, hw'.2.2.2.2, hC0_, hc0_⟩⟩
  clear h hw
  rintro ⟨A396_0, c396_0⟩ a w h hw
  replace hw : FS19 w0 A1 l1 c1 g5 k p A396_0 lf c396_0 w := hw
  replace h : Has 669 a ((396, (.tuple #[(.slice A396_0 lf.length c396_0), (vB true)])) :: [(1, (.slice A1 l1.length c1)), (5, (vP g5)), (21, (vI hs)), (25, (.string txt)), (395, (vA k p))]) := h
  refine quiet_ 2 5 7 (F := FS19 w0 A1 l1 c1 g5 k p A396_0 lf c396_0) (K := [(1, (.slice A1 l1.length c1)), (5, (vP g5)), (21, (vI hs)), (25, (.string txt)), (45, (.slice A396_0 lf.length c396_0)), (46, (vB true))]) (obs := []) (by kernel_rfl) rfl trivial h hw ?_
  clear h hw
  intro a w h hw
  refine end_ (by kernel_rfl) ?_
  show Code.wp _ B29 _ _ _
  exact t29 H h hw
theorem t64 (H : Facts kk l0 l1 k p n sd pl ok fac one nxt hs five txt lf rt sx sy k1 p1 wh at1 n1 b1 k2 p2 fr to1 wd wk b2 k3 p3 sf nu b3 su tw k4 p4 b4) {a : Act} {w : World} (h : Has 669 a [(1, (.slice A1 l1.length c1)), (5, (vP g5)), (21, (vI hs)), (22, (vB five)), (25, (.string txt))]) (hw : FS2 w0 A1 l1 c1 g5 k p w) : B64.wp Tryz.prog (Ql w0) a w := by
  show Code.wp _ (Code.seq B31 B63) _ _ _
  refine wp_seq ?_
  show Code.wp _ (Code.seq (Code.region 34 R34.toArray false) (Code.cond (Operand.tmp 393) B30 Code.skip)) _ _ _
  refine wp_seq ?_
  refine region_ (F := FS2 w0 A1 l1 c1 g5 k p) (K := [(1, (.slice A1 l1.length c1)), (5, (vP g5)), (21, (vI hs)), (25, (.string txt)), (393, (vB five))]) (obs := []) (by kernel_rfl) mix rfl FS2.stays trivial h hw ?_
  clear h hw
  intro a w h hw
  show Code.wp _ (Code.cond (Operand.tmp 393) B30 Code.skip) _ _ _
  cases five with
  | true =>
    refine wp_cond_true (h.opd (by kernel_rfl)) ?_
    exact t30 H (h.cut (by kernel_rfl)) hw
  | false =>
    refine wp_cond_false (h.opd (by kernel_rfl)) ?_
    refine wp_skip ?_
    show Code.wp _ B63 _ _ _
    exact t63 H (h.cut (by kernel_rfl)) ⟨hw.1, hw.2.1, hw.2.2.1, hw.2.2.2.1⟩
theorem t19 (H : Facts kk l0 l1 k p n sd pl ok fac true nxt hs five txt lf rt sx sy k1 p1 wh at1 n1 b1 k2 p2 fr to1 wd wk b2 k3 p3 sf nu b3 su tw k4 p4 b4) {a : Act} {w : World} (h : Has 669 a [(1, (.slice A1 l1.length c1)), (5, (vP g5)), (6, (vI n)), (7, (vI sd)), (8, (vI pl)), (21, (vI hs)), (22, (vB five)), (25, (.string txt)), (38, (vI n)), (39, (vB true)), (40, (vI (wrap64 (1 - sd)))), (41, (vI pl)), (42, (vB true)), (43, (vI 7)), (44, (vB true))]) (hw : FS2 w0 A1 l1 c1 g5 k p w) : B19.wp Tryz.prog (Exit.then (fun a w => Code.wp Tryz.prog B64 (Ql w0) a w) (Ql w0)) a w := by
  show Code.wp _ (Code.seq (Code.region 32 R32.toArray false) (Code.cond (Operand.tmp 392) B18 Code.skip)) _ _ _
  refine wp_seq ?_
  refine region_ (F := FS2 w0 A1 l1 c1 g5 k p) (K := [(1, (.slice A1 l1.length c1)), (5, (vP g5)), (21, (vI hs)), (22, (vB five)), (25, (.string txt)), (392, (vB false))]) (obs := [cI .neq 366 367 n n false, .op (Op.binOp BinOp.sub 3 (Operand.const (Value.int IntKind.i64 1)) (Operand.tmp 376) 3) 3 [((Operand.const (Value.int IntKind.i64 1)), (vI 1)), ((Operand.tmp 376), (vI sd))] (vI (wrap64 (1 - sd))), cI .neq 375 377 (wrap64 (1 - sd)) (wrap64 (1 - sd)) false, cI .neq 381 382 pl pl false, cK .neq 390 7 7 false]) (by kernel_rfl) mix rfl FS2.stays ⟨(ok_neq_int (bne_self_eq_false _)), (ok_sub_int rfl), (ok_neq_int (bne_self_eq_false _)), (ok_neq_int (bne_self_eq_false _)), (ok_neq_int (bne_self_eq_false _)), trivial⟩ h hw ?_
  clear h hw
  intro a w h hw
  show Code.wp _ (Code.cond (Operand.tmp 392) B18 Code.skip) _ _ _
  refine wp_cond_false (h.opd (by kernel_rfl)) ?_
  refine wp_skip ?_
  show Code.wp _ B64 _ _ _
  exact t64 H (h.cut (by kernel_rfl)) hw
theorem t20 (H : Facts kk l0 l1 k p n sd pl ok fac true nxt hs five txt lf rt sx sy k1 p1 wh at1 n1 b1 k2 p2 fr to1 wd wk b2 k3 p3 sf nu b3 su tw k4 p4 b4) {a : Act} {w : World} (h : Has 669 a [(1, (.slice A1 l1.length c1)), (5, (vP g5)), (6, (vI n)), (7, (vI sd)), (8, (vI pl)), (13, (vI fac)), (21, (vI hs)), (22, (vB five)), (25, (.string txt)), (38, (vI n)), (39, (vB true)), (40, (vI (wrap64 (1 - sd)))), (41, (vI pl)), (42, (vB true))]) (hw : FS2 w0 A1 l1 c1 g5 k p w) : B20.wp Tryz.prog (Exit.then (fun a w => Code.wp Tryz.prog B64 (Ql w0) a w) (Ql w0)) a w := by
  show Code.wp _ (Code.seq (Code.region 31 R31.toArray false) B19) _ _ _
  refine wp_seq ?_
  refine region_ (F := FS2 w0 A1 l1 c1 g5 k p) (K := [(1, (.slice A1 l1.length c1)), (5, (vP g5)), (6, (vI n)), (7, (vI sd)), (8, (vI pl)), (21, (vI hs)), (22, (vB five)), (25, (.string txt)), (38, (vI n)), (39, (vB true)), (40, (vI (wrap64 (1 - sd)))), (41, (vI pl)), (42, (vB true)), (43, (vI 7)), (44, (vB true))]) (obs := [lS 25 5 g5 k p, .call 21 [(vA k p), (vI n), (vI fac), (vI 7)] (.tuple #[(vI 7), (vB true)])]) (by kernel_rfl) mix rfl FS2.stays ⟨(ok_load25 (fun w hw => (hw.2.2.2.2))), ⟨⟨_, Tryz.func21, by kernel_rfl, by kernel_rfl⟩, fun w hw => FS2.stays.calls hw (impl_WalkBetween.calls _ _ _ _ _ _ _ _ _ (H.f31_3 rfl))⟩, trivial⟩ h hw ?_
  clear h hw
  intro a w h hw
  show Code.wp _ B19 _ _ _
  exact t19 H h hw
theorem t21 (H : Facts kk l0 l1 k p n sd pl ok fac true nxt hs five txt lf rt sx sy k1 p1 wh at1 n1 b1 k2 p2 fr to1 wd wk b2 k3 p3 sf nu b3 su tw k4 p4 b4) {a : Act} {w : World} (h : Has 669 a [(1, (.slice A1 l1.length c1)), (5, (vP g5)), (6, (vI n)), (7, (vI sd)), (8, (vI pl)), (13, (vI fac)), (21, (vI hs)), (22, (vB five)), (25, (.string txt)), (38, (vI n)), (39, (vB true))]) (hw : FS2 w0 A1 l1 c1 g5 k p w) : B21.wp Tryz.prog (Exit.then (fun a w => Code.wp Tryz.prog B64 (Ql w0) a w) (Ql w0)) a w := by
  show Code.wp _ (Code.seq (Code.region 30 R30.toArray false) B20) _ _ _
  refine wp_seq ?_
  refine region_ (F := FS2 w0 A1 l1 c1 g5 k p) (K := [(1, (.slice A1 l1.length c1)), (5, (vP g5)), (6, (vI n)), (7, (vI sd)), (8, (vI pl)), (13, (vI fac)), (21, (vI hs)), (22, (vB five)), (25, (.string txt)), (38, (vI n)), (39, (vB true)), (40, (vI (wrap64 (1 - sd)))), (41, (vI pl)), (42, (vB true))]) (obs := [lS 25 5 g5 k p, .call 6 [(vA k p), (vI fac)] (.tuple #[(vI (wrap64 (1 - sd))), (vI pl), (vB true)])]) (by kernel_rfl) mix rfl FS2.stays ⟨(ok_load25 (fun w hw => (hw.2.2.2.2))), ⟨⟨_, Tryz.func6, by kernel_rfl, by kernel_rfl⟩, fun w hw => FS2.stays.calls hw (impl_PlotOf.calls _ _ _ _ _ _ _ (H.f30_2 rfl))⟩, trivial⟩ h hw ?_
  clear h hw
  intro a w h hw
  show Code.wp _ B20 _ _ _
  exact t20 H h hw
theorem t22 (H : Facts kk l0 l1 k p n sd pl ok fac true nxt hs five txt lf rt sx sy k1 p1 wh at1 n1 b1 k2 p2 fr to1 wd wk b2 k3 p3 sf nu b3 su tw k4 p4 b4) {a : Act} {w : World} (h : Has 669 a [(1, (.slice A1 l1.length c1)), (5, (vP g5)), (6, (vI n)), (7, (vI sd)), (8, (vI pl)), (13, (vI fac)), (21, (vI hs)), (22, (vB five)), (25, (.string txt))]) (hw : FS2 w0 A1 l1 c1 g5 k p w) : B22.wp Tryz.prog (Exit.then (fun a w => Code.wp Tryz.prog B64 (Ql w0) a w) (Ql w0)) a w := by
  show Code.wp _ (Code.seq (Code.region 29 R29.toArray false) B21) _ _ _
  refine wp_seq ?_
  refine region_ (F := FS2 w0 A1 l1 c1 g5 k p) (K := [(1, (.slice A1 l1.length c1)), (5, (vP g5)), (6, (vI n)), (7, (vI sd)), (8, (vI pl)), (13, (vI fac)), (21, (vI hs)), (22, (vB five)), (25, (.string txt)), (38, (vI n)), (39, (vB true))]) (obs := [lS 25 5 g5 k p, .call 8 [(vA k p), (vI fac)] (.tuple #[(vI n), (vB true)])]) (by kernel_rfl) mix rfl FS2.stays ⟨(ok_load25 (fun w hw => (hw.2.2.2.2))), ⟨⟨_, Tryz.func8, by kernel_rfl, by kernel_rfl⟩, fun w hw => FS2.stays.calls hw (impl_OppositeOf.calls _ _ _ _ _ _ _ (H.f29_2 rfl))⟩, trivial⟩ h hw ?_
  clear h hw
  intro a w h hw
  show Code.wp _ B21 _ _ _
  exact t21 H h hw
theorem t65 (H : Facts kk l0 l1 k p n sd pl ok fac one nxt hs five txt lf rt sx sy k1 p1 wh at1 n1 b1 k2 p2 fr to1 wd wk b2 k3 p3 sf nu b3 su tw k4 p4 b4) {a : Act} {w : World} (h : Has 669 a [(1, (.slice A1 l1.length c1)), (5, (vP g5)), (6, (vI n)), (7, (vI sd)), (8, (vI pl)), (13, (vI fac)), (14, (vB one)), (21, (vI hs)), (22, (vB five)), (25, (.string txt))]) (hw : FS2 w0 A1 l1 c1 g5 k p w) : B65.wp Tryz.prog (Ql w0) a w := by
  show Code.wp _ (Code.seq B23 B64) _ _ _
  refine wp_seq ?_
  show Code.wp _ (Code.seq (Code.region 28 R28.toArray false) (Code.cond (Operand.tmp 342) B22 Code.skip)) _ _ _
  refine wp_seq ?_
  refine region_ (F := FS2 w0 A1 l1 c1 g5 k p) (K := [(1, (.slice A1 l1.length c1)), (5, (vP g5)), (6, (vI n)), (7, (vI sd)), (8, (vI pl)), (13, (vI fac)), (21, (vI hs)), (22, (vB five)), (25, (.string txt)), (342, (vB one))]) (obs := []) (by kernel_rfl) mix rfl FS2.stays trivial h hw ?_
  clear h hw
  intro a w h hw
  show Code.wp _ (Code.cond (Operand.tmp 342) B22 Code.skip) _ _ _
  cases one with
  | true =>
    refine wp_cond_true (h.opd (by kernel_rfl)) ?_
    exact t22 H (h.cut (by kernel_rfl)) hw
  | false =>
    refine wp_cond_false (h.opd (by kernel_rfl)) ?_
    refine wp_skip ?_
    show Code.wp _ B64 _ _ _
    exact t64 H (h.cut (by kernel_rfl)) hw
theorem t7 (hlt : i < nxt.length) (hmax_ : nxt.length ≤ 9223372036854775807) (hq3 : q = wrap64 (pl - 1) ∨ q = wrap64 (pl + 1)) {a : Act} {w : World} (h : Has 669 a [(1, (.slice A1 l1.length c1)), (5, (vP g5)), (6, (vI n)), (7, (vI sd)), (8, (vI pl)), (13, (vI fac)), (14, (vB one)), (21, (vI hs)), (22, (vB five)), (25, (.string txt)), (33, (vI sd)), (34, (vI q)), (35, (vB true)), (36, (vI 1)), (37, (vB true)), (294, (.slice A129_0 nxt.length c129_0)), (295, (vI (nxt.length : Int))), (296, (vI (i : Int)))]) (hw : FS3 w0 A1 l1 c1 g5 k p A129_0 nxt c129_0 w) : B7.wp Tryz.prog (Exit.inBlock 1 (Exit.then (fun a w => Code.wp Tryz.prog (Code.region 27 R27.toArray false) (Exit.then (fun a' w' => ∃ d', d' < nxt.length - i ∧ (∃ i : Nat, i ≤ nxt.length ∧ d' = nxt.length - i ∧ Has 669 a' [(1, (.slice A1 l1.length c1)), (5, (vP g5)), (6, (vI n)), (7, (vI sd)), (8, (vI pl)), (13, (vI fac)), (14, (vB one)), (21, (vI hs)), (22, (vB five)), (25, (.string txt)), (294, (.slice A129_0 nxt.length c129_0)), (295, (vI (nxt.length : Int))), (296, (vI (i : Int)))] ∧ FS3 w0 A1 l1 c1 g5 k p A129_0 nxt c129_0 w')) (Exit.inBlock 0 (Exit.then (fun a w => Code.wp Tryz.prog B65 (Ql w0) a w) (Ql w0)))) a w) (Exit.then (fun a' w' => ∃ d', d' < nxt.length - i ∧ (∃ i : Nat, i ≤ nxt.length ∧ d' = nxt.length - i ∧ Has 669 a' [(1, (.slice A1 l1.length c1)), (5, (vP g5)), (6, (vI n)), (7, (vI sd)), (8, (vI pl)), (13, (vI fac)), (14, (vB one)), (21, (vI hs)), (22, (vB five)), (25, (.string txt)), (294, (.slice A129_0 nxt.length c129_0)), (295, (vI (nxt.length : Int))), (296, (vI (i : Int)))] ∧ FS3 w0 A1 l1 c1 g5 k p A129_0 nxt c129_0 w')) (Exit.inBlock 0 (Exit.then (fun a w => Code.wp Tryz.prog B65 (Ql w0) a w) (Ql w0)))))) a w := by
  show Code.wp _ (Code.seq (Code.region 25 R25.toArray false) (Code.cond (Operand.tmp 340) B6 Code.skip)) _ _ _
  refine wp_seq ?_
  rcases hq3 with rfl | rfl
  · refine region_ (F := FS3 w0 A1 l1 c1 g5 k p A129_0 nxt c129_0) (K := [(1, (.slice A1 l1.length c1)), (5, (vP g5)), (6, (vI n)), (7, (vI sd)), (8, (vI pl)), (13, (vI fac)), (14, (vB one)), (21, (vI hs)), (22, (vB five)), (25, (.string txt)), (294, (.slice A129_0 nxt.length c129_0)), (295, (vI (nxt.length : Int))), (296, (vI (i : Int))), (340, (vB false))]) (obs := [cI .neq 317 318 sd sd false, .op (Op.binOp BinOp.sub 3 (Operand.tmp 323) (Operand.const (Value.int IntKind.i64 1)) 3) 3 [((Operand.tmp 323), (vI pl)), ((Operand.const (Value.int IntKind.i64 1)), (vI 1))] (vI (wrap64 (pl - 1))), cI .neq 322 324 ((wrap64 (pl - 1))) (wrap64 (pl - 1)) false, cK .neq 338 1 1 false]) (by kernel_rfl) mix rfl FS3.stays ⟨(ok_neq_int (bne_self_eq_false _)), (ok_sub_int rfl), (ok_neq_int (bne_self_eq_false _)), (ok_neq_int (bne_self_eq_false _)), trivial⟩ h hw ?_
    clear h hw
    intro a w h hw
    show Code.wp _ (Code.cond (Operand.tmp 340) B6 Code.skip) _ _ _
    refine wp_cond_false (h.opd (by kernel_rfl)) ?_
    refine wp_skip ?_
    show Code.wp _ (Code.region 27 R27.toArray false) _ _ _
    refine region_ (F := FS3 w0 A1 l1 c1 g5 k p A129_0 nxt c129_0) (K := [(1, (.slice A1 l1.length c1)), (5, (vP g5)), (6, (vI n)), (7, (vI sd)), (8, (vI pl)), (13, (vI fac)), (14, (vB one)), (21, (vI hs)), (22, (vB five)), (25, (.string txt)), (294, (.slice A129_0 nxt.length c129_0)), (295, (vI (nxt.length : Int))), (296, (vI (((i + 1 : Nat) : Int))))]) (obs := [.op (Op.binOp BinOp.add 3 (Operand.tmp 296) (Operand.const (Value.int IntKind.i64 1)) 3) 3 [((Operand.tmp 296), (vI (i : Int))), ((Operand.const (Value.int IntKind.i64 1)), (vI 1))] (vI (((i + 1 : Nat) : Int)))]) (by kernel_rfl) mix rfl FS3.stays ⟨(ok_add_int (wadd_ (by omega))), trivial⟩ h hw ?_
    clear h hw
    intro a w h hw
    refine ⟨nxt.length - (i + 1), by omega, i + 1, by omega, rfl, ?_, ?_⟩
    · exact h.cut (by kernel_rfl)
    · exact ⟨hw.1, hw.2.1, hw.2.2.1, hw.2.2.2.1, hw.2.2.2.2.1, hw.2.2.2.2.2.1, hw.2.2.2.2.2.2⟩
  · by_cases hx1 : wrap64 (pl + 1) = wrap64 (pl - 1)
    · refine region_ (F := FS3 w0 A1 l1 c1 g5 k p A129_0 nxt c129_0) (K := [(1, (.slice A1 l1.length c1)), (5, (vP g5)), (6, (vI n)), (7, (vI sd)), (8, (vI pl)), (13, (vI fac)), (14, (vB one)), (21, (vI hs)), (22, (vB five)), (25, (.string txt)), (294, (.slice A129_0 nxt.length c129_0)), (295, (vI (nxt.length : Int))), (296, (vI (i : Int))), (340, (vB false))]) (obs := [cI .neq 317 318 sd sd false, .op (Op.binOp BinOp.sub 3 (Operand.tmp 323) (Operand.const (Value.int IntKind.i64 1)) 3) 3 [((Operand.tmp 323), (vI pl)), ((Operand.const (Value.int IntKind.i64 1)), (vI 1))] (vI (wrap64 (pl - 1))), cI .neq 322 324 ((wrap64 (pl + 1))) (wrap64 (pl - 1)) false, cK .neq 338 1 1 false]) (by kernel_rfl) mix rfl FS3.stays ⟨(ok_neq_int (bne_self_eq_false _)), (ok_sub_int rfl), (ok_neq_int (bne_eq_false_iff_eq.mpr hx1)), (ok_neq_int (bne_self_eq_false _)), trivial⟩ h hw ?_
      clear h hw
      intro a w h hw
      show Code.wp _ (Code.cond (Operand.tmp 340) B6 Code.skip) _ _ _
      refine wp_cond_false (h.opd (by kernel_rfl)) ?_
      refine wp_skip ?_
      show Code.wp _ (Code.region 27 R27.toArray false) _ _ _
      refine region_ (F := FS3 w0 A1 l1 c1 g5 k p A129_0 nxt c129_0) (K := [(1, (.slice A1 l1.length c1)), (5, (vP g5)), (6, (vI n)), (7, (vI sd)), (8, (vI pl)), (13, (vI fac)), (14, (vB one)), (21, (vI hs)), (22, (vB five)), (25, (.string txt)), (294, (.slice A129_0 nxt.length c129_0)), (295, (vI (nxt.length : Int))), (296, (vI (((i + 1 : Nat) : Int))))]) (obs := [.op (Op.binOp BinOp.add 3 (Operand.tmp 296) (Operand.const (Value.int IntKind.i64 1)) 3) 3 [((Operand.tmp 296), (vI (i : Int))), ((Operand.const (Value.int IntKind.i64 1)), (vI 1))] (vI (((i + 1 : Nat) : Int)))]) (by kernel_rfl) mix rfl FS3.stays ⟨(ok_add_int (wadd_ (by omega))), trivial⟩ h hw ?_
      clear h hw
      intro a w h hw
      refine ⟨nxt.length - (i + 1), by omega, i + 1, by omega, rfl, ?_, ?_⟩
      · exact h.cut (by kernel_rfl)
      · exact ⟨hw.1, hw.2.1, hw.2.2.1, hw.2.2.2.1, hw.2.2.2.2.1, hw.2.2.2.2.2.1, hw.2.2.2.2.2.2⟩
    · refine region_ (F := FS3 w0 A1 l1 c1 g5 k p A129_0 nxt c129_0) (K := [(1, (.slice A1 l1.length c1)), (5, (vP g5)), (6, (vI n)), (7, (vI sd)), (8, (vI pl)), (13, (vI fac)), (14, (vB one)), (21, (vI hs)), (22, (vB five)), (25, (.string txt)), (294, (.slice A129_0 nxt.length c129_0)), (295, (vI (nxt.length : Int))), (296, (vI (i : Int))), (340, (vB false))]) (obs := [cI .neq 317 318 sd sd false, .op (Op.binOp BinOp.sub 3 (Operand.tmp 323) (Operand.const (Value.int IntKind.i64 1)) 3) 3 [((Operand.tmp 323), (vI pl)), ((Operand.const (Value.int IntKind.i64 1)), (vI 1))] (vI (wrap64 (pl - 1))), cI .neq 322 324 ((wrap64 (pl + 1))) (wrap64 (pl - 1)) true, .op (Op.binOp BinOp.add 3 (Operand.tmp 328) (Operand.const (Value.int IntKind.i64 1)) 3) 3 [((Operand.tmp 328), (vI pl)), ((Operand.const (Value.int IntKind.i64 1)), (vI 1))] (vI (wrap64 (pl + 1))), cI .neq 327 329 ((wrap64 (pl + 1))) (wrap64 (pl + 1)) false, cK .neq 338 1 1 false]) (by kernel_rfl) mix rfl FS3.stays ⟨(ok_neq_int (bne_self_eq_false _)), (ok_sub_int rfl), (ok_neq_int (bne_iff_ne.mpr hx1)), (ok_add_int rfl), (ok_neq_int (bne_self_eq_false _)), (ok_neq_int (bne_self_eq_false _)), trivial⟩ h hw ?_
      clear h hw
      intro a w h hw
      show Code.wp _ (Code.cond (Operand.tmp 340) B6 Code.skip) _ _ _
      refine wp_cond_false (h.opd (by kernel_rfl)) ?_
      refine wp_skip ?_
      show Code.wp _ (Code.region 27 R27.toArray false) _ _ _
      refine region_ (F := FS3 w0 A1 l1 c1 g5 k p A129_0 nxt c129_0) (K := [(1, (.slice A1 l1.length c1)), (5, (vP g5)), (6, (vI n)), (7, (vI sd)), (8, (vI pl)), (13, (vI fac)), (14, (vB one)), (21, (vI hs)), (22, (vB five)), (25, (.string txt)), (294, (.slice A129_0 nxt.length c129_0)), (295, (vI (nxt.length : Int))), (296, (vI (((i + 1 : Nat) : Int))))]) (obs := [.op (Op.binOp BinOp.add 3 (Operand.tmp 296) (Operand.const (Value.int IntKind.i64 1)) 3) 3 [((Operand.tmp 296), (vI (i : Int))), ((Operand.const (Value.int IntKind.i64 1)), (vI 1))] (vI (((i + 1 : Nat) : Int)))]) (by kernel_rfl) mix rfl FS3.stays ⟨(ok_add_int (wadd_ (by omega))), trivial⟩ h hw ?_
      clear h hw
      intro a w h hw
      refine ⟨nxt.length - (i + 1), by omega, i + 1, by omega, rfl, ?_, ?_⟩
      · exact h.cut (by kernel_rfl)
      · exact ⟨hw.1, hw.2.1, hw.2.2.1, hw.2.2.2.1, hw.2.2.2.2.1, hw.2.2.2.2.2.1, hw.2.2.2.2.2.2⟩
theorem t8 (hlt : i < nxt.length) (hmax_ : nxt.length ≤ 9223372036854775807) (hq2 : impl_WalkBetween.f kk k p n (nxt.getD i 0) 7 = some (1, true)) (hq3 : q = wrap64 (pl - 1) ∨ q = wrap64 (pl + 1)) {a : Act} {w : World} (h : Has 669 a [(1, (.slice A1 l1.length c1)), (5, (vP g5)), (6, (vI n)), (7, (vI sd)), (8, (vI pl)), (13, (vI fac)), (14, (vB one)), (21, (vI hs)), (22, (vB five)), (25, (.string txt)), (32, (vI (nxt.getD i 0))), (33, (vI sd)), (34, (vI q)), (35, (vB true)), (294, (.slice A129_0 nxt.length c129_0)), (295, (vI (nxt.length : Int))), (296, (vI (i : Int)))]) (hw : FS3 w0 A1 l1 c1 g5 k p A129_0 nxt c129_0 w) : B8.wp Tryz.prog (Exit.inBlock 1 (Exit.then (fun a w => Code.wp Tryz.prog (Code.region 27 R27.toArray false) (Exit.then (fun a' w' => ∃ d', d' < nxt.length - i ∧ (∃ i : Nat, i ≤ nxt.length ∧ d' = nxt.length - i ∧ Has 669 a' [(1, (.slice A1 l1.length c1)), (5, (vP g5)), (6, (vI n)), (7, (vI sd)), (8, (vI pl)), (13, (vI fac)), (14, (vB one)), (21, (vI hs)), (22, (vB five)), (25, (.string txt)), (294, (.slice A129_0 nxt.length c129_0)), (295, (vI (nxt.length : Int))), (296, (vI (i : Int)))] ∧ FS3 w0 A1 l1 c1 g5 k p A129_0 nxt c129_0 w')) (Exit.inBlock 0 (Exit.then (fun a w => Code.wp Tryz.prog B65 (Ql w0) a w) (Ql w0)))) a w) (Exit.then (fun a' w' => ∃ d', d' < nxt.length - i ∧ (∃ i : Nat, i ≤ nxt.length ∧ d' = nxt.length - i ∧ Has 669 a' [(1, (.slice A1 l1.length c1)), (5, (vP g5)), (6, (vI n)), (7, (vI sd)), (8, (vI pl)), (13, (vI fac)), (14, (vB one)), (21, (vI hs)), (22, (vB five)), (25, (.string txt)), (294, (.slice A129_0 nxt.length c129_0)), (295, (vI (nxt.length : Int))), (296, (vI (i : Int)))] ∧ FS3 w0 A1 l1 c1 g5 k p A129_0 nxt c129_0 w')) (Exit.inBlock 0 (Exit.then (fun a w => Code.wp Tryz.prog B65 (Ql w0) a w) (Ql w0)))))) a w := by
  show Code.wp _ (Code.seq (Code.region 24 R24.toArray false) B7) _ _ _
  refine wp_seq ?_
  refine region_ (F := FS3 w0 A1 l1 c1 g5 k p A129_0 nxt c129_0) (K := [(1, (.slice A1 l1.length c1)), (5, (vP g5)), (6, (vI n)), (7, (vI sd)), (8, (vI pl)), (13, (vI fac)), (14, (vB one)), (21, (vI hs)), (22, (vB five)), (25, (.string txt)), (33, (vI sd)), (34, (vI q)), (35, (vB true)), (36, (vI 1)), (37, (vB true)), (294, (.slice A129_0 nxt.length c129_0)), (295, (vI (nxt.length : Int))), (296, (vI (i : Int)))]) (obs := [lS 25 5 g5 k p, .call 21 [(vA k p), (vI n), (vI (nxt.getD i 0)), (vI 7)] (.tuple #[(vI 1), (vB true)])]) (by kernel_rfl) mix rfl FS3.stays ⟨(ok_load25 (fun w hw => (hw.2.2.2.2.1))), ⟨⟨_, Tryz.func21, by kernel_rfl, by kernel_rfl⟩, fun w hw => FS3.stays.calls hw (impl_WalkBetween.calls _ _ _ _ _ _ _ _ _ hq2)⟩, trivial⟩ h hw ?_
  clear h hw
  intro a w h hw
  show Code.wp _ B7 _ _ _
  exact t7 hlt hmax_ hq3 h hw
theorem t9 (H : Facts kk l0 l1 k p n sd pl true fac one nxt hs five txt lf rt sx sy k1 p1 wh at1 n1 b1 k2 p2 fr to1 wd wk b2 k3 p3 sf nu b3 su tw k4 p4 b4) (hlt : i < nxt.length) (hmax_ : nxt.length ≤ 9223372036854775807) {a : Act} {w : World} (h : Has 669 a [(1, (.slice A1 l1.length c1)), (5, (vP g5)), (6, (vI n)), (7, (vI sd)), (8, (vI pl)), (13, (vI fac)), (14, (vB one)), (21, (vI hs)), (22, (vB five)), (25, (.string txt)), (32, (vI (nxt.getD i 0))), (294, (.slice A129_0 nxt.length c129_0)), (295, (vI (nxt.length : Int))), (296, (vI (i : Int)))]) (hw : FS3 w0 A1 l1 c1 g5 k p A129_0 nxt c129_0 w) : B9.wp Tryz.prog (Exit.inBlock 1 (Exit.then (fun a w => Code.wp Tryz.prog (Code.region 27 R27.toArray false) (Exit.then (fun a' w' => ∃ d', d' < nxt.length - i ∧ (∃ i : Nat, i ≤ nxt.length ∧ d' = nxt.length - i ∧ Has 669 a' [(1, (.slice A1 l1.length c1)), (5, (vP g5)), (6, (vI n)), (7, (vI sd)), (8, (vI pl)), (13, (vI fac)), (14, (vB one)), (21, (vI hs)), (22, (vB five)), (25, (.string txt)), (294, (.slice A129_0 nxt.length c129_0)), (295, (vI (nxt.length : Int))), (296, (vI (i : Int)))] ∧ FS3 w0 A1 l1 c1 g5 k p A129_0 nxt c129_0 w')) (Exit.inBlock 0 (Exit.then (fun a w => Code.wp Tryz.prog B65 (Ql w0) a w) (Ql w0)))) a w) (Exit.then (fun a' w' => ∃ d', d' < nxt.length - i ∧ (∃ i : Nat, i ≤ nxt.length ∧ d' = nxt.length - i ∧ Has 669 a' [(1, (.slice A1 l1.length c1)), (5, (vP g5)), (6, (vI n)), (7, (vI sd)), (8, (vI pl)), (13, (vI fac)), (14, (vB one)), (21, (vI hs)), (22, (vB five)), (25, (.string txt)), (294, (.slice A129_0 nxt.length c129_0)), (295, (vI (nxt.length : Int))), (296, (vI (i : Int)))] ∧ FS3 w0 A1 l1 c1 g5 k p A129_0 nxt c129_0 w')) (Exit.inBlock 0 (Exit.then (fun a w => Code.wp Tryz.prog B65 (Ql w0) a w) (Ql w0)))))) a w := by
  show Code.wp _ (Code.seq (Code.region 23 R23.toArray false) B8) _ _ _
  refine wp_seq ?_
  obtain ⟨q, hq1, hq2, hq3⟩ := H.hstep rfl (nxt.getD i 0) (getD_mem_ hlt)
  refine region_ (F := FS3 w0 A1 l1 c1 g5 k p A129_0 nxt c129_0) (K := [(1, (.slice A1 l1.length c1)), (5, (vP g5)), (6, (vI n)), (7, (vI sd)), (8, (vI pl)), (13, (vI fac)), (14, (vB one)), (21, (vI hs)), (22, (vB five)), (25, (.string txt)), (32, (vI (nxt.getD i 0))), (33, (vI sd)), (34, (vI q)), (35, (vB true)), (294, (.slice A129_0 nxt.length c129_0)), (295, (vI (nxt.length : Int))), (296, (vI (i : Int)))]) (obs := [lS 25 5 g5 k p, .call 6 [(vA k p), (vI (nxt.getD i 0))] (.tuple #[(vI sd), (vI q), (vB true)])]) (by kernel_rfl) mix rfl FS3.stays ⟨(ok_load25 (fun w hw => (hw.2.2.2.2.1))), ⟨⟨_, Tryz.func6, by kernel_rfl, by kernel_rfl⟩, fun w hw => FS3.stays.calls hw (impl_PlotOf.calls _ _ _ _ _ _ _ hq1)⟩, trivial⟩ h hw ?_
  clear h hw
  intro a w h hw
  show Code.wp _ B8 _ _ _
  exact t8 hlt hmax_ hq2 hq3 h hw
theorem t10 (H : Facts kk l0 l1 k p n sd pl true fac one nxt hs five txt lf rt sx sy k1 p1 wh at1 n1 b1 k2 p2 fr to1 wd wk b2 k3 p3 sf nu b3 su tw k4 p4 b4) (hlt : i < nxt.length) (hmax_ : nxt.length ≤ 9223372036854775807) {a : Act} {w : World} (h : Has 669 a [(1, (.slice A1 l1.length c1)), (5, (vP g5)), (6, (vI n)), (7, (vI sd)), (8, (vI pl)), (13, (vI fac)), (14, (vB one)), (21, (vI hs)), (22, (vB five)), (25, (.string txt)), (294, (.slice A129_0 nxt.length c129_0)), (295, (vI (nxt.length : Int))), (296, (vI (i : Int)))]) (hw : FS3 w0 A1 l1 c1 g5 k p A129_0 nxt c129_0 w) : B10.wp Tryz.prog (Exit.inBlock 1 (Exit.then (fun a w => Code.wp Tryz.prog (Code.region 27 R27.toArray false) (Exit.then (fun a' w' => ∃ d', d' < nxt.length - i ∧ (∃ i : Nat, i ≤ nxt.length ∧ d' = nxt.length - i ∧ Has 669 a' [(1, (.slice A1 l1.length c1)), (5, (vP g5)), (6, (vI n)), (7, (vI sd)), (8, (vI pl)), (13, (vI fac)), (14, (vB one)), (21, (vI hs)), (22, (vB five)), (25, (.string txt)), (294, (.slice A129_0 nxt.length c129_0)), (295, (vI (nxt.length : Int))), (296, (vI (i : Int)))] ∧ FS3 w0 A1 l1 c1 g5 k p A129_0 nxt c129_0 w')) (Exit.inBlock 0 (Exit.then (fun a w => Code.wp Tryz.prog B65 (Ql w0) a w) (Ql w0)))) a w) (Exit.then (fun a' w' => ∃ d', d' < nxt.length - i ∧ (∃ i : Nat, i ≤ nxt.length ∧ d' = nxt.length - i ∧ Has 669 a' [(1, (.slice A1 l1.length c1)), (5, (vP g5)), (6, (vI n)), (7, (vI sd)), (8, (vI pl)), (13, (vI fac)), (14, (vB one)), (21, (vI hs)), (22, (vB five)), (25, (.string txt)), (294, (.slice A129_0 nxt.length c129_0)), (295, (vI (nxt.length : Int))), (296, (vI (i : Int)))] ∧ FS3 w0 A1 l1 c1 g5 k p A129_0 nxt c129_0 w')) (Exit.inBlock 0 (Exit.then (fun a w => Code.wp Tryz.prog B65 (Ql w0) a w) (Ql w0)))))) a w := by
  show Code.wp _ (Code.seq (Code.region 22 R22.toArray false) B9) _ _ _
  refine wp_seq ?_
  obtain ⟨ad, hA⟩ := C_some (hw.2.2.2.2.2.1) hlt
  refine region_ (F := FS3 w0 A1 l1 c1 g5 k p A129_0 nxt c129_0) (K := [(1, (.slice A1 l1.length c1)), (5, (vP g5)), (6, (vI n)), (7, (vI sd)), (8, (vI pl)), (13, (vI fac)), (14, (vB one)), (21, (vI hs)), (22, (vB five)), (25, (.string txt)), (32, (vI (nxt.getD i 0))), (294, (.slice A129_0 nxt.length c129_0)), (295, (vI (nxt.length : Int))), (296, (vI (i : Int)))]) (obs := [.op (Op.indexAddr 32 (Operand.tmp 294) (Operand.tmp 296)) 0 [((Operand.tmp 294), (.slice A129_0 nxt.length c129_0)), ((Operand.tmp 296), (vI (i : Int)))] (.pointer (some ((ad.add (i : Int).toNat)))), .op (Op.load 3 (Operand.tmp 298)) 3 [((Operand.tmp 298), (.pointer (some ((ad.add (i : Int).toNat)))))] (vI (nxt.getD i 0))]) (by kernel_rfl) mix rfl FS3.stays ⟨(ok_idxe32 hA (by omega) (by omega)), (ok_load3p (fun w hw => C_cellD (hw.2.2.2.2.2.1) hA hlt)), trivial⟩ h hw ?_
  clear h hw
  intro a w h hw
  show Code.wp _ B9 _ _ _
  exact t9 H hlt hmax_ h hw
theorem t11 (H : Facts kk l0 l1 k p n sd pl true fac one nxt hs five txt lf rt sx sy k1 p1 wh at1 n1 b1 k2 p2 fr to1 wd wk b2 k3 p3 sf nu b3 su tw k4 p4 b4) (hlt : i < nxt.length) (hmax_ : nxt.length ≤ 9223372036854775807) {a : Act} {w : World} (h : Has 669 a [(1, (.slice A1 l1.length c1)), (5, (vP g5)), (6, (vI n)), (7, (vI sd)), (8, (vI pl)), (13, (vI fac)), (14, (vB one)), (21, (vI hs)), (22, (vB five)), (25, (.string txt)), (294, (.slice A129_0 nxt.length c129_0)), (295, (vI (nxt.length : Int))), (296, (vI (i : Int)))]) (hw : FS3 w0 A1 l1 c1 g5 k p A129_0 nxt c129_0 w) : B11.wp Tryz.prog (Exit.then (fun a' w' => ∃ d', d' < nxt.length - i ∧ (∃ i : Nat, i ≤ nxt.length ∧ d' = nxt.length - i ∧ Has 669 a' [(1, (.slice A1 l1.length c1)), (5, (vP g5)), (6, (vI n)), (7, (vI sd)), (8, (vI pl)), (13, (vI fac)), (14, (vB one)), (21, (vI hs)), (22, (vB five)), (25, (.string txt)), (294, (.slice A129_0 nxt.length c129_0)), (295, (vI (nxt.length : Int))), (296, (vI (i : Int)))] ∧ FS3 w0 A1 l1 c1 g5 k p A129_0 nxt c129_0 w')) (Exit.inBlock 0 (Exit.then (fun a w => Code.wp Tryz.prog B65 (Ql w0) a w) (Ql w0)))) a w := by
  show Code.wp _ (Code.seq (Code.block 1 B10) (Code.region 27 R27.toArray false)) _ _ _
  refine wp_seq ?_
  refine wp_block ?_
  exact t10 H hlt hmax_ h hw
theorem t12 (H : Facts kk l0 l1 k p n sd pl true fac one nxt hs five txt lf rt sx sy k1 p1 wh at1 n1 b1 k2 p2 fr to1 wd wk b2 k3 p3 sf nu b3 su tw k4 p4 b4) (hlt : i < nxt.length) (hmax_ : nxt.length ≤ 9223372036854775807) {a : Act} {w : World} (h : Has 669 a [(1, (.slice A1 l1.length c1)), (5, (vP g5)), (6, (vI n)), (7, (vI sd)), (8, (vI pl)), (13, (vI fac)), (14, (vB one)), (21, (vI hs)), (22, (vB five)), (25, (.string txt)), (294, (.slice A129_0 nxt.length c129_0)), (295, (vI (nxt.length : Int))), (296, (vI (i : Int))), (297, (vB true))]) (hw : FS3 w0 A1 l1 c1 g5 k p A129_0 nxt c129_0 w) : B12.wp Tryz.prog (Exit.then (fun a' w' => ∃ d', d' < nxt.length - i ∧ (∃ i : Nat, i ≤ nxt.length ∧ d' = nxt.length - i ∧ Has 669 a' [(1, (.slice A1 l1.length c1)), (5, (vP g5)), (6, (vI n)), (7, (vI sd)), (8, (vI pl)), (13, (vI fac)), (14, (vB one)), (21, (vI hs)), (22, (vB five)), (25, (.string txt)), (294, (.slice A129_0 nxt.length c129_0)), (295, (vI (nxt.length : Int))), (296, (vI (i : Int)))] ∧ FS3 w0 A1 l1 c1 g5 k p A129_0 nxt c129_0 w')) (Exit.inBlock 0 (Exit.then (fun a w => Code.wp Tryz.prog B65 (Ql w0) a w) (Ql w0)))) a w := by
  show Code.wp _ (Code.seq (Code.cond (Operand.tmp 297) Code.skip (Code.exit 0)) B11) _ _ _
  refine wp_seq ?_
  refine wp_cond_true (h.opd (by kernel_rfl)) ?_
  refine wp_skip ?_
  show Code.wp _ B11 _ _ _
  exact t11 H hlt hmax_ (h.cut (by kernel_rfl)) hw
theorem t13 (H : Facts kk l0 l1 k p n sd pl true fac one nxt hs five txt lf rt sx sy k1 p1 wh at1 n1 b1 k2 p2 fr to1 wd wk b2 k3 p3 sf nu b3 su tw k4 p4 b4) (hlt : i < nxt.length) (hmax_ : nxt.length ≤ 9223372036854775807) {a : Act} {w : World} (h : Has 669 a [(1, (.slice A1 l1.length c1)), (5, (vP g5)), (6, (vI n)), (7, (vI sd)), (8, (vI pl)), (13, (vI fac)), (14, (vB one)), (21, (vI hs)), (22, (vB five)), (25, (.string txt)), (294, (.slice A129_0 nxt.length c129_0)), (295, (vI (nxt.length : Int))), (296, (vI (i : Int)))]) (hw : FS3 w0 A1 l1 c1 g5 k p A129_0 nxt c129_0 w) : B13.wp Tryz.prog (Exit.then (fun a' w' => ∃ d', d' < nxt.length - i ∧ (∃ i : Nat, i ≤ nxt.length ∧ d' = nxt.length - i ∧ Has 669 a' [(1, (.slice A1 l1.length c1)), (5, (vP g5)), (6, (vI n)), (7, (vI sd)), (8, (vI pl)), (13, (vI fac)), (14, (vB one)), (21, (vI hs)), (22, (vB five)), (25, (.string txt)), (294, (.slice A129_0 nxt.length c129_0)), (295, (vI (nxt.length : Int))), (296, (vI (i : Int)))] ∧ FS3 w0 A1 l1 c1 g5 k p A129_0 nxt c129_0 w')) (Exit.inBlock 0 (Exit.then (fun a w => Code.wp Tryz.prog B65 (Ql w0) a w) (Ql w0)))) a w := by
  show Code.wp _ (Code.seq (Code.region 21 R21.toArray false) B12) _ _ _
  refine wp_seq ?_
  refine region_ (F := FS3 w0 A1 l1 c1 g5 k p A129_0 nxt c129_0) (K := [(1, (.slice A1 l1.length c1)), (5, (vP g5)), (6, (vI n)), (7, (vI sd)), (8, (vI pl)), (13, (vI fac)), (14, (vB one)), (21, (vI hs)), (22, (vB five)), (25, (.string txt)), (294, (.slice A129_0 nxt.length c129_0)), (295, (vI (nxt.length : Int))), (296, (vI (i : Int))), (297, (vB true))]) (obs := [.op (Op.binOp BinOp.lss 3 (Operand.tmp 296) (Operand.tmp 295) 3) 0 [((Operand.tmp 296), (vI (i : Int))), ((Operand.tmp 295), (vI (nxt.length : Int)))] (vB true)]) (by kernel_rfl) mix rfl FS3.stays ⟨(ok_lss_int (decide_eq_true (by omega))), trivial⟩ h hw ?_
  clear h hw
  intro a w h hw
  show Code.wp _ B12 _ _ _
  exact t12 H hlt hmax_ h hw
theorem t14 (H : Facts kk l0 l1 k p n sd pl true fac one nxt hs five txt lf rt sx sy k1 p1 wh at1 n1 b1 k2 p2 fr to1 wd wk b2 k3 p3 sf nu b3 su tw k4 p4 b4) {a : Act} {w : World} (h : Has 669 a [(1, (.slice A1 l1.length c1)), (5, (vP g5)), (6, (vI n)), (7, (vI sd)), (8, (vI pl)), (13, (vI fac)), (14, (vB one)), (17, (.slice A129_0 nxt.length c129_0)), (21, (vI hs)), (22, (vB five)), (25, (.string txt))]) (hw : FS3 w0 A1 l1 c1 g5 k p A129_0 nxt c129_0 w) : B14.wp Tryz.prog (Exit.then (fun a w => Code.wp Tryz.prog B65 (Ql w0) a w) (Ql w0)) a w := by
  show Code.wp _ (Code.seq (Code.region 20 R20.toArray false) (Code.block 0 (Code.loop B13))) _ _ _
  refine wp_seq ?_
  refine region_ (F := FS3 w0 A1 l1 c1 g5 k p A129_0 nxt c129_0) (K := [(1, (.slice A1 l1.length c1)), (5, (vP g5)), (6, (vI n)), (7, (vI sd)), (8, (vI pl)), (13, (vI fac)), (14, (vB one)), (21, (vI hs)), (22, (vB five)), (25, (.string txt)), (294, (.slice A129_0 nxt.length c129_0)), (295, (vI (nxt.length : Int))), (296, (vI 0))]) (obs := [.op (Op.call { callee := (Callee.builtin Builtin.len), args := #[(Operand.tmp 294)], argTypes := #[32] }) 3 [((Operand.tmp 294), (.slice A129_0 nxt.length c129_0))] (vI (nxt.length : Int))]) (by kernel_rfl) mix rfl FS3.stays ⟨(ok_len Tryz.underlying32), trivial⟩ h hw ?_
  clear h hw
  intro a w h hw
  show Code.wp _ (Code.block 0 (Code.loop B13)) _ _ _
  refine wp_block ?_
  replace h : Has 669 a [(1, (.slice A1 l1.length c1)), (5, (vP g5)), (6, (vI n)), (7, (vI sd)), (8, (vI pl)), (13, (vI fac)), (14, (vB one)), (21, (vI hs)), (22, (vB five)), (25, (.string txt)), (294, (.slice A129_0 nxt.length c129_0)), (295, (vI (nxt.length : Int))), (296, (vI (((0 : Nat) : Int))))] := h.cut (by kernel_rfl)
  replace hw : FS3 w0 A1 l1 c1 g5 k p A129_0 nxt c129_0 w := ⟨hw.1, hw.2.1, hw.2.2.1, hw.2.2.2.1, hw.2.2.2.2.1, hw.2.2.2.2.2.1, hw.2.2.2.2.2.2⟩
  refine loop_nat (fun d a w => ∃ i : Nat, i ≤ nxt.length ∧ d = nxt.length - i ∧ Has 669 a [(1, (.slice A1 l1.length c1)), (5, (vP g5)), (6, (vI n)), (7, (vI sd)), (8, (vI pl)), (13, (vI fac)), (14, (vB one)), (21, (vI hs)), (22, (vB five)), (25, (.string txt)), (294, (.slice A129_0 nxt.length c129_0)), (295, (vI (nxt.length : Int))), (296, (vI (i : Int)))] ∧ FS3 w0 A1 l1 c1 g5 k p A129_0 nxt c129_0 w) ?_ nxt.length a w ⟨0, Nat.zero_le _, rfl, h, hw⟩
  clear h hw a w
  rintro d a w ⟨i, hi_, rfl, h, hw⟩
  by_cases hlt : i < nxt.length
  · have hmax_ : nxt.length ≤ 9223372036854775807 := Kd.C_max (hw.2.2.2.2.2.1)
    exact t13 H hlt hmax_ h hw
  · show Code.wp _ (Code.seq (Code.region 21 R21.toArray false) B12) _ _ _
    refine wp_seq ?_
    refine region_ (F := FS3 w0 A1 l1 c1 g5 k p A129_0 nxt c129_0) (K := [(1, (.slice A1 l1.length c1)), (5, (vP g5)), (6, (vI n)), (7, (vI sd)), (8, (vI pl)), (13, (vI fac)), (14, (vB one)), (21, (vI hs)), (22, (vB five)), (25, (.string txt)), (297, (vB false))]) (obs := [.op (Op.binOp BinOp.lss 3 (Operand.tmp 296) (Operand.tmp 295) 3) 0 [((Operand.tmp 296), (vI (i : Int))), ((Operand.tmp 295), (vI (nxt.length : Int)))] (vB false)]) (by kernel_rfl) mix rfl FS3.stays ⟨(ok_lss_int (decide_eq_false (by omega))), trivial⟩ h hw ?_
    clear h hw
    intro a w h hw
    show Code.wp _ (Code.seq (Code.cond (Operand.tmp 297) Code.skip (Code.exit 0)) B11) _ _ _
    refine wp_seq ?_
    refine wp_cond_false (h.opd (by kernel_rfl)) ?_
    refine wp_exit ?_
    show Exit.inBlock 0 (Exit.then (fun a w => Code.wp Tryz.prog B65 (Ql w0) a w) (Ql w0)) (.exit 0) a w
    refine inBlock_exit ?_
    show Code.wp _ B65 _ _ _
    exact t65 H (h.cut (by kernel_rfl)) ⟨hw.1, hw.2.1, hw.2.2.1, hw.2.2.2.1, hw.2.2.2.2.1⟩
theorem t15 (H : Facts kk l0 l1 k p n sd pl true fac one nxt hs five txt lf rt sx sy k1 p1 wh at1 n1 b1 k2 p2 fr to1 wd wk b2 k3 p3 sf nu b3 su tw k4 p4 b4) {a : Act} {w : World} (h : Has 669 a [(1, (.slice A1 l1.length c1)), (5, (vP g5)), (6, (vI n)), (7, (vI sd)), (8, (vI pl)), (13, (vI fac)), (14, (vB one)), (17, (.slice A129_0 nxt.length c129_0)), (21, (vI hs)), (22, (vB five)), (25, (.string txt)), (29, (vI n)), (30, (vB true))]) (hw : FS3 w0 A1 l1 c1 g5 k p A129_0 nxt c129_0 w) : B15.wp Tryz.prog (Exit.then (fun a w => Code.wp Tryz.prog B65 (Ql w0) a w) (Ql w0)) a w := by
  show Code.wp _ (Code.seq B5 B14) _ _ _
  refine wp_seq ?_
  show Code.wp _ (Code.seq (Code.region 18 R18.toArray false) (Code.cond (Operand.tmp 293) B4 Code.skip)) _ _ _
  refine wp_seq ?_
  by_cases hx1 : (nxt.length : Int) < 1
  · refine region_ (F := FS3 w0 A1 l1 c1 g5 k p A129_0 nxt c129_0) (K := [(1, (.slice A1 l1.length c1)), (5, (vP g5)), (6, (vI n)), (7, (vI sd)), (8, (vI pl)), (13, (vI fac)), (14, (vB one)), (17, (.slice A129_0 nxt.length c129_0)), (21, (vI hs)), (22, (vB five)), (25, (.string txt)), (293, (vB false))]) (obs := [cI .neq 270 271 n n false, .call 20 [(.slice A129_0 nxt.length c129_0)] (vB true), .op (Op.call { callee := (Callee.builtin Builtin.len), args := #[(Operand.tmp 280)], argTypes := #[32] }) 3 [((Operand.tmp 280), (.slice A129_0 nxt.length c129_0))] (vI (nxt.length : Int)), cK .lss 281 (nxt.length : Int) 1 true, .op (Op.fieldAddr 25 (Operand.tmp 5) 1) 0 [((Operand.tmp 5), (vP g5))] (.pointer (some ⟨g5, 1, none⟩)), .op (Op.load 3 (Operand.tmp 284)) 3 [((Operand.tmp 284), (.pointer (some ⟨g5, 1, none⟩)))] (vI p), cK .gtr 285 p 1 false, .op (Op.call { callee := (Callee.builtin Builtin.len), args := #[(Operand.tmp 290)], argTypes := #[32] }) 3 [((Operand.tmp 290), (.slice A129_0 nxt.length c129_0))] (vI (nxt.length : Int)), cK .gtr 291 (nxt.length : Int) 2 false]) (by kernel_rfl) mix rfl FS3.stays ⟨(ok_neq_int (bne_self_eq_false _)), ⟨⟨_, Tryz.func20, by kernel_rfl, by kernel_rfl⟩, fun w hw => FS3.stays.callsD hw (laws_zRises.calls _ _ _ _ _ _ (hw.2.2.2.2.2.1) (hw.2.2.2.2.2.2) (H.f18_9 rfl))⟩, (ok_len Tryz.underlying32), (ok_lss_int (decide_eq_true hx1)), ok_fa25_1, (ok_load3 (fun w hw => blk_cell (hw.2.2.2.2.1) 1)), (ok_gtr_int (decide_eq_false (H.hlen rfl hx1))), (ok_len Tryz.underlying32), (ok_gtr_int (decide_eq_false (H.hlen2 rfl))), trivial⟩ h hw ?_
    clear h hw
    intro a w h hw
    show Code.wp _ (Code.cond (Operand.tmp 293) B4 Code.skip) _ _ _
    refine wp_cond_false (h.opd (by kernel_rfl)) ?_
    refine wp_skip ?_
    show Code.wp _ B14 _ _ _
    exact t14 H (h.cut (by kernel_rfl)) hw
  · refine region_ (F := FS3 w0 A1 l1 c1 g5 k p A129_0 nxt c129_0) (K := [(1, (.slice A1 l1.length c1)), (5, (vP g5)), (6, (vI n)), (7, (vI sd)), (8, (vI pl)), (13, (vI fac)), (14, (vB one)), (17, (.slice A129_0 nxt.length c129_0)), (21, (vI hs)), (22, (vB five)), (25, (.string txt)), (293, (vB false))]) (obs := [cI .neq 270 271 n n false, .call 20 [(.slice A129_0 nxt.length c129_0)] (vB true), .op (Op.call { callee := (Callee.builtin Builtin.len), args := #[(Operand.tmp 280)], argTypes := #[32] }) 3 [((Operand.tmp 280), (.slice A129_0 nxt.length c129_0))] (vI (nxt.length : Int)), cK .lss 281 (nxt.length : Int) 1 false, .op (Op.call { callee := (Callee.builtin Builtin.len), args := #[(Operand.tmp 290)], argTypes := #[32] }) 3 [((Operand.tmp 290), (.slice A129_0 nxt.length c129_0))] (vI (nxt.length : Int)), cK .gtr 291 (nxt.length : Int) 2 false]) (by kernel_rfl) mix rfl FS3.stays ⟨(ok_neq_int (bne_self_eq_false _)), ⟨⟨_, Tryz.func20, by kernel_rfl, by kernel_rfl⟩, fun w hw => FS3.stays.callsD hw (laws_zRises.calls _ _ _ _ _ _ (hw.2.2.2.2.2.1) (hw.2.2.2.2.2.2) (H.f18_9 rfl))⟩, (ok_len Tryz.underlying32), (ok_lss_int (decide_eq_false hx1)), (ok_len Tryz.underlying32), (ok_gtr_int (decide_eq_false (H.hlen2 rfl))), trivial⟩ h hw ?_
    clear h hw
    intro a w h hw
    show Code.wp _ (Code.cond (Operand.tmp 293) B4 Code.skip) _ _ _
    refine wp_cond_false (h.opd (by kernel_rfl)) ?_
    refine wp_skip ?_
    show Code.wp _ B14 _ _ _
    exact t14 H (h.cut (by kernel_rfl)) hw
theorem t16 (H : Facts kk l0 l1 k p n sd pl true fac one nxt hs five txt lf rt sx sy k1 p1 wh at1 n1 b1 k2 p2 fr to1 wd wk b2 k3 p3 sf nu b3 su tw k4 p4 b4) {a : Act} {w : World} (h : Has 669 a [(1, (.slice A1 l1.length c1)), (5, (vP g5)), (6, (vI n)), (7, (vI sd)), (8, (vI pl)), (13, (vI fac)), (14, (vB one)), (17, (.slice A129_0 nxt.length c129_0)), (21, (vI hs)), (22, (vB five)), (25, (.string txt))]) (hw : FS3 w0 A1 l1 c1 g5 k p A129_0 nxt c129_0 w) : B16.wp Tryz.prog (Exit.then (fun a w => Code.wp Tryz.prog B65 (Ql w0) a w) (Ql w0)) a w := by
  show Code.wp _ (Code.seq (Code.region 17 R17.toArray false) B15) _ _ _
  refine wp_seq ?_
  refine region_ (F := FS3 w0 A1 l1 c1 g5 k p A129_0 nxt c129_0) (K := [(1, (.slice A1 l1.length c1)), (5, (vP g5)), (6, (vI n)), (7, (vI sd)), (8, (vI pl)), (13, (vI fac)), (14, (vB one)), (17, (.slice A129_0 nxt.length c129_0)), (21, (vI hs)), (22, (vB five)), (25, (.string txt)), (29, (vI n)), (30, (vB true))]) (obs := [lS 25 5 g5 k p, .call 19 [(vA k p), (vI sd), (vI pl)] (.tuple #[(vI n), (vB true)])]) (by kernel_rfl) mix rfl FS3.stays ⟨(ok_load25 (fun w hw => (hw.2.2.2.2.1))), ⟨⟨_, Tryz.func19, by kernel_rfl, by kernel_rfl⟩, fun w hw => FS3.stays.calls hw (impl_NumberAt.calls _ _ _ _ _ _ _ (H.f17_3 rfl))⟩, trivial⟩ h hw ?_
  clear h hw
  intro a w h hw
  show Code.wp _ B15 _ _ _
  exact t15 H h hw
theorem t66 (H : Facts kk l0 l1 k p n sd pl ok fac one nxt hs five txt lf rt sx sy k1 p1 wh at1 n1 b1 k2 p2 fr to1 wd wk b2 k3 p3 sf nu b3 su tw k4 p4 b4) {a : Act} {w : World} (h : Has 669 a [(1, (.slice A1 l1.length c1)), (5, (vP g5)), (6, (vI n)), (7, (vI sd)), (8, (vI pl)), (9, (vB ok)), (13, (vI fac)), (14, (vB one)), (17, (.slice A129_0 nxt.length c129_0)), (21, (vI hs)), (22, (vB five)), (25, (.string txt))]) (hw : FS3 w0 A1 l1 c1 g5 k p A129_0 nxt c129_0 w) : B66.wp Tryz.prog (Ql w0) a w := by
  show Code.wp _ (Code.seq B17 B65) _ _ _
  refine wp_seq ?_
  show Code.wp _ (Code.seq (Code.region 16 R16.toArray false) (Code.cond (Operand.tmp 259) B16 Code.skip)) _ _ _
  refine wp_seq ?_
  refine region_ (F := FS3 w0 A1 l1 c1 g5 k p A129_0 nxt c129_0) (K := [(1, (.slice A1 l1.length c1)), (5, (vP g5)), (6, (vI n)), (7, (vI sd)), (8, (vI pl)), (13, (vI fac)), (14, (vB one)), (17, (.slice A129_0 nxt.length c129_0)), (21, (vI hs)), (22, (vB five)), (25, (.string txt)), (259, (vB ok))]) (obs := []) (by kernel_rfl) mix rfl FS3.stays trivial h hw ?_
  clear h hw
  intro a w h hw
  show Code.wp _ (Code.cond (Operand.tmp 259) B16 Code.skip) _ _ _
  cases ok with
  | true =>
    refine wp_cond_true (h.opd (by kernel_rfl)) ?_
    exact t16 H (h.cut (by kernel_rfl)) hw
  | false =>
    refine wp_cond_false (h.opd (by kernel_rfl)) ?_
    refine wp_skip ?_
    show Code.wp _ B65 _ _ _
    exact t65 H (h.cut (by kernel_rfl)) ⟨hw.1, hw.2.1, hw.2.2.1, hw.2.2.2.1, hw.2.2.2.2.1⟩
theorem t67 (H : Facts kk l0 l1 k p n sd pl ok fac one nxt hs five txt lf rt sx sy k1 p1 wh at1 n1 b1 k2 p2 fr to1 wd wk b2 k3 p3 sf nu b3 su tw k4 p4 b4) {a : Act} {w : World} (h : Has 669 a [(1, (.slice A1 l1.length c1)), (5, (vP g5)), (6, (vI n)), (7, (vI sd)), (8, (vI pl)), (9, (vB ok)), (10, (vI sd)), (11, (vI pl)), (12, (vB ok)), (13, (vI fac)), (14, (vB one)), (15, (vI fac)), (16, (vB one)), (17, (.slice A129_0 nxt.length c129_0)), (18, (vB ok)), (19, (.slice A135_0 nxt.length c135_0)), (20, (vB ok)), (21, (vI hs)), (22, (vB five)), (23, (vI hs)), (24, (vB five)), (25, (.string txt)), (26, (vB five)), (27, (.string txt)), (28, (vB five))]) (hw : FS4 w0 A1 l1 c1 g5 k p A129_0 nxt c129_0 A135_0 c135_0 w) : B67.wp Tryz.prog (Ql w0) a w := by
  show Code.wp _ (Code.seq B3 B66) _ _ _
  refine wp_seq ?_
  show Code.wp _ (Code.seq (Code.region 14 R14.toArray true) (Code.cond (Operand.tmp 258) B2 Code.skip)) _ _ _
  refine wp_seq ?_
  cases five with
  | true =>
    by_cases hx1 : n ≥ 1
    · by_cases hx2 : n ≤ hs
      · obtain rfl : ok = true := by simpa [*] using H.hok
        by_cases hx3 : k > 0
        · obtain rfl : one = true := by simpa [*] using H.hone
          refine region_ (F := FS4 w0 A1 l1 c1 g5 k p A129_0 nxt c129_0 A135_0 c135_0) (K := [(1, (.slice A1 l1.length c1)), (5, (vP g5)), (6, (vI n)), (7, (vI sd)), (8, (vI pl)), (9, (vB true)), (13, (vI fac)), (14, (vB true)), (17, (.slice A129_0 nxt.length c129_0)), (21, (vI hs)), (22, (vB true)), (25, (.string txt)), (258, (vB false))]) (obs := [cB .neq 158 159 true true false, cI .neq 162 163 sd sd false, cI .neq 167 168 pl pl false, cB .neq 172 173 true true false, cI .neq 177 178 fac fac false, cB .neq 182 183 true true false, .call 16 [(.slice A129_0 nxt.length c129_0), (.slice A135_0 nxt.length c135_0)] (vB true), cB .neq 193 194 true true false, cI .neq 198 199 hs hs false, cB .neq 203 204 true true false, .op (Op.binOp BinOp.neq 9 (Operand.tmp 208) (Operand.tmp 209) 9) 4 [((Operand.tmp 208), (.string txt)), ((Operand.tmp 209), (.string txt))] (vB false), cB .neq 213 214 true true false, lS 25 5 g5 k p, .call 17 [(vA k p)] (vB true), cB .neq 218 220 true true false, lS 25 5 g5 k p, .call 17 [(vA k p)] (vB true), lS 25 5 g5 k p, .call 18 [(vA k p)] (vB true), cB .neq 225 227 true true false, cB .neq 231 232 true true false, cK .geq 239 n 1 true, cI .leq 243 244 n hs true, cB .neq 236 246 true true false, .op (Op.fieldAddr 25 (Operand.tmp 5) 0) 0 [((Operand.tmp 5), (vP g5))] (vP g5), .op (Op.load 3 (Operand.tmp 253)) 3 [((Operand.tmp 253), (vP g5))] (vI k), cK .gtr 254 k 0 true, cB .neq 250 256 true true false]) (by kernel_rfl) mix lex14 FS4.stays ⟨(ok_neq_bool Tryz.underlying4 (bne_self_eq_false _)), (ok_neq_int (bne_self_eq_false _)), (ok_neq_int (bne_self_eq_false _)), (ok_neq_bool Tryz.underlying4 (bne_self_eq_false _)), (ok_neq_int (bne_self_eq_false _)), (ok_neq_bool Tryz.underlying4 (bne_self_eq_false _)), ⟨⟨_, Tryz.func16, by kernel_rfl, by kernel_rfl⟩, fun w hw => FS4.stays.callsD hw (laws_zSame.calls _ _ _ _ _ _ _ _ _ (hw.2.2.2.2.2.1) (hw.2.2.2.2.2.2.1) (hw.2.2.2.2.2.2.2.1) (hw.2.2.2.2.2.2.2.2) (H.f14_31))⟩, (ok_neq_bool Tryz.underlying4 (bne_self_eq_false _)), (ok_neq_int (bne_self_eq_false _)), (ok_neq_bool Tryz.underlying4 (bne_self_eq_false _)), (ok_neq_str (by simp)), (ok_neq_bool Tryz.underlying4 (bne_self_eq_false _)), (ok_load25 (fun w hw => (hw.2.2.2.2.1))), ⟨⟨_, Tryz.func17, by kernel_rfl, by kernel_rfl⟩, fun w hw => FS4.stays.calls hw (impl_IsStreet.calls _ _ _ _ (H.f14_62))⟩, (ok_neq_bool Tryz.underlying4 (bne_self_eq_false _)), (ok_load25 (fun w hw => (hw.2.2.2.2.1))), ⟨⟨_, Tryz.func17, by kernel_rfl, by kernel_rfl⟩, fun w hw => FS4.stays.calls hw (impl_IsStreet.calls _ _ _ _ (H.f14_67))⟩, (ok_load25 (fun w hw => (hw.2.2.2.2.1))), ⟨⟨_, Tryz.func18, by kernel_rfl, by kernel_rfl⟩, fun w hw => FS4.stays.calls hw (spec_IsStreet.calls _ _ _ _ (H.f14_69))⟩, (ok_neq_bool Tryz.underlying4 (bne_self_eq_false _)), (ok_neq_bool Tryz.underlying4 (bne_self_eq_false _)), (ok_geq_int (decide_eq_true hx1)), (ok_leq_int (decide_eq_true hx2)), (ok_neq_bool Tryz.underlying4 (bne_self_eq_false _)), ok_fa25_0, (ok_load3 (fun w hw => blk_cell (hw.2.2.2.2.1) 0)), (ok_gtr_int (decide_eq_true hx3)), (ok_neq_bool Tryz.underlying4 (bne_self_eq_false _)), trivial⟩ h hw ?_
          clear h hw
          intro a w h hw
          show Code.wp _ (Code.cond (Operand.tmp 258) B2 Code.skip) _ _ _
          refine wp_cond_false (h.opd (by kernel_rfl)) ?_
          refine wp_skip ?_
          show Code.wp _ B66 _ _ _
          exact t66 H (h.cut (by kernel_rfl)) ⟨hw.1, hw.2.1, hw.2.2.1, hw.2.2.2.1, hw.2.2.2.2.1, hw.2.2.2.2.2.1, hw.2.2.2.2.2.2.1⟩
        · obtain rfl : one = false := by simpa [*] using H.hone
          refine region_ (F := FS4 w0 A1 l1 c1 g5 k p A129_0 nxt c129_0 A135_0 c135_0) (K := [(1, (.slice A1 l1.length c1)), (5, (vP g5)), (6, (vI n)), (7, (vI sd)), (8, (vI pl)), (9, (vB true)), (13, (vI fac)), (14, (vB false)), (17, (.slice A129_0 nxt.length c129_0)), (21, (vI hs)), (22, (vB true)), (25, (.string txt)), (258, (vB false))]) (obs := [cB .neq 158 159 true true false, cI .neq 162 163 sd sd false, cI .neq 167 168 pl pl false, cB .neq 172 173 false false false, cI .neq 177 178 fac fac false, cB .neq 182 183 true true false, .call 16 [(.slice A129_0 nxt.length c129_0), (.slice A135_0 nxt.length c135_0)] (vB true), cB .neq 193 194 true true false, cI .neq 198 199 hs hs false, cB .neq 203 204 true true false, .op (Op.binOp BinOp.neq 9 (Operand.tmp 208) (Operand.tmp 209) 9) 4 [((Operand.tmp 208), (.string txt)), ((Operand.tmp 209), (.string txt))] (vB false), cB .neq 213 214 true true false, lS 25 5 g5 k p, .call 17 [(vA k p)] (vB true), cB .neq 218 220 true true false, lS 25 5 g5 k p, .call 17 [(vA k p)] (vB true), lS 25 5 g5 k p, .call 18 [(vA k p)] (vB true), cB .neq 225 227 true true false, cB .neq 231 232 true true false, cK .geq 239 n 1 true, cI .leq 243 244 n hs true, cB .neq 236 246 true true false, .op (Op.fieldAddr 25 (Operand.tmp 5) 0) 0 [((Operand.tmp 5), (vP g5))] (vP g5), .op (Op.load 3 (Operand.tmp 253)) 3 [((Operand.tmp 253), (vP g5))] (vI k), cK .gtr 254 k 0 false, cB .neq 250 256 false false false]) (by kernel_rfl) mix lex14 FS4.stays ⟨(ok_neq_bool Tryz.underlying4 (bne_self_eq_false _)), (ok_neq_int (bne_self_eq_false _)), (ok_neq_int (bne_self_eq_false _)), (ok_neq_bool Tryz.underlying4 (bne_self_eq_false _)), (ok_neq_int (bne_self_eq_false _)), (ok_neq_bool Tryz.underlying4 (bne_self_eq_false _)), ⟨⟨_, Tryz.func16, by kernel_rfl, by kernel_rfl⟩, fun w hw => FS4.stays.callsD hw (laws_zSame.calls _ _ _ _ _ _ _ _ _ (hw.2.2.2.2.2.1) (hw.2.2.2.2.2.2.1) (hw.2.2.2.2.2.2.2.1) (hw.2.2.2.2.2.2.2.2) (H.f14_31))⟩, (ok_neq_bool Tryz.underlying4 (bne_self_eq_false _)), (ok_neq_int (bne_self_eq_false _)), (ok_neq_bool Tryz.underlying4 (bne_self_eq_false _)), (ok_neq_str (by simp)), (ok_neq_bool Tryz.underlying4 (bne_self_eq_false _)), (ok_load25 (fun w hw => (hw.2.2.2.2.1))), ⟨⟨_, Tryz.func17, by kernel_rfl, by kernel_rfl⟩, fun w hw => FS4.stays.calls hw (impl_IsStreet.calls _ _ _ _ (H.f14_62))⟩, (ok_neq_bool Tryz.underlying4 (bne_self_eq_false _)), (ok_load25 (fun w hw => (hw.2.2.2.2.1))), ⟨⟨_, Tryz.func17, by kernel_rfl, by kernel_rfl⟩, fun w hw => FS4.stays.calls hw (impl_IsStreet.calls _ _ _ _ (H.f14_67))⟩, (ok_load25 (fun w hw => (hw.2.2.2.2.1))), ⟨⟨_, Tryz.func18, by kernel_rfl, by kernel_rfl⟩, fun w hw => FS4.stays.calls hw (spec_IsStreet.calls _ _ _ _ (H.f14_69))⟩, (ok_neq_bool Tryz.underlying4 (bne_self_eq_false _)), (ok_neq_bool Tryz.underlying4 (bne_self_eq_false _)), (ok_geq_int (decide_eq_true hx1)), (ok_leq_int (decide_eq_true hx2)), (ok_neq_bool Tryz.underlying4 (bne_self_eq_false _)), ok_fa25_0, (ok_load3 (fun w hw => blk_cell (hw.2.2.2.2.1) 0)), (ok_gtr_int (decide_eq_false hx3)), (ok_neq_bool Tryz.underlying4 (bne_self_eq_false _)), trivial⟩ h hw ?_
          clear h hw
          intro a w h hw
          show Code.wp _ (Code.cond (Operand.tmp 258) B2 Code.skip) _ _ _
          refine wp_cond_false (h.opd (by kernel_rfl)) ?_
          refine wp_skip ?_
          show Code.wp _ B66 _ _ _
          exact t66 H (h.cut (by kernel_rfl)) ⟨hw.1, hw.2.1, hw.2.2.1, hw.2.2.2.1, hw.2.2.2.2.1, hw.2.2.2.2.2.1, hw.2.2.2.2.2.2.1⟩
      · obtain rfl : ok = false := by simpa [*] using H.hok
        obtain rfl : one = false := by simpa using H.hone
        refine region_ (F := FS4 w0 A1 l1 c1 g5 k p A129_0 nxt c129_0 A135_0 c135_0) (K := [(1, (.slice A1 l1.length c1)), (5, (vP g5)), (6, (vI n)), (7, (vI sd)), (8, (vI pl)), (9, (vB false)), (13, (vI fac)), (14, (vB false)), (17, (.slice A129_0 nxt.length c129_0)), (21, (vI hs)), (22, (vB true)), (25, (.string txt)), (258, (vB false))]) (obs := [cB .neq 158 159 false false false, cI .neq 162 163 sd sd false, cI .neq 167 168 pl pl false, cB .neq 172 173 false false false, cI .neq 177 178 fac fac false, cB .neq 182 183 false false false, .call 16 [(.slice A129_0 nxt.length c129_0), (.slice A135_0 nxt.length c135_0)] (vB true), cB .neq 193 194 true true false, cI .neq 198 199 hs hs false, cB .neq 203 204 true true false, .op (Op.binOp BinOp.neq 9 (Operand.tmp 208) (Operand.tmp 209) 9) 4 [((Operand.tmp 208), (.string txt)), ((Operand.tmp 209), (.string txt))] (vB false), cB .neq 213 214 false false false, lS 25 5 g5 k p, .call 17 [(vA k p)] (vB true), cB .neq 218 220 true true false, lS 25 5 g5 k p, .call 17 [(vA k p)] (vB true), lS 25 5 g5 k p, .call 18 [(vA k p)] (vB true), cB .neq 225 227 true true false, cB .neq 231 232 true true false, cK .geq 239 n 1 true, cI .leq 243 244 n hs false, cB .neq 236 246 false false false, cB .neq 250 256 false false false]) (by kernel_rfl) mix lex14 FS4.stays ⟨(ok_neq_bool Tryz.underlying4 (bne_self_eq_false _)), (ok_neq_int (bne_self_eq_false _)), (ok_neq_int (bne_self_eq_false _)), (ok_neq_bool Tryz.underlying4 (bne_self_eq_false _)), (ok_neq_int (bne_self_eq_false _)), (ok_neq_bool Tryz.underlying4 (bne_self_eq_false _)), ⟨⟨_, Tryz.func16, by kernel_rfl, by kernel_rfl⟩, fun w hw => FS4.stays.callsD hw (laws_zSame.calls _ _ _ _ _ _ _ _ _ (hw.2.2.2.2.2.1) (hw.2.2.2.2.2.2.1) (hw.2.2.2.2.2.2.2.1) (hw.2.2.2.2.2.2.2.2) (H.f14_31))⟩, (ok_neq_bool Tryz.underlying4 (bne_self_eq_false _)), (ok_neq_int (bne_self_eq_false _)), (ok_neq_bool Tryz.underlying4 (bne_self_eq_false _)), (ok_neq_str (by simp)), (ok_neq_bool Tryz.underlying4 (bne_self_eq_false _)), (ok_load25 (fun w hw => (hw.2.2.2.2.1))), ⟨⟨_, Tryz.func17, by kernel_rfl, by kernel_rfl⟩, fun w hw => FS4.stays.calls hw (impl_IsStreet.calls _ _ _ _ (H.f14_62))⟩, (ok_neq_bool Tryz.underlying4 (bne_self_eq_false _)), (ok_load25 (fun w hw => (hw.2.2.2.2.1))), ⟨⟨_, Tryz.func17, by kernel_rfl, by kernel_rfl⟩, fun w hw => FS4.stays.calls hw (impl_IsStreet.calls _ _ _ _ (H.f14_67))⟩, (ok_load25 (fun w hw => (hw.2.2.2.2.1))), ⟨⟨_, Tryz.func18, by kernel_rfl, by kernel_rfl⟩, fun w hw => FS4.stays.calls hw (spec_IsStreet.calls _ _ _ _ (H.f14_69))⟩, (ok_neq_bool Tryz.underlying4 (bne_self_eq_false _)), (ok_neq_bool Tryz.underlying4 (bne_self_eq_false _)), (ok_geq_int (decide_eq_true hx1)), (ok_leq_int (decide_eq_false hx2)), (ok_neq_bool Tryz.underlying4 (bne_self_eq_false _)), (ok_neq_bool Tryz.underlying4 (bne_self_eq_false _)), trivial⟩ h hw ?_
        clear h hw
        intro a w h hw
        show Code.wp _ (Code.cond (Operand.tmp 258) B2 Code.skip) _ _ _
        refine wp_cond_false (h.opd (by kernel_rfl)) ?_
        refine wp_skip ?_
        show Code.wp _ B66 _ _ _
        exact t66 H (h.cut (by kernel_rfl)) ⟨hw.1, hw.2.1, hw.2.2.1, hw.2.2.2.1, hw.2.2.2.2.1, hw.2.2.2.2.2.1, hw.2.2.2.2.2.2.1⟩
    · obtain rfl : ok = false := by simpa [*] using H.hok
      obtain rfl : one = false := by simpa using H.hone
      refine region_ (F := FS4 w0 A1 l1 c1 g5 k p A129_0 nxt c129_0 A135_0 c135_0) (K := [(1, (.slice A1 l1.length c1)), (5, (vP g5)), (6, (vI n)), (7, (vI sd)), (8, (vI pl)), (9, (vB false)), (13, (vI fac)), (14, (vB false)), (17, (.slice A129_0 nxt.length c129_0)), (21, (vI hs)), (22, (vB true)), (25, (.string txt)), (258, (vB false))]) (obs := [cB .neq 158 159 false false false, cI .neq 162 163 sd sd false, cI .neq 167 168 pl pl false, cB .neq 172 173 false false false, cI .neq 177 178 fac fac false, cB .neq 182 183 false false false, .call 16 [(.slice A129_0 nxt.length c129_0), (.slice A135_0 nxt.length c135_0)] (vB true), cB .neq 193 194 true true false, cI .neq 198 199 hs hs false, cB .neq 203 204 true true false, .op (Op.binOp BinOp.neq 9 (Operand.tmp 208) (Operand.tmp 209) 9) 4 [((Operand.tmp 208), (.string txt)), ((Operand.tmp 209), (.string txt))] (vB false), cB .neq 213 214 false false false, lS 25 5 g5 k p, .call 17 [(vA k p)] (vB true), cB .neq 218 220 true true false, lS 25 5 g5 k p, .call 17 [(vA k p)] (vB true), lS 25 5 g5 k p, .call 18 [(vA k p)] (vB true), cB .neq 225 227 true true false, cB .neq 231 232 true true false, cK .geq 239 n 1 false, cB .neq 236 246 false false false, cB .neq 250 256 false false false]) (by kernel_rfl) mix lex14 FS4.stays ⟨(ok_neq_bool Tryz.underlying4 (bne_self_eq_false _)), (ok_neq_int (bne_self_eq_false _)), (ok_neq_int (bne_self_eq_false _)), (ok_neq_bool Tryz.underlying4 (bne_self_eq_false _)), (ok_neq_int (bne_self_eq_false _)), (ok_neq_bool Tryz.underlying4 (bne_self_eq_false _)), ⟨⟨_, Tryz.func16, by kernel_rfl, by kernel_rfl⟩, fun w hw => FS4.stays.callsD hw (laws_zSame.calls _ _ _ _ _ _ _ _ _ (hw.2.2.2.2.2.1) (hw.2.2.2.2.2.2.1) (hw.2.2.2.2.2.2.2.1) (hw.2.2.2.2.2.2.2.2) (H.f14_31))⟩, (ok_neq_bool Tryz.underlying4 (bne_self_eq_false _)), (ok_neq_int (bne_self_eq_false _)), (ok_neq_bool Tryz.underlying4 (bne_self_eq_false _)), (ok_neq_str (by simp)), (ok_neq_bool Tryz.underlying4 (bne_self_eq_false _)), (ok_load25 (fun w hw => (hw.2.2.2.2.1))), ⟨⟨_, Tryz.func17, by kernel_rfl, by kernel_rfl⟩, fun w hw => FS4.stays.calls hw (impl_IsStreet.calls _ _ _ _ (H.f14_62))⟩, (ok_neq_bool Tryz.underlying4 (bne_self_eq_false _)), (ok_load25 (fun w hw => (hw.2.2.2.2.1))), ⟨⟨_, Tryz.func17, by kernel_rfl, by kernel_rfl⟩, fun w hw => FS4.stays.calls hw (impl_IsStreet.calls _ _ _ _ (H.f14_67))⟩, (ok_load25 (fun w hw => (hw.2.2.2.2.1))), ⟨⟨_, Tryz.func18, by kernel_rfl, by kernel_rfl⟩, fun w hw => FS4.stays.calls hw (spec_IsStreet.calls _ _ _ _ (H.f14_69))⟩, (ok_neq_bool Tryz.underlying4 (bne_self_eq_false _)), (ok_neq_bool Tryz.underlying4 (bne_self_eq_false _)), (ok_geq_int (decide_eq_false hx1)), (ok_neq_bool Tryz.underlying4 (bne_self_eq_false _)), (ok_neq_bool Tryz.underlying4 (bne_self_eq_false _)), trivial⟩ h hw ?_
      clear h hw
      intro a w h hw
      show Code.wp _ (Code.cond (Operand.tmp 258) B2 Code.skip) _ _ _
      refine wp_cond_false (h.opd (by kernel_rfl)) ?_
      refine wp_skip ?_
      show Code.wp _ B66 _ _ _
      exact t66 H (h.cut (by kernel_rfl)) ⟨hw.1, hw.2.1, hw.2.2.1, hw.2.2.2.1, hw.2.2.2.2.1, hw.2.2.2.2.2.1, hw.2.2.2.2.2.2.1⟩
  | false =>
    obtain rfl : ok = false := by simpa [*] using H.hok
    obtain rfl : one = false := by simpa using H.hone
    refine region_ (F := FS4 w0 A1 l1 c1 g5 k p A129_0 nxt c129_0 A135_0 c135_0) (K := [(1, (.slice A1 l1.length c1)), (5, (vP g5)), (6, (vI n)), (7, (vI sd)), (8, (vI pl)), (9, (vB false)), (13, (vI fac)), (14, (vB false)), (17, (.slice A129_0 nxt.length c129_0)), (21, (vI hs)), (22, (vB false)), (25, (.string txt)), (258, (vB false))]) (obs := [cB .neq 158 159 false false false, cI .neq 162 163 sd sd false, cI .neq 167 168 pl pl false, cB .neq 172 173 false false false, cI .neq 177 178 fac fac false, cB .neq 182 183 false false false, .call 16 [(.slice A129_0 nxt.length c129_0), (.slice A135_0 nxt.length c135_0)] (vB true), cB .neq 193 194 false false false, cI .neq 198 199 hs hs false, cB .neq 203 204 false false false, .op (Op.binOp BinOp.neq 9 (Operand.tmp 208) (Operand.tmp 209) 9) 4 [((Operand.tmp 208), (.string txt)), ((Operand.tmp 209), (.string txt))] (vB false), cB .neq 213 214 false false false, lS 25 5 g5 k p, .call 17 [(vA k p)] (vB false), cB .neq 218 220 false false false, lS 25 5 g5 k p, .call 17 [(vA k p)] (vB false), lS 25 5 g5 k p, .call 18 [(vA k p)] (vB false), cB .neq 225 227 false false false, cB .neq 231 232 false false false, cB .neq 236 246 false false false, cB .neq 250 256 false false false]) (by kernel_rfl) mix lex14 FS4.stays ⟨(ok_neq_bool Tryz.underlying4 (bne_self_eq_false _)), (ok_neq_int (bne_self_eq_false _)), (ok_neq_int (bne_self_eq_false _)), (ok_neq_bool Tryz.underlying4 (bne_self_eq_false _)), (ok_neq_int (bne_self_eq_false _)), (ok_neq_bool Tryz.underlying4 (bne_self_eq_false _)), ⟨⟨_, Tryz.func16, by kernel_rfl, by kernel_rfl⟩, fun w hw => FS4.stays.callsD hw (laws_zSame.calls _ _ _ _ _ _ _ _ _ (hw.2.2.2.2.2.1) (hw.2.2.2.2.2.2.1) (hw.2.2.2.2.2.2.2.1) (hw.2.2.2.2.2.2.2.2) (H.f14_31))⟩, (ok_neq_bool Tryz.underlying4 (bne_self_eq_false _)), (ok_neq_int (bne_self_eq_false _)), (ok_neq_bool Tryz.underlying4 (bne_self_eq_false _)), (ok_neq_str (by simp)), (ok_neq_bool Tryz.underlying4 (bne_self_eq_false _)), (ok_load25 (fun w hw => (hw.2.2.2.2.1))), ⟨⟨_, Tryz.func17, by kernel_rfl, by kernel_rfl⟩, fun w hw => FS4.stays.calls hw (impl_IsStreet.calls _ _ _ _ (H.f14_62))⟩, (ok_neq_bool Tryz.underlying4 (bne_self_eq_false _)), (ok_load25 (fun w hw => (hw.2.2.2.2.1))), ⟨⟨_, Tryz.func17, by kernel_rfl, by kernel_rfl⟩, fun w hw => FS4.stays.calls hw (impl_IsStreet.calls _ _ _ _ (H.f14_67))⟩, (ok_load25 (fun w hw => (hw.2.2.2.2.1))), ⟨⟨_, Tryz.func18, by kernel_rfl, by kernel_rfl⟩, fun w hw => FS4.stays.calls hw (spec_IsStreet.calls _ _ _ _ (H.f14_69))⟩, (ok_neq_bool Tryz.underlying4 (bne_self_eq_false _)), (ok_neq_bool Tryz.underlying4 (bne_self_eq_false _)), (ok_neq_bool Tryz.underlying4 (bne_self_eq_false _)), (ok_neq_bool Tryz.underlying4 (bne_self_eq_false _)), trivial⟩ h hw ?_
    clear h hw
    intro a w h hw
    show Code.wp _ (Code.cond (Operand.tmp 258) B2 Code.skip) _ _ _
    refine wp_cond_false (h.opd (by kernel_rfl)) ?_
    refine wp_skip ?_
    show Code.wp _ B66 _ _ _
    exact t66 H (h.cut (by kernel_rfl)) ⟨hw.1, hw.2.1, hw.2.2.1, hw.2.2.2.1, hw.2.2.2.2.1, hw.2.2.2.2.2.1, hw.2.2.2.2.2.2.1⟩
theorem t68 (H : Facts kk l0 l1 k p n sd pl ok fac one nxt hs five txt lf rt sx sy k1 p1 wh at1 n1 b1 k2 p2 fr to1 wd wk b2 k3 p3 sf nu b3 su tw k4 p4 b4) {a : Act} {w : World} (h : Has 669 a [(1, (.slice A1 l1.length c1)), (5, (vP g5)), (6, (vI n)), (7, (vI sd)), (8, (vI pl)), (9, (vB ok)), (10, (vI sd)), (11, (vI pl)), (12, (vB ok)), (13, (vI fac)), (14, (vB one)), (15, (vI fac)), (16, (vB one)), (17, (.slice A129_0 nxt.length c129_0)), (18, (vB ok)), (19, (.slice A135_0 nxt.length c135_0)), (20, (vB ok)), (21, (vI hs)), (22, (vB five)), (23, (vI hs)), (24, (vB five)), (25, (.string txt)), (26, (vB five))]) (hw : FS4 w0 A1 l1 c1 g5 k p A129_0 nxt c129_0 A135_0 c135_0 w) : B68.wp Tryz.prog (Ql w0) a w := by
  show Code.wp _ (Code.seq (Code.region 13 R13.toArray false) B67) _ _ _
  refine wp_seq ?_
  refine region_ (F := FS4 w0 A1 l1 c1 g5 k p A129_0 nxt c129_0 A135_0 c135_0) (K := [(1, (.slice A1 l1.length c1)), (5, (vP g5)), (6, (vI n)), (7, (vI sd)), (8, (vI pl)), (9, (vB ok)), (10, (vI sd)), (11, (vI pl)), (12, (vB ok)), (13, (vI fac)), (14, (vB one)), (15, (vI fac)), (16, (vB one)), (17, (.slice A129_0 nxt.length c129_0)), (18, (vB ok)), (19, (.slice A135_0 nxt.length c135_0)), (20, (vB ok)), (21, (vI hs)), (22, (vB five)), (23, (vI hs)), (24, (vB five)), (25, (.string txt)), (26, (vB five)), (27, (.string txt)), (28, (vB five))]) (obs := [lS 25 5 g5 k p, .call 15 [(vA k p)] (.tuple #[(.string txt), (vB five)])]) (by kernel_rfl) mix rfl FS4.stays ⟨(ok_load25 (fun w hw => (hw.2.2.2.2.1))), ⟨⟨_, Tryz.func15, by kernel_rfl, by kernel_rfl⟩, fun w hw => FS4.stays.calls hw (spec_StreetText.calls _ _ _ _ _ _ (H.f13_1))⟩, trivial⟩ h hw ?_
  clear h hw
  intro a w h hw
  show Code.wp _ B67 _ _ _
  exact t67 H h hw
theorem t69 (H : Facts kk l0 l1 k p n sd pl ok fac one nxt hs five txt lf rt sx sy k1 p1 wh at1 n1 b1 k2 p2 fr to1 wd wk b2 k3 p3 sf nu b3 su tw k4 p4 b4) {a : Act} {w : World} (h : Has 669 a [(1, (.slice A1 l1.length c1)), (5, (vP g5)), (6, (vI n)), (7, (vI sd)), (8, (vI pl)), (9, (vB ok)), (10, (vI sd)), (11, (vI pl)), (12, (vB ok)), (13, (vI fac)), (14, (vB one)), (15, (vI fac)), (16, (vB one)), (17, (.slice A129_0 nxt.length c129_0)), (18, (vB ok)), (19, (.slice A135_0 nxt.length c135_0)), (20, (vB ok)), (21, (vI hs)), (22, (vB five)), (23, (vI hs)), (24, (vB five))]) (hw : FS4 w0 A1 l1 c1 g5 k p A129_0 nxt c129_0 A135_0 c135_0 w) : B69.wp Tryz.prog (Ql w0) a w := by
  show Code.wp _ (Code.seq (Code.region 12 R12.toArray false) B68) _ _ _
  refine wp_seq ?_
  refine region_ (F := FS4 w0 A1 l1 c1 g5 k p A129_0 nxt c129_0 A135_0 c135_0) (K := [(1, (.slice A1 l1.length c1)), (5, (vP g5)), (6, (vI n)), (7, (vI sd)), (8, (vI pl)), (9, (vB ok)), (10, (vI sd)), (11, (vI pl)), (12, (vB ok)), (13, (vI fac)), (14, (vB one)), (15, (vI fac)), (16, (vB one)), (17, (.slice A129_0 nxt.length c129_0)), (18, (vB ok)), (19, (.slice A135_0 nxt.length c135_0)), (20, (vB ok)), (21, (vI hs)), (22, (vB five)), (23, (vI hs)), (24, (vB five)), (25, (.string txt)), (26, (vB five))]) (obs := [lS 25 5 g5 k p, .call 14 [(vA k p)] (.tuple #[(.string txt), (vB five)])]) (by kernel_rfl) mix rfl FS4.stays ⟨(ok_load25 (fun w hw => (hw.2.2.2.2.1))), ⟨⟨_, Tryz.func14, by kernel_rfl, by kernel_rfl⟩, fun w hw => FS4.stays.calls hw (impl_StreetText.calls _ _ _ _ _ (H.f12_1) (hw.2.1))⟩, trivial⟩ h hw ?_
  clear h hw
  intro a w h hw
  show Code.wp _ B68 _ _ _
  exact t68 H h hw
theorem t70 (H : Facts kk l0 l1 k p n sd pl ok fac one nxt hs five txt lf rt sx sy k1 p1 wh at1 n1 b1 k2 p2 fr to1 wd wk b2 k3 p3 sf nu b3 su tw k4 p4 b4) {a : Act} {w : World} (h : Has 669 a [(1, (.slice A1 l1.length c1)), (5, (vP g5)), (6, (vI n)), (7, (vI sd)), (8, (vI pl)), (9, (vB ok)), (10, (vI sd)), (11, (vI pl)), (12, (vB ok)), (13, (vI fac)), (14, (vB one)), (15, (vI fac)), (16, (vB one)), (17, (.slice A129_0 nxt.length c129_0)), (18, (vB ok)), (19, (.slice A135_0 nxt.length c135_0)), (20, (vB ok)), (21, (vI hs)), (22, (vB five))]) (hw : FS4 w0 A1 l1 c1 g5 k p A129_0 nxt c129_0 A135_0 c135_0 w) : B70.wp Tryz.prog (Ql w0) a w := by
  show Code.wp _ (Code.seq (Code.region 11 R11.toArray false) B69) _ _ _
  refine wp_seq ?_
  refine region_ (F := FS4 w0 A1 l1 c1 g5 k p A129_0 nxt c129_0 A135_0 c135_0) (K := [(1, (.slice A1 l1.length c1)), (5, (vP g5)), (6, (vI n)), (7, (vI sd)), (8, (vI pl)), (9, (vB ok)), (10, (vI sd)), (11, (vI pl)), (12, (vB ok)), (13, (vI fac)), (14, (vB one)), (15, (vI fac)), (16, (vB one)), (17, (.slice A129_0 nxt.length c129_0)), (18, (vB ok)), (19, (.slice A135_0 nxt.length c135_0)), (20, (vB ok)), (21, (vI hs)), (22, (vB five)), (23, (vI hs)), (24, (vB five))]) (obs := [lS 25 5 g5 k p, .call 13 [(vA k p)] (.tuple #[(vI hs), (vB five)])]) (by kernel_rfl) mix rfl FS4.stays ⟨(ok_load25 (fun w hw => (hw.2.2.2.2.1))), ⟨⟨_, Tryz.func13, by kernel_rfl, by kernel_rfl⟩, fun w hw => FS4.stays.calls hw (spec_HousesOf.calls _ _ _ _ _ (H.f11_1))⟩, trivial⟩ h hw ?_
  clear h hw
  intro a w h hw
  show Code.wp _ B69 _ _ _
  exact t69 H h hw
theorem t71 (H : Facts kk l0 l1 k p n sd pl ok fac one nxt hs five txt lf rt sx sy k1 p1 wh at1 n1 b1 k2 p2 fr to1 wd wk b2 k3 p3 sf nu b3 su tw k4 p4 b4) {a : Act} {w : World} (h : Has 669 a [(1, (.slice A1 l1.length c1)), (5, (vP g5)), (6, (vI n)), (7, (vI sd)), (8, (vI pl)), (9, (vB ok)), (10, (vI sd)), (11, (vI pl)), (12, (vB ok)), (13, (vI fac)), (14, (vB one)), (15, (vI fac)), (16, (vB one)), (17, (.slice A129_0 nxt.length c129_0)), (18, (vB ok)), (19, (.slice A135_0 nxt.length c135_0)), (20, (vB ok))]) (hw : FS4 w0 A1 l1 c1 g5 k p A129_0 nxt c129_0 A135_0 c135_0 w) : B71.wp Tryz.prog (Ql w0) a w := by
  show Code.wp _ (Code.seq (Code.region 10 R10.toArray false) B70) _ _ _
  refine wp_seq ?_
  refine region_ (F := FS4 w0 A1 l1 c1 g5 k p A129_0 nxt c129_0 A135_0 c135_0) (K := [(1, (.slice A1 l1.length c1)), (5, (vP g5)), (6, (vI n)), (7, (vI sd)), (8, (vI pl)), (9, (vB ok)), (10, (vI sd)), (11, (vI pl)), (12, (vB ok)), (13, (vI fac)), (14, (vB one)), (15, (vI fac)), (16, (vB one)), (17, (.slice A129_0 nxt.length c129_0)), (18, (vB ok)), (19, (.slice A135_0 nxt.length c135_0)), (20, (vB ok)), (21, (vI hs)), (22, (vB five))]) (obs := [lS 25 5 g5 k p, .call 12 [(vA k p)] (.tuple #[(vI hs), (vB five)])]) (by kernel_rfl) mix rfl FS4.stays ⟨(ok_load25 (fun w hw => (hw.2.2.2.2.1))), ⟨⟨_, Tryz.func12, by kernel_rfl, by kernel_rfl⟩, fun w hw => FS4.stays.calls hw (impl_HousesOf.calls _ _ _ _ _ (H.f10_1))⟩, trivial⟩ h hw ?_
  clear h hw
  intro a w h hw
  show Code.wp _ B70 _ _ _
  exact t70 H h hw
theorem t72 (H : Facts kk l0 l1 k p n sd pl ok fac one nxt hs five txt lf rt sx sy k1 p1 wh at1 n1 b1 k2 p2 fr to1 wd wk b2 k3 p3 sf nu b3 su tw k4 p4 b4) {a : Act} {w : World} (h : Has 669 a [(1, (.slice A1 l1.length c1)), (5, (vP g5)), (6, (vI n)), (7, (vI sd)), (8, (vI pl)), (9, (vB ok)), (10, (vI sd)), (11, (vI pl)), (12, (vB ok)), (13, (vI fac)), (14, (vB one)), (15, (vI fac)), (16, (vB one)), (17, (.slice A129_0 nxt.length c129_0)), (18, (vB ok))]) (hw : FS3 w0 A1 l1 c1 g5 k p A129_0 nxt c129_0 w) : B72.wp Tryz.prog (Ql w0) a w := by
  show Code.wp _ (Code.seq (Code.region 9 R9.toArray false) B71) _ _ _
  refine wp_seq ?_
  refine region_list ?_
  refine quiet_ 0 2 2 (F := FS3 w0 A1 l1 c1 g5 k p A129_0 nxt c129_0) (K := [(1, (.slice A1 l1.length c1)), (5, (vP g5)), (6, (vI n)), (7, (vI sd)), (8, (vI pl)), (9, (vB ok)), (10, (vI sd)), (11, (vI pl)), (12, (vB ok)), (13, (vI fac)), (14, (vB one)), (15, (vI fac)), (16, (vB one)), (17, (.slice A129_0 nxt.length c129_0)), (18, (vB ok)), (133, (vA k p)), (134, (vI n))]) (obs := [lS 25 5 g5 k p]) (by kernel_rfl) rfl ⟨(ok_load25 (fun w hw => (hw.2.2.2.2.1))), trivial⟩ h hw ?_
  clear h hw
  intro a w h hw
  refine made_ (σ := Option Addr × Nat) (F := FS3 w0 A1 l1 c1 g5 k p A129_0 nxt c129_0) 2 3 (f := 11) (d := 135) (vs := [(vA k p), (vI n)]) (by kernel_rfl) rfl h hw Tryz.func11 (by kernel_rfl) (by kernel_rfl) (fun s => (.tuple #[(.slice s.1 nxt.length s.2), (vB ok)])) (fun s w => FS4 w0 A1 l1 c1 g5 k p A129_0 nxt c129_0 s.1 s.2 w) ?_ ?_
  · intro w hw
    refine (spec_NextHouses.calls _ _ _ _ _ _ _ (H.f9_2)).mono ?_
    rintro e w' ⟨v0_, he, hR0, hb⟩
    obtain ⟨A0_, c0_, rfl, hc0_, hC0_⟩ := Kd.R_reads hR0
    have hw' := FS3.stays w w' hw hb
    exact ⟨(A0_, c0_), he, ⟨hw'.1, hw'.2.1, hw'.2.2.1, hw'.2.2.2.1, hw'.2.2.2.2.1, hw'.2.2.2.2.2.1, hw'.2.2.2.2.2.2, hC0_, hc0_⟩⟩
  clear h hw
  rintro ⟨A135_0, c135_0⟩ a w h hw
  replace hw : FS4 w0 A1 l1 c1 g5 k p A129_0 nxt c129_0 A135_0 c135_0 w := hw
  replace h : Has 669 a ((135, (.tuple #[(.slice A135_0 nxt.length c135_0), (vB ok)])) :: [(1, (.slice A1 l1.length c1)), (5, (vP g5)), (6, (vI n)), (7, (vI sd)), (8, (vI pl)), (9, (vB ok)), (10, (vI sd)), (11, (vI pl)), (12, (vB ok)), (13, (vI fac)), (14, (vB one)), (15, (vI fac)), (16, (vB one)), (17, (.slice A129_0 nxt.length c129_0)), (18, (vB ok)), (133, (vA k p)), (134, (vI n))]) := h
  refine quiet_ 3 5 8 (F := FS4 w0 A1 l1 c1 g5 k p A129_0 nxt c129_0 A135_0 c135_0) (K := [(1, (.slice A1 l1.length c1)), (5, (vP g5)), (6, (vI n)), (7, (vI sd)), (8, (vI pl)), (9, (vB ok)), (10, (vI sd)), (11, (vI pl)), (12, (vB ok)), (13, (vI fac)), (14, (vB one)), (15, (vI fac)), (16, (vB one)), (17, (.slice A129_0 nxt.length c129_0)), (18, (vB ok)), (19, (.slice A135_0 nxt.length c135_0)), (20, (vB ok))]) (obs := []) (by kernel_rfl) rfl trivial h hw ?_
  clear h hw
  intro a w h hw
  refine end_ (by kernel_rfl) ?_
  show Code.wp _ B71 _ _ _
  exact t71 H h hw
theorem t73 (H : Facts kk l0 l1 k p n sd pl ok fac one nxt hs five txt lf rt sx sy k1 p1 wh at1 n1 b1 k2 p2 fr to1 wd wk b2 k3 p3 sf nu b3 su tw k4 p4 b4) {a : Act} {w : World} (h : Has 669 a [(1, (.slice A1 l1.length c1)), (5, (vP g5)), (6, (vI n)), (7, (vI sd)), (8, (vI pl)), (9, (vB ok)), (10, (vI sd)), (11, (vI pl)), (12, (vB ok)), (13, (vI fac)), (14, (vB one)), (15, (vI fac)), (16, (vB one))]) (hw : FS2 w0 A1 l1 c1 g5 k p w) : B73.wp Tryz.prog (Ql w0) a w := by
  show Code.wp _ (Code.seq (Code.region 8 R8.toArray false) B72) _ _ _
  refine wp_seq ?_
  refine region_list ?_
  refine quiet_ 0 2 2 (F := FS2 w0 A1 l1 c1 g5 k p) (K := [(1, (.slice A1 l1.length c1)), (5, (vP g5)), (6, (vI n)), (7, (vI sd)), (8, (vI pl)), (9, (vB ok)), (10, (vI sd)), (11, (vI pl)), (12, (vB ok)), (13, (vI fac)), (14, (vB one)), (15, (vI fac)), (16, (vB one)), (127, (vA k p)), (128, (vI n))]) (obs := [lS 25 5 g5 k p]) (by kernel_rfl) rfl ⟨(ok_load25 (fun w hw => (hw.2.2.2.2))), trivial⟩ h hw ?_
  clear h hw
  intro a w h hw
  refine made_ (σ := Option Addr × Nat) (F := FS2 w0 A1 l1 c1 g5 k p) 2 3 (f := 10) (d := 129) (vs := [(vA k p), (vI n)]) (by kernel_rfl) rfl h hw Tryz.func10 (by kernel_rfl) (by kernel_rfl) (fun s => (.tuple #[(.slice s.1 nxt.length s.2), (vB ok)])) (fun s w => FS3 w0 A1 l1 c1 g5 k p s.1 nxt s.2 w) ?_ ?_
  · intro w hw
    refine (impl_NextHouses.calls _ _ _ _ _ _ _ (H.f8_2)).mono ?_
    rintro e w' ⟨v0_, he, hR0, hb⟩
    obtain ⟨A0_, c0_, rfl, hc0_, hC0_⟩ := Kd.R_reads hR0
    have hw' := FS2.stays w w' hw hb
    exact ⟨(A0_, c0_), he, ⟨hw'.1, hw'.2.1, hw'.2.2.1, hw'.2.2.2.1, hw'.2.2.2.2, hC0_, hc0_⟩⟩
  clear h hw
  rintro ⟨A129_0, c129_0⟩ a w h hw
  replace hw : FS3 w0 A1 l1 c1 g5 k p A129_0 nxt c129_0 w := hw
  replace h : Has 669 a ((129, (.tuple #[(.slice A129_0 nxt.length c129_0), (vB ok)])) :: [(1, (.slice A1 l1.length c1)), (5, (vP g5)), (6, (vI n)), (7, (vI sd)), (8, (vI pl)), (9, (vB ok)), (10, (vI sd)), (11, (vI pl)), (12, (vB ok)), (13, (vI fac)), (14, (vB one)), (15, (vI fac)), (16, (vB one)), (127, (vA k p)), (128, (vI n))]) := h
  refine quiet_ 3 5 8 (F := FS3 w0 A1 l1 c1 g5 k p A129_0 nxt c129_0) (K := [(1, (.slice A1 l1.length c1)), (5, (vP g5)), (6, (vI n)), (7, (vI sd)), (8, (vI pl)), (9, (vB ok)), (10, (vI sd)), (11, (vI pl)), (12, (vB ok)), (13, (vI fac)), (14, (vB one)), (15, (vI fac)), (16, (vB one)), (17, (.slice A129_0 nxt.length c129_0)), (18, (vB ok))]) (obs := []) (by kernel_rfl) rfl trivial h hw ?_
  clear h hw
  intro a w h hw
  refine end_ (by kernel_rfl) ?_
  show Code.wp _ B72 _ _ _
  exact t72 H h hw
theorem t74 (H : Facts kk l0 l1 k p n sd pl ok fac one nxt hs five txt lf rt sx sy k1 p1 wh at1 n1 b1 k2 p2 fr to1 wd wk b2 k3 p3 sf nu b3 su tw k4 p4 b4) {a : Act} {w : World} (h : Has 669 a [(1, (.slice A1 l1.length c1)), (5, (vP g5)), (6, (vI n)), (7, (vI sd)), (8, (vI pl)), (9, (vB ok)), (10, (vI sd)), (11, (vI pl)), (12, (vB ok)), (13, (vI fac)), (14, (vB one))]) (hw : FS2 w0 A1 l1 c1 g5 k p w) : B74.wp Tryz.prog (Ql w0) a w := by
  show Code.wp _ (Code.seq (Code.region 7 R7.toArray false) B73) _ _ _
  refine wp_seq ?_
  refine region_ (F := FS2 w0 A1 l1 c1 g5 k p) (K := [(1, (.slice A1 l1.length c1)), (5, (vP g5)), (6, (vI n)), (7, (vI sd)), (8, (vI pl)), (9, (vB ok)), (10, (vI sd)), (11, (vI pl)), (12, (vB ok)), (13, (vI fac)), (14, (vB one)), (15, (vI fac)), (16, (vB one))]) (obs := [lS 25 5 g5 k p, .call 9 [(vA k p), (vI n)] (.tuple #[(vI fac), (vB one)])]) (by kernel_rfl) mix rfl FS2.stays ⟨(ok_load25 (fun w hw => (hw.2.2.2.2))), ⟨⟨_, Tryz.func9, by kernel_rfl, by kernel_rfl⟩, fun w hw => FS2.stays.calls hw (spec_OppositeOf.calls _ _ _ _ _ _ _ (H.f7_2))⟩, trivial⟩ h hw ?_
  clear h hw
  intro a w h hw
  show Code.wp _ B73 _ _ _
  exact t73 H h hw
theorem t75 (H : Facts kk l0 l1 k p n sd pl ok fac one nxt hs five txt lf rt sx sy k1 p1 wh at1 n1 b1 k2 p2 fr to1 wd wk b2 k3 p3 sf nu b3 su tw k4 p4 b4) {a : Act} {w : World} (h : Has 669 a [(1, (.slice A1 l1.length c1)), (5, (vP g5)), (6, (vI n)), (7, (vI sd)), (8, (vI pl)), (9, (vB ok)), (10, (vI sd)), (11, (vI pl)), (12, (vB ok))]) (hw : FS2 w0 A1 l1 c1 g5 k p w) : B75.wp Tryz.prog (Ql w0) a w := by
  show Code.wp _ (Code.seq (Code.region 6 R6.toArray false) B74) _ _ _
  refine wp_seq ?_
  refine region_ (F := FS2 w0 A1 l1 c1 g5 k p) (K := [(1, (.slice A1 l1.length c1)), (5, (vP g5)), (6, (vI n)), (7, (vI sd)), (8, (vI pl)), (9, (vB ok)), (10, (vI sd)), (11, (vI pl)), (12, (vB ok)), (13, (vI fac)), (14, (vB one))]) (obs := [lS 25 5 g5 k p, .call 8 [(vA k p), (vI n)] (.tuple #[(vI fac), (vB one)])]) (by kernel_rfl) mix rfl FS2.stays ⟨(ok_load25 (fun w hw => (hw.2.2.2.2))), ⟨⟨_, Tryz.func8, by kernel_rfl, by kernel_rfl⟩, fun w hw => FS2.stays.calls hw (impl_OppositeOf.calls _ _ _ _ _ _ _ (H.f6_2))⟩, trivial⟩ h hw ?_
  clear h hw
  intro a w h hw
  show Code.wp _ B74 _ _ _
  exact t74 H h hw
theorem t76 (H : Facts kk l0 l1 k p n sd pl ok fac one nxt hs five txt lf rt sx sy k1 p1 wh at1 n1 b1 k2 p2 fr to1 wd wk b2 k3 p3 sf nu b3 su tw k4 p4 b4) {a : Act} {w : World} (h : Has 669 a [(1, (.slice A1 l1.length c1)), (5, (vP g5)), (6, (vI n)), (7, (vI sd)), (8, (vI pl)), (9, (vB ok))]) (hw : FS2 w0 A1 l1 c1 g5 k p w) : B76.wp Tryz.prog (Ql w0) a w := by
  show Code.wp _ (Code.seq (Code.region 5 R5.toArray false) B75) _ _ _
  refine wp_seq ?_
  refine region_ (F := FS2 w0 A1 l1 c1 g5 k p) (K := [(1, (.slice A1 l1.length c1)), (5, (vP g5)), (6, (vI n)), (7, (vI sd)), (8, (vI pl)), (9, (vB ok)), (10, (vI sd)), (11, (vI pl)), (12, (vB ok))]) (obs := [lS 25 5 g5 k p, .call 7 [(vA k p), (vI n)] (.tuple #[(vI sd), (vI pl), (vB ok)])]) (by kernel_rfl) mix rfl FS2.stays ⟨(ok_load25 (fun w hw => (hw.2.2.2.2))), ⟨⟨_, Tryz.func7, by kernel_rfl, by kernel_rfl⟩, fun w hw => FS2.stays.calls hw (spec_PlotOf.calls _ _ _ _ _ _ _ (H.f5_2))⟩, trivial⟩ h hw ?_
  clear h hw
  intro a w h hw
  show Code.wp _ B75 _ _ _
  exact t75 H h hw
theorem t77 (H : Facts kk l0 l1 k p n sd pl ok fac one nxt hs five txt lf rt sx sy k1 p1 wh at1 n1 b1 k2 p2 fr to1 wd wk b2 k3 p3 sf nu b3 su tw k4 p4 b4) {a : Act} {w : World} (h : Has 669 a [(1, (.slice A1 l1.length c1)), (5, (vP g5)), (6, (vI n))]) (hw : FS2 w0 A1 l1 c1 g5 k p w) : B77.wp Tryz.prog (Ql w0) a w := by
  show Code.wp _ (Code.seq (Code.region 4 R4.toArray false) B76) _ _ _
  refine wp_seq ?_
  refine region_ (F := FS2 w0 A1 l1 c1 g5 k p) (K := [(1, (.slice A1 l1.length c1)), (5, (vP g5)), (6, (vI n)), (7, (vI sd)), (8, (vI pl)), (9, (vB ok))]) (obs := [lS 25 5 g5 k p, .call 6 [(vA k p), (vI n)] (.tuple #[(vI sd), (vI pl), (vB ok)])]) (by kernel_rfl) mix rfl FS2.stays ⟨(ok_load25 (fun w hw => (hw.2.2.2.2))), ⟨⟨_, Tryz.func6, by kernel_rfl, by kernel_rfl⟩, fun w hw => FS2.stays.calls hw (impl_PlotOf.calls _ _ _ _ _ _ _ (H.f4_2))⟩, trivial⟩ h hw ?_
  clear h hw
  intro a w h hw
  show Code.wp _ B76 _ _ _
  exact t76 H h hw
theorem t78 (H : Facts kk l0 l1 k p n sd pl ok fac one nxt hs five txt lf rt sx sy k1 p1 wh at1 n1 b1 k2 p2 fr to1 wd wk b2 k3 p3 sf nu b3 su tw k4 p4 b4) {a : Act} {w : World} (h : Has 669 a [(0, (.slice A0 l0.length c0)), (1, (.slice A1 l1.length c1))]) (hw : FS0 w0 A0 l0 c0 A1 l1 c1 w) : B78.wp Tryz.prog (Ql w0) a w := by
  show Code.wp _ (Code.seq (Code.region 3 R3.toArray false) B77) _ _ _
  refine wp_seq ?_
  refine region_list ?_
  refine quiet_ 0 5 5 (F := FS0 w0 A0 l0 c0 A1 l1 c1) (K := [(1, (.slice A1 l1.length c1)), (98, (vA k p)), (99, (vI n))]) (obs := [.call 5 [(.slice A0 l0.length c0)] (.tuple #[(vA k p), (vI n)])]) (by kernel_rfl) rfl ⟨⟨⟨_, Tryz.func5, by kernel_rfl, by kernel_rfl⟩, fun w hw => FS0.stays.calls hw (spec_DrawPlotOf.calls _ _ _ _ _ _ _ _ (hw.2.2.1) (hw.2.2.2.1) (H.f3_1))⟩, trivial⟩ h hw ?_
  clear h hw
  intro a w h hw
  refine new25 (F := FS0 w0 A0 l0 c0 A1 l1 c1) 5 7 (d := 5) (y := k) (z := p) (by kernel_rfl) rfl h FS0.stays hw ?_
  clear h hw
  intro g5 a w h hw
  replace hw : FS1 w0 A0 l0 c0 A1 l1 c1 g5 k p w := ⟨hw.1.1, hw.1.2.1, hw.1.2.2.1, hw.1.2.2.2.1, hw.1.2.2.2.2.1, hw.1.2.2.2.2.2, hw.2⟩
  refine quiet_ 7 1 8 (F := FS1 w0 A0 l0 c0 A1 l1 c1 g5 k p) (K := [(1, (.slice A1 l1.length c1)), (5, (vP g5)), (6, (vI n))]) (obs := []) (by kernel_rfl) rfl trivial h hw ?_
  clear h hw
  intro a w h hw
  refine end_ (by kernel_rfl) ?_
  show Code.wp _ B77 _ _ _
  exact t77 H h ⟨hw.1, hw.2.1, hw.2.2.2.2.1, hw.2.2.2.2.2.1, hw.2.2.2.2.2.2⟩
theorem t79 (H : Facts kk l0 l1 k p n sd pl ok fac one nxt hs five txt lf rt sx sy k1 p1 wh at1 n1 b1 k2 p2 fr to1 wd wk b2 k3 p3 sf nu b3 su tw k4 p4 b4) (hbig : laws_big.f l0 l1 = some false) {a : Act} {w : World} (h : Has 669 a [(0, (.slice A0 l0.length c0)), (1, (.slice A1 l1.length c1))]) (hw : FS0 w0 A0 l0 c0 A1 l1 c1 w) : B79.wp Tryz.prog (Ql w0) a w := by
  show Code.wp _ (Code.seq B1 B78) _ _ _
  refine wp_seq ?_
  show Code.wp _ (Code.seq (Code.region 1 R1.toArray false) (Code.cond (Operand.tmp 94) B0 Code.skip)) _ _ _
  refine wp_seq ?_
  refine region_ (F := FS0 w0 A0 l0 c0 A1 l1 c1) (K := [(0, (.slice A0 l0.length c0)), (1, (.slice A1 l1.length c1)), (94, (vB false))]) (obs := [.call 4 [(.slice A0 l0.length c0), (.slice A1 l1.length c1)] (vB false)]) (by kernel_rfl) mix rfl FS0.stays ⟨⟨⟨_, Tryz.func4, by kernel_rfl, by kernel_rfl⟩, fun w hw => FS0.stays.callsD hw (laws_big.calls _ _ _ _ _ _ _ _ (hw.2.2.1) (hw.2.2.2.1) (hw.2.2.2.2.1) (hw.2.2.2.2.2) hbig)⟩, trivial⟩ h hw ?_
  clear h hw
  intro a w h hw
  show Code.wp _ (Code.cond (Operand.tmp 94) B0 Code.skip) _ _ _
  refine wp_cond_false (h.opd (by kernel_rfl)) ?_
  refine wp_skip ?_
  show Code.wp _ B78 _ _ _
  exact t78 H (h.cut (by kernel_rfl)) hw
theorem t80 (H : Facts kk l0 l1 k p n sd pl ok fac one nxt hs five txt lf rt sx sy k1 p1 wh at1 n1 b1 k2 p2 fr to1 wd wk b2 k3 p3 sf nu b3 su tw k4 p4 b4) (hbig : laws_big.f l0 l1 = some false) {a : Act} {w : World} (h : Has 669 a [(0, (.slice A0 l0.length c0)), (1, (.slice A1 l1.length c1))]) (hw : FS0 w0 A0 l0 c0 A1 l1 c1 w) : B80.wp Tryz.prog (Ql w0) a w := by
  show Code.wp _ (Code.seq (Code.region 0 R0.toArray false) B79) _ _ _
  refine wp_seq ?_
  refine region_ (F := FS0 w0 A0 l0 c0 A1 l1 c1) (K := [(0, (.slice A0 l0.length c0)), (1, (.slice A1 l1.length c1))]) (obs := []) (by kernel_rfl) mix rfl FS0.stays trivial h hw ?_
  clear h hw
  intro a w h hw
  show Code.wp _ B79 _ _ _
  exact t79 H hbig h hw
theorem u0T {a : Act} {w : World} (h : Has 669 a []) (hw : FS15 w0 w) : B0.wp Tryz.prog (Exit.then (fun a w => Code.wp Tryz.prog B78 (Ql w0) a w) (Ql w0)) a w := by
  show Code.wp _ (Code.seq (Code.region 2 R2.toArray false) Code.ret) _ _ _
  refine wp_seq ?_
  refine region_ (F := FS15 w0) (K := [(4, (vB true))]) (obs := []) (by kernel_rfl) mix rfl FS15.stays trivial h hw ?_
  clear h hw
  intro a w h hw
  show Code.wp _ Code.ret _ _ _
  refine wp_ret ?_
  exact post_ h rfl (hw.1)
theorem u79T (hbig : laws_big.f l0 l1 = some true) {a : Act} {w : World} (h : Has 669 a [(0, (.slice A0 l0.length c0)), (1, (.slice A1 l1.length c1))]) (hw : FS0 w0 A0 l0 c0 A1 l1 c1 w) : B79.wp Tryz.prog (Ql w0) a w := by
  show Code.wp _ (Code.seq B1 B78) _ _ _
  refine wp_seq ?_
  show Code.wp _ (Code.seq (Code.region 1 R1.toArray false) (Code.cond (Operand.tmp 94) B0 Code.skip)) _ _ _
  refine wp_seq ?_
  refine region_ (F := FS0 w0 A0 l0 c0 A1 l1 c1) (K := [(0, (.slice A0 l0.length c0)), (1, (.slice A1 l1.length c1)), (94, (vB true))]) (obs := [.call 4 [(.slice A0 l0.length c0), (.slice A1 l1.length c1)] (vB true)]) (by kernel_rfl) mix rfl FS0.stays ⟨⟨⟨_, Tryz.func4, by kernel_rfl, by kernel_rfl⟩, fun w hw => FS0.stays.callsD hw (laws_big.calls _ _ _ _ _ _ _ _ (hw.2.2.1) (hw.2.2.2.1) (hw.2.2.2.2.1) (hw.2.2.2.2.2) hbig)⟩, trivial⟩ h hw ?_
  clear h hw
  intro a w h hw
  show Code.wp _ (Code.cond (Operand.tmp 94) B0 Code.skip) _ _ _
  refine wp_cond_true (h.opd (by kernel_rfl)) ?_
  exact u0T (h.cut (by kernel_rfl)) ⟨hw.1, hw.2.1⟩
theorem u80T (hbig : laws_big.f l0 l1 = some true) {a : Act} {w : World} (h : Has 669 a [(0, (.slice A0 l0.length c0)), (1, (.slice A1 l1.length c1))]) (hw : FS0 w0 A0 l0 c0 A1 l1 c1 w) : B80.wp Tryz.prog (Ql w0) a w := by
  show Code.wp _ (Code.seq (Code.region 0 R0.toArray false) B79) _ _ _
  refine wp_seq ?_
  refine region_ (F := FS0 w0 A0 l0 c0 A1 l1 c1) (K := [(0, (.slice A0 l0.length c0)), (1, (.slice A1 l1.length c1))]) (obs := []) (by kernel_rfl) mix rfl FS0.stays trivial h hw ?_
  clear h hw
  intro a w h hw
  show Code.wp _ B79 _ _ _
  exact u79T hbig h hw
theorem calls_small {kk : Nat} {l0 : List Int} {l1 : List Int} {k : Int} {p : Int} {n : Int} {sd : Int} {pl : Int} {ok : Bool} {fac : Int} {one : Bool} {nxt : List Int} {hs : Int} {five : Bool} {txt : ByteArray} {lf : List Int} {rt : List Int} {sx : Int} {sy : Int} {k1 : Int} {p1 : Int} {wh : Int} {at1 : Int} {n1 : Int} {b1 : Bool} {k2 : Int} {p2 : Int} {fr : Int} {to1 : Int} {wd : Int} {wk : Int} {b2 : Bool} {k3 : Int} {p3 : Int} {sf : Int} {nu : List Int} {b3 : Bool} {su : Int} {tw : ByteArray} {k4 : Int} {p4 : Int} {b4 : Bool} {A0 : Option Addr} {c0 : Nat} {A1 : Option Addr} {c1 : Nat} (H : Facts kk l0 l1 k p n sd pl ok fac one nxt hs five txt lf rt sx sy k1 p1 wh at1 n1 b1 k2 p2 fr to1 wd wk b2 k3 p3 sf nu b3 su tw k4 p4 b4) (hbig : laws_big.f l0 l1 = some false) (w0 : World) (hV : VarsOK w0) (hr0 : Kd.C (Kd.int .u8) w0 A0 l0.length l0) (hc0 : l0.length ≤ c0) (hr1 : Kd.C (Kd.int .u8) w0 A1 l1.length l1) (hc1 : l1.length ≤ c1) :
    Calls Tryz.prog 3 #[.slice A0 l0.length c0, .slice A1 l1.length c1] w0 fun e w' => e = .returned (.bool true) ∧ Below w0.heap.size w0 w' := by
  refine calls_of_wp Tryz.func3 body_eq ?_
  have h0 : Has 669 { tmps := #[.slice A0 l0.length c0, .slice A1 l1.length c1] ++ Array.replicate (Tryz.f3.ntmps - 2) undef, defers := [] } [(0, (.slice A0 l0.length c0)), (1, (.slice A1 l1.length c1))] := by
    refine ⟨by rw [Tryz.ntmps3]; simp, rfl, fun i v hl => ?_⟩
    match i, hl with
    | 0, hl => cases hl; simp
    | 1, hl => cases hl; simp
    | i + 2, hl => cases hl
  have hw0 : FS0 w0 A0 l0 c0 A1 l1 c1 w0 := ⟨Below.refl _ _, hV, hr0, hc0, hr1, hc1⟩
  exact t80 H hbig h0 ⟨hw0.1, hw0.2.1, hw0.2.2.1, hw0.2.2.2.1, hw0.2.2.2.2.1, hw0.2.2.2.2.2⟩
theorem calls_big {l0 : List Int} {l1 : List Int} {A0 : Option Addr} {c0 : Nat} {A1 : Option Addr} {c1 : Nat} (hbig : laws_big.f l0 l1 = some true) (w0 : World) (hV : VarsOK w0) (hr0 : Kd.C (Kd.int .u8) w0 A0 l0.length l0) (hc0 : l0.length ≤ c0) (hr1 : Kd.C (Kd.int .u8) w0 A1 l1.length l1) (hc1 : l1.length ≤ c1) :
    Calls Tryz.prog 3 #[.slice A0 l0.length c0, .slice A1 l1.length c1] w0 fun e w' => e = .returned (.bool true) ∧ Below w0.heap.size w0 w' := by
  refine calls_of_wp Tryz.func3 body_eq ?_
  have h0 : Has 669 { tmps := #[.slice A0 l0.length c0, .slice A1 l1.length c1] ++ Array.replicate (Tryz.f3.ntmps - 2) undef, defers := [] } [(0, (.slice A0 l0.length c0)), (1, (.slice A1 l1.length c1))] := by
    refine ⟨by rw [Tryz.ntmps3]; simp, rfl, fun i v hl => ?_⟩
    match i, hl with
    | 0, hl => cases hl; simp
    | 1, hl => cases hl; simp
    | i + 2, hl => cases hl
  have hw0 : FS0 w0 A0 l0 c0 A1 l1 c1 w0 := ⟨Below.refl _ _, hV, hr0, hc0, hr1, hc1⟩
  exact u80T hbig h0 ⟨hw0.1, hw0.2.1, hw0.2.2.1, hw0.2.2.2.1, hw0.2.2.2.2.1, hw0.2.2.2.2.2⟩
end Go.Proofs.YtihmjhchiomgbaaGreatDoor.GFnHousesNumbered
