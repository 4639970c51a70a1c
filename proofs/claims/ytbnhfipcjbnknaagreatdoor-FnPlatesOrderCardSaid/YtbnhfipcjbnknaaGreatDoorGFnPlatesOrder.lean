/- The walk of the law FnPlatesOrder: where its calls answer as the letters tell, the law's call answers true and leaves what was there. (Written by a program: lawwalk.py.) -/
import Derived.Test.YtbnhfipcjbnknaaGreatDoorK
import Derived.Test.YtbnhfipcjbnknaaGreatDoorPFnPlatesOrderx10
import Derived.Test.YtbnhfipcjbnknaaGreatDoorPFnPlatesOrderx12
import Derived.Test.YtbnhfipcjbnknaaGreatDoorPFnPlatesOrderx13
import Derived.Test.YtbnhfipcjbnknaaGreatDoorPFnPlatesOrderx14
import Derived.Test.YtbnhfipcjbnknaaGreatDoorPFnPlatesOrderx16
import Derived.Test.YtbnhfipcjbnknaaGreatDoorPFnPlatesOrderx17
import Derived.Test.YtbnhfipcjbnknaaGreatDoorPFnPlatesOrderx18
import Derived.Test.YtbnhfipcjbnknaaGreatDoorPFnPlatesOrderx2
import Derived.Test.YtbnhfipcjbnknaaGreatDoorPFnPlatesOrderx21
import Derived.Test.YtbnhfipcjbnknaaGreatDoorPFnPlatesOrderx22
import Derived.Test.YtbnhfipcjbnknaaGreatDoorPFnPlatesOrderx3
import Derived.Test.YtbnhfipcjbnknaaGreatDoorPFnPlatesOrderx4
import Derived.Test.YtbnhfipcjbnknaaGreatDoorPFnPlatesOrderx5
import Derived.Test.YtbnhfipcjbnknaaGreatDoorPFnPlatesOrderx6
import Derived.Test.YtbnhfipcjbnknaaGreatDoorPFnPlatesOrderx7
import Derived.Test.YtbnhfipcjbnknaaGreatDoorPFnPlatesOrderx8
import Derived.Test.YtbnhfipcjbnknaaGreatDoorPFnPlatesOrderv
namespace Go.Proofs.YtbnhfipcjbnknaaGreatDoor.GFnPlatesOrder
open Go Go.RowKit Go.Proofs.YtbnhfipcjbnknaaGreatDoorW.PrintWords Go.Proofs.YtbnhfipcjbnknaaGreatDoorW.PrintLast Go.Proofs.YtbnhfipcjbnknaaGreatDoorW.PrintMore Go.Proofs.YtbnhfipcjbnknaaGreatDoor.K Go.Proofs.YtbnhfipcjbnknaaGreatDoor.PFnPlatesOrder
set_option linter.unusedVariables false
set_option linter.unusedSimpArgs false
set_option maxRecDepth 100000
theorem mix : Tryz.prog.follows .mixedOrders = true := by kernel_rfl
noncomputable def rg (k : Nat) : List Oper := (opsOf Tryz.f3 k).toList
noncomputable def R0 := rg 0
noncomputable def R1 := rg 1
noncomputable def R2 := rg 2
noncomputable def R3 := rg 3
noncomputable def R4 := rg 4
noncomputable def R5 := rg 5
noncomputable def R6 := rg 6
noncomputable def R7 := rg 7
noncomputable def R8 := rg 8
noncomputable def R9 := rg 9
noncomputable def R10 := rg 10
noncomputable def R11 := rg 11
noncomputable def R12 := rg 12
noncomputable def R13 := rg 13
noncomputable def R14 := rg 14
noncomputable def R15 := rg 15
noncomputable def R16 := rg 16
noncomputable def R17 := rg 17
noncomputable def R18 := rg 18
noncomputable def R19 := rg 19
noncomputable def R20 := rg 20
noncomputable def R21 := rg 21
noncomputable def R22 := rg 22
noncomputable def R23 := rg 23
noncomputable def R24 := rg 24
noncomputable def R25 := rg 25
noncomputable def R26 := rg 26
noncomputable def R27 := rg 27
noncomputable def R28 := rg 28
noncomputable def R29 := rg 29
noncomputable def R30 := rg 30
noncomputable def R31 := rg 31
noncomputable def R32 := rg 32
noncomputable def R33 := rg 33
noncomputable def R34 := rg 34
noncomputable def R35 := rg 35
noncomputable def R36 := rg 36
noncomputable def R37 := rg 37
noncomputable def R38 := rg 38
noncomputable def R39 := rg 39
noncomputable def R40 := rg 40
noncomputable def R41 := rg 41
noncomputable def R42 := rg 42
noncomputable def R43 := rg 43
noncomputable def R44 := rg 44
noncomputable def R45 := rg 45
noncomputable def R46 := rg 46
noncomputable def R47 := rg 47
noncomputable def R48 := rg 48
noncomputable def R49 := rg 49
noncomputable def R50 := rg 50
noncomputable def R51 := rg 51
noncomputable def R52 := rg 52
noncomputable def R53 := rg 53
noncomputable def R54 := rg 54
noncomputable def R55 := rg 55
noncomputable def R56 := rg 56
noncomputable def R57 := rg 57
noncomputable def R58 := rg 58
noncomputable def R59 := rg 59
noncomputable def R60 := rg 60
noncomputable def R61 := rg 61
noncomputable def R62 := rg 62
noncomputable def R63 := rg 63
noncomputable def R64 := rg 64
noncomputable def R65 := rg 65
noncomputable def R66 := rg 66
noncomputable def R67 := rg 67
noncomputable def R68 := rg 68
noncomputable def R69 := rg 69
noncomputable def R70 := rg 70
noncomputable def R71 := rg 71
theorem lex14 : (!true || Region.lexB .any R14.toArray) = true := lex_of (by kernel_rfl)
theorem lex59 : (!true || Region.lexB .any R59.toArray) = true := lex_of (by kernel_rfl)
theorem lex62 : (!true || Region.lexB .any R62.toArray) = true := lex_of (by kernel_rfl)
noncomputable def B0 : Code := Code.seq (Code.region 2 R2.toArray false) Code.ret
noncomputable def B1 : Code := Code.seq (Code.region 1 R1.toArray false) (Code.cond (Operand.tmp 73) B0 Code.skip)
noncomputable def B2 : Code := Code.seq (Code.region 15 R15.toArray false) Code.ret
noncomputable def B3 : Code := Code.seq (Code.region 14 R14.toArray true) (Code.cond (Operand.tmp 220) B2 Code.skip)
noncomputable def B4 : Code := Code.seq (Code.region 19 R19.toArray false) Code.ret
noncomputable def B5 : Code := Code.seq (Code.region 18 R18.toArray false) (Code.cond (Operand.tmp 243) B4 Code.skip)
noncomputable def B6 : Code := Code.seq (Code.region 17 R17.toArray false) B5
noncomputable def B7 : Code := Code.seq (Code.region 16 R16.toArray false) (Code.cond (Operand.tmp 221) B6 Code.skip)
noncomputable def B8 : Code := Code.seq (Code.region 24 R24.toArray false) Code.ret
noncomputable def B9 : Code := Code.seq (Code.region 23 R23.toArray false) (Code.cond (Operand.tmp 281) B8 Code.skip)
noncomputable def B10 : Code := Code.seq (Code.region 22 R22.toArray false) B9
noncomputable def B11 : Code := Code.seq (Code.region 21 R21.toArray false) B10
noncomputable def B12 : Code := Code.seq (Code.region 20 R20.toArray false) (Code.cond (Operand.tmp 244) B11 Code.skip)
noncomputable def B13 : Code := Code.seq (Code.region 28 R28.toArray false) Code.ret
noncomputable def B14 : Code := Code.seq (Code.region 27 R27.toArray false) (Code.cond (Operand.tmp 299) B13 Code.skip)
noncomputable def B15 : Code := Code.seq (Code.region 26 R26.toArray false) B14
noncomputable def B16 : Code := Code.seq (Code.region 25 R25.toArray false) (Code.cond (Operand.tmp 282) B15 Code.skip)
noncomputable def B17 : Code := Code.seq (Code.region 32 R32.toArray false) Code.ret
noncomputable def B18 : Code := Code.seq (Code.region 31 R31.toArray false) (Code.cond (Operand.tmp 312) B17 Code.skip)
noncomputable def B19 : Code := Code.seq (Code.region 30 R30.toArray false) B18
noncomputable def B20 : Code := Code.seq (Code.region 29 R29.toArray false) (Code.cond (Operand.tmp 300) B19 Code.skip)
noncomputable def B21 : Code := Code.seq (Code.region 47 R47.toArray false) Code.ret
noncomputable def B22 : Code := Code.seq (Code.region 46 R46.toArray false) (Code.cond (Operand.tmp 442) B21 Code.skip)
noncomputable def B23 : Code := Code.seq (Code.region 51 R51.toArray false) Code.ret
noncomputable def B24 : Code := Code.seq (Code.region 50 R50.toArray false) (Code.cond (Operand.tmp 468) B23 Code.skip)
noncomputable def B25 : Code := Code.seq (Code.region 58 R58.toArray false) Code.ret
noncomputable def B26 : Code := Code.seq (Code.region 57 R57.toArray false) (Code.cond (Operand.tmp 507) B25 Code.skip)
noncomputable def B27 : Code := Code.seq (Code.region 59 R59.toArray true) (Code.cond (Operand.tmp 520) (Code.region 60 R60.toArray false) Code.skip)
noncomputable def B28 : Code := Code.seq B26 B27
noncomputable def B29 : Code := Code.seq (Code.region 56 R56.toArray false) B28
noncomputable def B30 : Code := Code.seq (Code.region 55 R55.toArray false) B29
noncomputable def B31 : Code := Code.seq (Code.block 1 B30) (Code.region 61 R61.toArray false)
noncomputable def B32 : Code := Code.seq (Code.cond (Operand.tmp 472) Code.skip (Code.exit 0)) B31
noncomputable def B33 : Code := Code.seq (Code.region 54 R54.toArray false) B32
noncomputable def B34 : Code := Code.seq (Code.region 53 R53.toArray false) (Code.block 0 (Code.loop B33))
noncomputable def B35 : Code := Code.seq (Code.region 63 R63.toArray false) Code.ret
noncomputable def B36 : Code := Code.seq (Code.region 62 R62.toArray true) (Code.cond (Operand.tmp 541) B35 Code.skip)
noncomputable def B37 : Code := Code.seq B34 B36
noncomputable def B38 : Code := Code.seq (Code.region 52 R52.toArray false) B37
noncomputable def B39 : Code := Code.seq B24 B38
noncomputable def B40 : Code := Code.seq (Code.region 49 R49.toArray false) B39
noncomputable def B41 : Code := Code.seq (Code.region 48 R48.toArray false) (Code.cond (Operand.tmp 443) B40 Code.skip)
noncomputable def B42 : Code := Code.seq (Code.region 67 R67.toArray false) Code.ret
noncomputable def B43 : Code := Code.seq (Code.region 66 R66.toArray false) (Code.cond (Operand.tmp 554) B42 Code.skip)
noncomputable def B44 : Code := Code.seq (Code.region 65 R65.toArray false) B43
noncomputable def B45 : Code := Code.seq (Code.region 64 R64.toArray false) (Code.cond (Operand.tmp 542) B44 Code.skip)
noncomputable def B46 : Code := Code.seq (Code.region 70 R70.toArray false) Code.ret
noncomputable def B47 : Code := Code.seq (Code.region 69 R69.toArray false) B46
noncomputable def B48 : Code := Code.seq (Code.region 68 R68.toArray false) (Code.cond (Operand.tmp 555) B47 Code.skip)
noncomputable def B49 : Code := Code.seq (Code.region 71 R71.toArray false) Code.ret
noncomputable def B50 : Code := Code.seq B48 B49
noncomputable def B51 : Code := Code.seq B45 B50
noncomputable def B52 : Code := Code.seq B41 B51
noncomputable def B53 : Code := Code.seq B22 B52
noncomputable def B54 : Code := Code.seq (Code.region 45 R45.toArray false) B53
noncomputable def B55 : Code := Code.seq (Code.region 44 R44.toArray false) B54
noncomputable def B56 : Code := Code.seq (Code.region 43 R43.toArray false) B55
noncomputable def B57 : Code := Code.seq (Code.region 42 R42.toArray false) B56
noncomputable def B58 : Code := Code.seq (Code.region 41 R41.toArray false) B57
noncomputable def B59 : Code := Code.seq (Code.region 40 R40.toArray false) B58
noncomputable def B60 : Code := Code.seq (Code.region 39 R39.toArray false) B59
noncomputable def B61 : Code := Code.seq (Code.region 38 R38.toArray false) B60
noncomputable def B62 : Code := Code.seq (Code.region 37 R37.toArray false) B61
noncomputable def B63 : Code := Code.seq (Code.region 36 R36.toArray false) B62
noncomputable def B64 : Code := Code.seq (Code.region 35 R35.toArray false) B63
noncomputable def B65 : Code := Code.seq (Code.region 34 R34.toArray false) B64
noncomputable def B66 : Code := Code.seq (Code.region 33 R33.toArray false) B65
noncomputable def B67 : Code := Code.seq B20 B66
noncomputable def B68 : Code := Code.seq B16 B67
noncomputable def B69 : Code := Code.seq B12 B68
noncomputable def B70 : Code := Code.seq B7 B69
noncomputable def B71 : Code := Code.seq B3 B70
noncomputable def B72 : Code := Code.seq (Code.region 13 R13.toArray false) B71
noncomputable def B73 : Code := Code.seq (Code.region 12 R12.toArray false) B72
noncomputable def B74 : Code := Code.seq (Code.region 11 R11.toArray false) B73
noncomputable def B75 : Code := Code.seq (Code.region 10 R10.toArray false) B74
noncomputable def B76 : Code := Code.seq (Code.region 9 R9.toArray false) B75
noncomputable def B77 : Code := Code.seq (Code.region 8 R8.toArray false) B76
noncomputable def B78 : Code := Code.seq (Code.region 7 R7.toArray false) B77
noncomputable def B79 : Code := Code.seq (Code.region 6 R6.toArray false) B78
noncomputable def B80 : Code := Code.seq (Code.region 5 R5.toArray false) B79
noncomputable def B81 : Code := Code.seq (Code.region 4 R4.toArray false) B80
noncomputable def B82 : Code := Code.seq (Code.region 3 R3.toArray false) B81
noncomputable def B83 : Code := Code.seq B1 B82
noncomputable def B84 : Code := Code.seq (Code.region 0 R0.toArray false) B83
theorem body_eq : Tryz.f3.body = some B84 := by kernel_rfl
abbrev Ql (w0 : World) : Exit → Act → World → Prop := bodyPost Tryz.prog Tryz.f3 fun e w' => e = .returned (.bool true) ∧ Below w0.heap.size w0 w'
theorem post_ {n : Nat} {a : Act} {L : List (Nat × Value)} {w w0 : World} (h : Has n a L) (hl : K.look L 4 = some (.bool true)) (hb : Below w0.heap.size w0 w) : Ql w0 .ret a w := by
  refine bodyPost_ret (v := .bool true) ?_ h.dfr ⟨rfl, hb⟩
  have h1 := h.at_ 4 _ hl
  have h2 : Tryz.f3.results = #[.tmp 4] := by kernel_rfl
  unfold results
  rw [h2]
  simp [h1]
theorem wadd_ {i : Nat} (h : i + 1 ≤ 9223372036854775807) : wrap64 ((i : Int) + 1) = ((i + 1 : Nat) : Int) := by
  unfold wrap64
  omega
abbrev lN (T t : Nat) {α : Type} (A : Option Addr) (l : List α) (c : Nat) : Ob := .op (Op.call { callee := (Callee.builtin Builtin.len), args := #[(Operand.tmp t)], argTypes := #[T] }) 3 [((Operand.tmp t), (.slice A l.length c))] (vI (l.length : Int))
abbrev bO (b : BinOp) (s t : Operand) (x y z : Int) : Ob := .op (Op.binOp b 3 s t 3) 3 [(s, vI x), (t, vI y)] (vI z)
theorem sC_ {T : Type} {k : Kd T} {A : Option Addr} {n : Nat} {l : List T} : Stays (fun w => Kd.C k w A n l) := fun w w' h hb => Kd.C_below h hb
theorem sL_ {p : Prop} : Stays (fun _ => p) := fun w w' h hb => h
theorem sV_ : Stays (fun w => VarsOK w) := fun w w' h hb => h.below hb
section
variable {F : World → Prop} {X Y : Operand} {ty t' : TypeId}
theorem ok_load3 {g off : Nat} {z : Int} (h : ∀ w, F w → w.cell? ⟨g, off, none⟩ = some (.int .i64 z)) : Ob.Ok Tryz.prog F (.op (.load 3 X) ty [(X, .pointer (some ⟨g, off, none⟩))] (.int .i64 z)) := by
  intro ρ o ho ht hρ w hw
  have h1 : ρ X = .pointer (some ⟨g, off, none⟩) := hρ (X, _) (by simp)
  have h2 := h w hw
  have hu := Tryz.underlying3
  simp [go_sem, ho, h1, h2]
theorem ok_load3p {ad : Addr} {z : Int} (h : ∀ w, F w → w.cell? ad = some (.int .i64 z)) : Ob.Ok Tryz.prog F (.op (.load 3 X) ty [(X, .pointer (some ad))] (.int .i64 z)) := by
  intro ρ o ho ht hρ w hw
  have h1 : ρ X = .pointer (some ad) := hρ (X, _) (by simp)
  have h2 := h w hw
  have hu := Tryz.underlying3
  simp [go_sem, ho, h1, h2]
theorem ok_load25 {g : Nat} {t : TypeId} {y z : Int} (h : ∀ w, F w → w.heap[g]? = some (.cells #[.int .i64 y, .int .i64 z] t (0, 0))) : Ob.Ok Tryz.prog F (.op (.load 25 X) ty [(X, .pointer (some ⟨g, 0, none⟩))] (.agg #[.int .i64 y, .int .i64 z])) := by
  intro ρ o ho ht hρ w hw
  have h1 : ρ X = .pointer (some ⟨g, 0, none⟩) := hρ (X, _) (by simp)
  have h2 : w.cell? ⟨g, 0, none⟩ = some (.int .i64 y) := blk_cell (h w hw) 0
  have h3 : w.cell? ⟨g, 1, none⟩ = some (.int .i64 z) := blk_cell (h w hw) 1
  have hu := Tryz.underlying25
  have hu3 := Tryz.underlying3
  simp [go_sem, ho, h1, h2, h3]
theorem ok_fa25_0 {g : Nat} : Ob.Ok Tryz.prog F (.op (.fieldAddr 25 X 0) ty [(X, .pointer (some ⟨g, 0, none⟩))] (.pointer (some ⟨g, 0, none⟩))) := by
  intro ρ o ho ht hρ w hw
  have h1 : ρ X = .pointer (some ⟨g, 0, none⟩) := hρ (X, _) (by simp)
  have hu := Tryz.underlying25
  have hu3 := Tryz.underlying3
  simp [go_sem, ho, h1]
theorem ok_fa25_1 {g : Nat} : Ob.Ok Tryz.prog F (.op (.fieldAddr 25 X 1) ty [(X, .pointer (some ⟨g, 0, none⟩))] (.pointer (some ⟨g, 1, none⟩))) := by
  intro ρ o ho ht hρ w hw
  have h1 : ρ X = .pointer (some ⟨g, 0, none⟩) := hρ (X, _) (by simp)
  have hu := Tryz.underlying25
  have hu3 := Tryz.underlying3
  simp [go_sem, ho, h1]
theorem ok_neq25 {x y x' y' : Int} {b : Bool} (h : (!(x == x' && y == y')) = b) : Ob.Ok Tryz.prog F (.op (.binOp .neq 25 X Y t') ty [(X, .agg #[.int .i64 x, .int .i64 y]), (Y, .agg #[.int .i64 x', .int .i64 y'])] (.bool b)) := by
  intro ρ o ho ht hρ w hw
  have h1 : ρ X = .agg #[.int .i64 x, .int .i64 y] := hρ (X, _) (by simp)
  have h2 : ρ Y = .agg #[.int .i64 x', .int .i64 y'] := hρ (Y, _) (by simp)
  have hu := Tryz.underlying25
  have hu3 := Tryz.underlying3
  subst h
  simp [go_sem, ho, h1, h2]
  by_cases c1 : x = x' <;> by_cases c2 : y = y' <;> simp [c1, c2]
theorem ok_eql25 {x y x' y' : Int} {b : Bool} (h : (x == x' && y == y') = b) : Ob.Ok Tryz.prog F (.op (.binOp .eql 25 X Y t') ty [(X, .agg #[.int .i64 x, .int .i64 y]), (Y, .agg #[.int .i64 x', .int .i64 y'])] (.bool b)) := by
  intro ρ o ho ht hρ w hw
  have h1 : ρ X = .agg #[.int .i64 x, .int .i64 y] := hρ (X, _) (by simp)
  have h2 : ρ Y = .agg #[.int .i64 x', .int .i64 y'] := hρ (Y, _) (by simp)
  have hu := Tryz.underlying25
  have hu3 := Tryz.underlying3
  subst h
  simp [go_sem, ho, h1, h2]
  by_cases c1 : x = x' <;> by_cases c2 : y = y' <;> simp [c1, c2]
theorem ok_idx40 {ad : Addr} {n c : Nat} {i : Int} (h0 : 0 ≤ i) (h1 : i < n) : Ob.Ok Tryz.prog F (.op (.indexAddr 40 X Y) ty [(X, .slice (some ad) n c), (Y, .int .i64 i)] (.pointer (some (ad.add i.toNat)))) := by
  intro ρ o ho ht hρ w hw
  have h2 : ρ X = .slice (some ad) n c := hρ (X, _) (by simp)
  have h3 : ρ Y = .int .i64 i := hρ (Y, _) (by simp)
  have hu := Tryz.underlying40
  have hu3 := Tryz.underlying3
  simp [go_sem, ho, h2, h3, h0, h1]
theorem ok_idxe40 {A : Option Addr} {ad : Addr} {n c : Nat} {i : Int} (hA : A = some ad) (h0 : 0 ≤ i) (h1 : i < n) : Ob.Ok Tryz.prog F (.op (.indexAddr 40 X Y) ty [(X, .slice A n c), (Y, .int .i64 i)] (.pointer (some (ad.add i.toNat)))) := by
  subst hA
  exact ok_idx40 h0 h1
/-- A struct variable is made; it is filled. -/
theorem alloc25 {n : Nat} {ops : List Oper} {a : Act} {L : Env} {bs : List (Nat × Obj)} (i j : Nat) {Q : Exit → Act → World → Prop} {w : World} {d : Tmp}
    (ho : allocOf n 25 ops i = some d) (hj : j = i + 1) (h : Has n a L) (hw : Pend F bs w)
    (hk : ∀ g a' w', Has n a' ((d, .pointer (some ⟨g, 0, none⟩)) :: L) → Pend F ((g, .cells #[.int .i64 0, .int .i64 0] 25 (0, 0)) :: bs) w' → wpList Tryz.prog ops.toArray Q (ops.drop j) a' w') : wpList Tryz.prog ops.toArray Q (ops.drop i) a w := by
  subst hj
  obtain ⟨ty1, pos1, af1, rest, ho, hd⟩ := allocOf_spec ho
  have e : ops.drop (i + 1) = rest := by rw [← List.drop_drop, ho]; rfl
  rw [e] at hk
  rw [ho]
  have hu := Tryz.underlying25
  have hu3 := Tryz.underlying3
  have h1 := h.put (d := some d) (v := .pointer (some ⟨w.heap.size, 0, none⟩)) (L' := (d, .pointer (some ⟨w.heap.size, 0, none⟩)) :: L) (by unfold putE; simp only [hd]; rfl)
  have r1 : (execOp a.eval ⟨some d, .alloc 25, ty1, pos1, af1, none⟩).run Tryz.prog w = .ok (.value (.pointer (some ⟨w.heap.size, 0, none⟩))) (w.alloc (.cells #[.int .i64 0, .int .i64 0] 25 (0, 0))) := by
    simp [go_sem]
  refine wpList_plain rfl fun K hK => ?_
  unfold Oper.wp
  rw [r1]
  exact hK _ _ (hk w.heap.size _ _ h1 (hw.alloc _))
theorem store25 {n : Nat} {ops : List Oper} {a : Act} {L : Env} {bs : List (Nat × Obj)} (i j k : Nat) {Q : Exit → Act → World → Prop} {w : World} {g : Nat} {y z u v : Int}
    (ho : storeOf 25 ops i L = some (.pointer (some ⟨g, 0, none⟩), .agg #[.int .i64 y, .int .i64 z])) (hj : j = i + 1) (hb : bs[k]? = some (g, .cells #[.int .i64 u, .int .i64 v] 25 (0, 0))) (h : Has n a L) (hw : Pend F bs w)
    (hk : ∀ a' w', Has n a' L → Pend F (bs.set k (g, .cells #[.int .i64 y, .int .i64 z] 25 (0, 0))) w' → wpList Tryz.prog ops.toArray Q (ops.drop j) a' w') : wpList Tryz.prog ops.toArray Q (ops.drop i) a w := by
  subst hj
  obtain ⟨ad, x, ty2, pos2, af2, rest, ho, ha, hx⟩ := storeOf_spec ho
  have e : ops.drop (i + 1) = rest := by rw [← List.drop_drop, ho]; rfl
  rw [e] at hk
  rw [ho]
  have hu := Tryz.underlying25
  have hu3 := Tryz.underlying3
  have e1 := h.opd ha
  have e2 := h.opd hx
  have kl : k < bs.length := (List.getElem?_eq_some_iff.1 hb).1
  have b0 : w.heap[g]? = some (.cells #[.int .i64 u, .int .i64 v] 25 (0, 0)) := by obtain ⟨wa, _, _, h3, _⟩ := hw; exact (h3 k _ hb).2
  have p1 := hw.put hb 0 (.int .i64 y) (cs' := #[.int .i64 y, .int .i64 v]) rfl
  have hb1 : (bs.set k (g, .cells #[.int .i64 y, .int .i64 v] 25 (0, 0)))[k]? = some (g, .cells #[.int .i64 y, .int .i64 v] 25 (0, 0)) := by rw [List.getElem?_set, if_pos rfl, if_pos kl]
  have p2 := p1.put hb1 1 (.int .i64 z) (cs' := #[.int .i64 y, .int .i64 z]) rfl
  rw [List.set_set] at p2
  have b1 := blk_put b0 0 (.int .i64 y) (cs' := #[.int .i64 y, .int .i64 v]) rfl
  have c0 : w.cell? ⟨g, 0, none⟩ = some (.int .i64 u) := blk_cell b0 0
  have c1 : w.cell? ⟨g, 1, none⟩ = some (.int .i64 v) := blk_cell b0 1
  have c2 : (w.setCell ⟨g, 0, none⟩ (.int .i64 y)).cell? ⟨g, 1, none⟩ = some (.int .i64 v) := blk_cell b1 1
  have f0 : w.frozen? ⟨g, 0, none⟩ = false := blk_frozen b0 0
  have f1 : w.frozen? ⟨g, 1, none⟩ = false := blk_frozen b0 1
  have f2 : (w.setCell ⟨g, 0, none⟩ (.int .i64 y)).frozen? ⟨g, 1, none⟩ = false := blk_frozen b1 1
  have r2 : (execOp a.eval ⟨none, .store 25 ad x, ty2, pos2, af2, none⟩).run Tryz.prog w = .ok .skip ((w.setCell ⟨g, 0, none⟩ (.int .i64 y)).setCell ⟨g, 1, none⟩ (.int .i64 z)) := by
    generalize a.eval = ρ at e1 e2 ⊢
    simp [go_sem, e1, e2, c0, c1, c2, f0, f1, f2]
  refine wpList_plain rfl fun K hK => ?_
  unfold Oper.wp
  rw [r2]
  exact hK _ _ (hk a _ h p2)
theorem C_some {w : World} {A : Option Addr} {l : List Int} {i : Nat} (h : Kd.C (Kd.int .i64) w A l.length l) (hi : i < l.length) : ∃ ad, A = some ad := by
  obtain ⟨ad, c, e, _⟩ := Kd.C_get h 0 (i : Int) (by omega) (by omega)
  exact ⟨ad, e⟩
theorem C_cell {w : World} {ad : Addr} {l : List Int} {i : Nat} (h : Kd.C (Kd.int .i64) w (some ad) l.length l) (hi : i < l.length) : w.cell? (ad.add (i : Int).toNat) = some (.int .i64 l[i]) := by
  obtain ⟨ad', c, e, hc, hk, hj⟩ := Kd.C_get h 0 (i : Int) (by omega) (by omega)
  injection e with e
  subst e
  have h1 : c = [.int .i64 l[i]] := by
    have := hk
    simpa [Kd.int, Kd.scalar, List.getD_eq_getElem?_getD, List.getElem?_eq_getElem hi] using this
  have := hj 0 (.int .i64 l[i]) (by rw [h1]; rfl)
  simpa [Kd.int, Kd.scalar] using this
end
section
variable {F : World → Prop} {X Y : Operand} {ty t' : TypeId}
theorem P_some {w : World} {A : Option Addr} {l : List S25} {i : Nat} (h : Kd.C k25 w A l.length l) (hi : i < l.length) : ∃ ad, A = some ad := by
  obtain ⟨ad, c, e, _⟩ := Kd.C_get h z25 (i : Int) (by omega) (by omega)
  exact ⟨ad, e⟩
theorem add_add1 (ad : Addr) (n : Nat) : (ad.add n).add 1 = ad.add (n + 1) := by
  unfold Addr.add
  by_cases h : n = 0
  · subst h
    simp
  · simp [h, Nat.add_assoc]
theorem P_cells {w : World} {A : Option Addr} {ad : Addr} {l : List S25} {i : Nat} {x y : Int} (h : Kd.C k25 w A l.length l) (hA : A = some ad) (he : l[i]? = some ⟨x, y⟩) : w.cell? (ad.add (i * 2)) = some (.int .i64 x) ∧ w.cell? ((ad.add (i * 2)).add 1) = some (.int .i64 y) := by
  have hi : i < l.length := (List.getElem?_eq_some_iff.1 he).1
  obtain ⟨ad', c, e, hc, hk, hj⟩ := Kd.C_get h z25 (i : Int) (by omega) (by omega)
  rw [hA] at e
  injection e with e
  subst e
  rw [Int.toNat_natCast, List.getD_eq_getElem?_getD, he] at hk
  have h1 : c = [.int .i64 x, .int .i64 y] := k25_open hk
  rw [Int.toNat_natCast] at hj
  have j0 := hj 0 (.int .i64 x) (by rw [h1]; rfl)
  have j1 := hj 1 (.int .i64 y) (by rw [h1]; rfl)
  rw [add_add1]
  exact ⟨j0, j1⟩
theorem ok_idxe37 {A : Option Addr} {ad : Addr} {n c : Nat} {i : Int} {m : Nat} (hA : A = some ad) (hm : i = (m : Int)) (h1 : m < n) : Ob.Ok Tryz.prog F (.op (.indexAddr 37 X Y) ty [(X, .slice A n c), (Y, .int .i64 i)] (.pointer (some (ad.add (m * 2))))) := by
  subst hA
  subst hm
  intro ρ o ho ht hρ w hw
  have h2 : ρ X = .slice (some ad) n c := hρ (X, _) (by simp)
  have h3 : ρ Y = .int .i64 m := hρ (Y, _) (by simp)
  have hu := Tryz.underlying37
  have hu2 := Tryz.underlying25
  have hu3 := Tryz.underlying3
  simp [go_sem, ho, h2, h3, h1]
theorem ok_load25p {ad : Addr} {x y : Int} (h : ∀ w, F w → w.cell? ad = some (.int .i64 x) ∧ w.cell? (ad.add 1) = some (.int .i64 y)) : Ob.Ok Tryz.prog F (.op (.load 25 X) ty [(X, .pointer (some ad))] (.agg #[.int .i64 x, .int .i64 y])) := by
  intro ρ o ho ht hρ w hw
  have h1 : ρ X = .pointer (some ad) := hρ (X, _) (by simp)
  obtain ⟨h2, h3⟩ := h w hw
  have h4 : w.cell? ⟨ad.block, ad.off + 1, none⟩ = some (.int .i64 y) := by
    have := h3
    unfold Addr.add at this
    simpa using this
  have hu := Tryz.underlying25
  have hu3 := Tryz.underlying3
  simp [go_sem, ho, h1, h2, h4]
theorem ok_fap25_0 {ad : Addr} : Ob.Ok Tryz.prog F (.op (.fieldAddr 25 X 0) ty [(X, .pointer (some ad))] (.pointer (some ad))) := by
  intro ρ o ho ht hρ w hw
  have h1 : ρ X = .pointer (some ad) := hρ (X, _) (by simp)
  have hu := Tryz.underlying25
  have hu3 := Tryz.underlying3
  simp [go_sem, ho, h1]
theorem ok_fap25_1 {ad : Addr} : Ob.Ok Tryz.prog F (.op (.fieldAddr 25 X 1) ty [(X, .pointer (some ad))] (.pointer (some (ad.add 1)))) := by
  intro ρ o ho ht hρ w hw
  have h1 : ρ X = .pointer (some ad) := hρ (X, _) (by simp)
  have hu := Tryz.underlying25
  have hu3 := Tryz.underlying3
  simp [go_sem, ho, h1]
end
/-- How many numbers the plates up to i have. -/
def numsP (l : List S25) : Nat → Int
  | 0 => 0
  | i + 1 => numsP l i + (if i = 0 then 1 else if (l.getD (i - 1) z25).f0 ≠ (l.getD i z25).f0 then 1 else 0)
theorem wsub_ {n : Nat} (h : 1 ≤ n) (h2 : n ≤ 9223372036854775807) : wrap64 ((n : Int) - 1) = ((n - 1 : Nat) : Int) := by
  unfold wrap64
  omega
theorem getD_eta_ {l : List S25} {i : Nat} (h : i < l.length) : l[i]? = some ⟨(l.getD i z25).f0, (l.getD i z25).f1⟩ := by
  rw [List.getD_eq_getElem?_getD, List.getElem?_eq_getElem h]
  rfl
theorem nums_bd_ (l : List S25) : ∀ i, 0 ≤ numsP l i ∧ numsP l i ≤ i
  | 0 => by simp [numsP]
  | i + 1 => by
    have := nums_bd_ l i
    rw [numsP]
    split
    · omega
    · split <;> omega
theorem nums_z_ {l : List S25} {i : Nat} (e : i = 0) : wrap64 (numsP l i + 1) = numsP l (i + 1) := by
  subst e
  have h0 : numsP l 0 = 0 := by simp [numsP]
  have h1 : numsP l (0 + 1) = numsP l 0 + 1 := by simp [numsP]
  rw [h1, h0]
  unfold wrap64
  omega
theorem nums_t_ {l : List S25} {i : Nat} (h : i < l.length) (hl : l.length ≤ 9223372036854775807) (e0 : ¬ i = 0) (e : ¬ (l.getD (i - 1) z25).f0 = (l.getD i z25).f0) : wrap64 (numsP l i + 1) = numsP l (i + 1) := by
  have := nums_bd_ l i
  have h1 : numsP l (i + 1) = numsP l i + 1 := by rw [numsP, if_neg e0, if_pos e]
  rw [h1]
  unfold wrap64
  omega
theorem nums_f_ {l : List S25} {i : Nat} (e0 : ¬ i = 0) (e : (l.getD (i - 1) z25).f0 = (l.getD i z25).f0) : numsP l i = numsP l (i + 1) := by rw [numsP, if_neg e0, if_neg (fun z => z e), Int.add_zero]
abbrev tm (t : Nat) : Operand := .tmp t
abbrev vS {α : Type} (A : Option Addr) (l : List α) (c : Nat) : Value := .slice A l.length c
/-- What the law's calls answer, and what the law's tests ask of that. -/
structure Facts (kk : Nat) (l0 : List Int) (l1 : List Int) (a0 : Int) (a1 : Int) (b0 : Int) (b1 : Int) (cn : Int) (ok : Bool) (od : Int) (one : Bool) (m0 : Int) (m1 : Int) (thr : Bool) (n0 : Int) (n1 : Int) (fv : Bool) (tx : ByteArray) (sv : Bool) (ba : Int) (x1 : Int) (y1 : Int) (ls : List S25) (tt : ByteArray) (nin : Bool) (ga : List Int) (nm : List S25) (ds : ByteArray) (re1 : List S25) (fif : Bool) (dt : ByteArray) (p0 : Int) (p1 : Int) (svt : Bool) (la : Int) (la2 : Int) (fa : Int) (fa2 : Int) : Prop where
  f3_1 : spec_DrawCountBetween.f l0 = some (a0, a1, b0, b1)
  f4_2 : impl_CountBetween.f kk a0 a1 b0 b1 = some (cn, ok)
  f5_2 : spec_CountBetween.f kk a0 a1 b0 b1 = some (cn, ok)
  f6_2 : impl_ComparePlates.f kk a0 a1 b0 b1 = some (od, one)
  f7_2 : spec_ComparePlates.f kk a0 a1 b0 b1 = some (od, one)
  f8_2 : impl_MiddlePlate.f kk a0 a1 b0 b1 = some (m0, m1, thr)
  f9_2 : spec_MiddlePlate.f kk a0 a1 b0 b1 = some (m0, m1, thr)
  f10_1 : impl_NextPlate.f kk a0 a1 = some (n0, n1, fv)
  f11_1 : spec_NextPlate.f kk a0 a1 = some (n0, n1, fv)
  f12_1 : impl_PlateText.f a0 a1 = some (tx, sv)
  f13_1 : spec_PlateText.f kk a0 a1 = some (tx, sv)
  f33_1 : spec_DrawPlatesText.f kk l1 = some ls
  f34_1 : impl_PlatesText.f kk ls = some (tt, nin)
  f35_1 : spec_PlatesText.f kk ls = some (tt, nin)
  f36_1 : impl_GapsOfPlates.f kk ls = some (ga, nin)
  f37_1 : spec_GapsOfPlates.f kk ls = some (ga, nin)
  f38_1 : impl_RenumberPlates.f kk ls = some (nm, nin)
  f39_1 : spec_RenumberPlates.f kk ls = some (nm, nin)
  f40_1 : spec_DrawParsePlates.f kk l1 = some ds
  f41_1 : impl_ParsePlates.f kk ds = some (re1, fif)
  f42_1 : spec_ParsePlates.f kk ds = some (re1, fif)
  f43_1 : spec_DrawParsePlate.f kk l1 = some dt
  f44_1 : impl_ParsePlate.f kk dt = some (p0, p1, svt)
  f45_1 : spec_ParsePlate.f kk dt = some (p0, p1, svt)
  f69_1 : svt = true → impl_PlateText.f p0 p1 = some (dt, true)
  f65_1 : fif = true → impl_PlatesText.f kk re1 = some (ds, true)
  f49_1 : nin = true → impl_ParsePlates.f kk tt = some (ls, true)
  f50_5 : nin = true → laws_aPlates.f kk ls ls = some true
  f50_10 : nin = true → laws_aRises.f kk ga = some true
  f46_16 : laws_aSame.f kk ga ga = some true
  f46_27 : laws_aPlates.f kk nm nm = some true
  f46_38 : laws_aPlates.f kk re1 re1 = some true
  f46_54 : impl_ArePlates.f kk ls = some nin
  f46_59 : impl_ArePlates.f kk ls = some nin
  f46_61 : spec_ArePlates.f kk ls = some nin
  f30_1 : sv = true → impl_ParsePlate.f kk tx = some (a0, a1, true)
  f26_2 : fv = true → impl_CountBetween.f kk a0 a1 n0 n1 = some (0, true)
  f27_8 : fv = true → impl_IsPlate.f n0 n1 = some true
  f21_2 : thr = true → impl_CountBetween.f kk a0 a1 m0 m1 = some (x1, true)
  f22_2 : thr = true → impl_CountBetween.f kk m0 m1 b0 b1 = some (y1, true)
  f17_2 : one = true → impl_ComparePlates.f kk b0 b1 a0 a1 = some (ba, true)
  f14_51 : impl_IsPlate.f a0 a1 = some sv
  f14_56 : impl_IsPlate.f a0 a1 = some sv
  f14_58 : spec_IsPlate.f a0 a1 = some sv
  hcmp : ok = (one && decide (od < 0))
  hmid : thr = (ok && decide (cn > 0))
  hfs : fv = true → sv = true
  hback : one = true → ba = wrap64 (-od)
  hzero : one = true → (od == 0) = (a0 == b0 && a1 == b1)
  hsum : thr = true → wrap64 (wrap64 (x1 + y1) + 1) = cn
  hxy : thr = true → ¬ x1 > y1
  hyx : thr = true → ¬ y1 > wrap64 (x1 + 1)
  hlen : nin = true → (nm.length : Int) = (ls.length : Int)
  hold : nin = true → ∀ i : Nat, i < ls.length → impl_OldPlate.f kk ls ((i + 1 : Nat) : Int) = some ((ls.getD i z25).f0, (ls.getD i z25).f1, true)
  hnm : nin = true → ∀ i : Nat, i < ls.length → nm[i]? = some ⟨((i + 1 : Nat) : Int), 0⟩
  hend : nin = true → 1 ≤ ls.length ∧ ls.length ≤ 1000 ∧ ls[ls.length - 1]? = some ⟨la, la2⟩ ∧ ls[0]? = some ⟨fa, fa2⟩ ∧ wrap64 ((ga.length : Int) + numsP ls ls.length) = wrap64 (wrap64 (la - fa) + 1)
variable {w0 : World} {A0 : Option Addr} {c0 : Nat} {l0 : List Int} {A1 : Option Addr} {c1 : Nat} {l1 : List Int} {kk : Nat} {a0 : Int} {a1 : Int} {b0 : Int} {b1 : Int} {cn : Int} {ok : Bool} {od : Int} {one : Bool} {m0 : Int} {m1 : Int} {thr : Bool} {n0 : Int} {n1 : Int} {fv : Bool} {tx : ByteArray} {sv : Bool} {ba : Int} {x1 : Int} {y1 : Int} {ls : List S25} {tt : ByteArray} {nin : Bool} {ga : List Int} {nm : List S25} {ds : ByteArray} {re1 : List S25} {fif : Bool} {dt : ByteArray} {p0 : Int} {p1 : Int} {svt : Bool} {la : Int} {la2 : Int} {fa : Int} {fa2 : Int} {g5 : Nat} {g6 : Nat} {g15 : Nat} {g17 : Nat} {g19 : Nat} {g21 : Nat} {A314 : Option Addr} {c314 : Nat} {A327 : Option Addr} {c327 : Nat} {A332 : Option Addr} {c332 : Nat} {A337 : Option Addr} {c337 : Nat} {A342 : Option Addr} {c342 : Nat} {A349 : Option Addr} {c349 : Nat} {A354 : Option Addr} {c354 : Nat} {g56 : Nat} {g58 : Nat} {A446 : Option Addr} {c446 : Nat} {i : Nat} {ad : Addr} {g64 : Nat} {g65 : Nat} {g35 : Nat}
def FS0 (l0 l1 : List Int) (c0 c1 : Nat) (A0 A1 : Option Addr) (w0 : World) (w : World) : Prop := Below w0.heap.size w0 w ∧ VarsOK w ∧ Kd.C (Kd.int .u8) w A0 l0.length l0 ∧ l0.length ≤ c0 ∧ Kd.C (Kd.int .u8) w A1 l1.length l1 ∧ l1.length ≤ c1
theorem FS0.stays : Stays (FS0 l0 l1 c0 c1 A0 A1 w0) := (stays_below _).and <| sV_.and <| sC_.and <| sL_.and <| sC_.and sL_
def FS1 (b0 b1 a0 a1 : Int) (l0 l1 : List Int) (g6 g5 c0 c1 : Nat) (A0 A1 : Option Addr) (w0 : World) (w : World) : Prop := w.heap[g6]? = some (.cells #[(vI b0), (vI b1)] 25 (0, 0)) ∧ w.heap[g5]? = some (.cells #[(vI a0), (vI a1)] 25 (0, 0)) ∧ Below w0.heap.size w0 w ∧ VarsOK w ∧ Kd.C (Kd.int .u8) w A0 l0.length l0 ∧ l0.length ≤ c0 ∧ Kd.C (Kd.int .u8) w A1 l1.length l1 ∧ l1.length ≤ c1
theorem FS1.stays : Stays (FS1 b0 b1 a0 a1 l0 l1 g6 g5 c0 c1 A0 A1 w0) := (stays_blk _ _).and <| (stays_blk _ _).and <| (stays_below _).and <| sV_.and <| sC_.and <| sL_.and <| sC_.and sL_
def FS2 (b0 b1 a0 a1 : Int) (l1 : List Int) (g6 g5 c1 : Nat) (A1 : Option Addr) (w0 : World) (w : World) : Prop := w.heap[g6]? = some (.cells #[(vI b0), (vI b1)] 25 (0, 0)) ∧ w.heap[g5]? = some (.cells #[(vI a0), (vI a1)] 25 (0, 0)) ∧ Below w0.heap.size w0 w ∧ VarsOK w ∧ Kd.C (Kd.int .u8) w A1 l1.length l1 ∧ l1.length ≤ c1
theorem FS2.stays : Stays (FS2 b0 b1 a0 a1 l1 g6 g5 c1 A1 w0) := (stays_blk _ _).and <| (stays_blk _ _).and <| (stays_below _).and <| sV_.and <| sC_.and sL_
def FS3 (m0 m1 b0 b1 a0 a1 : Int) (l1 : List Int) (g15 g6 g5 c1 : Nat) (A1 : Option Addr) (w0 : World) (w : World) : Prop := w.heap[g15]? = some (.cells #[(vI m0), (vI m1)] 25 (0, 0)) ∧ w.heap[g6]? = some (.cells #[(vI b0), (vI b1)] 25 (0, 0)) ∧ w.heap[g5]? = some (.cells #[(vI a0), (vI a1)] 25 (0, 0)) ∧ Below w0.heap.size w0 w ∧ VarsOK w ∧ Kd.C (Kd.int .u8) w A1 l1.length l1 ∧ l1.length ≤ c1
theorem FS3.stays : Stays (FS3 m0 m1 b0 b1 a0 a1 l1 g15 g6 g5 c1 A1 w0) := (stays_blk _ _).and <| (stays_blk _ _).and <| (stays_blk _ _).and <| (stays_below _).and <| sV_.and <| sC_.and sL_
def FS4 (m0 m1 b0 b1 a0 a1 : Int) (l1 : List Int) (g17 g15 g6 g5 c1 : Nat) (A1 : Option Addr) (w0 : World) (w : World) : Prop := w.heap[g17]? = some (.cells #[(vI m0), (vI m1)] 25 (0, 0)) ∧ w.heap[g15]? = some (.cells #[(vI m0), (vI m1)] 25 (0, 0)) ∧ w.heap[g6]? = some (.cells #[(vI b0), (vI b1)] 25 (0, 0)) ∧ w.heap[g5]? = some (.cells #[(vI a0), (vI a1)] 25 (0, 0)) ∧ Below w0.heap.size w0 w ∧ VarsOK w ∧ Kd.C (Kd.int .u8) w A1 l1.length l1 ∧ l1.length ≤ c1
theorem FS4.stays : Stays (FS4 m0 m1 b0 b1 a0 a1 l1 g17 g15 g6 g5 c1 A1 w0) := (stays_blk _ _).and <| (stays_blk _ _).and <| (stays_blk _ _).and <| (stays_blk _ _).and <| (stays_below _).and <| sV_.and <| sC_.and sL_
def FS5 (n0 n1 m0 m1 b0 b1 a0 a1 : Int) (l1 : List Int) (g19 g17 g15 g6 g5 c1 : Nat) (A1 : Option Addr) (w0 : World) (w : World) : Prop := w.heap[g19]? = some (.cells #[(vI n0), (vI n1)] 25 (0, 0)) ∧ w.heap[g17]? = some (.cells #[(vI m0), (vI m1)] 25 (0, 0)) ∧ w.heap[g15]? = some (.cells #[(vI m0), (vI m1)] 25 (0, 0)) ∧ w.heap[g6]? = some (.cells #[(vI b0), (vI b1)] 25 (0, 0)) ∧ w.heap[g5]? = some (.cells #[(vI a0), (vI a1)] 25 (0, 0)) ∧ Below w0.heap.size w0 w ∧ VarsOK w ∧ Kd.C (Kd.int .u8) w A1 l1.length l1 ∧ l1.length ≤ c1
theorem FS5.stays : Stays (FS5 n0 n1 m0 m1 b0 b1 a0 a1 l1 g19 g17 g15 g6 g5 c1 A1 w0) := (stays_blk _ _).and <| (stays_blk _ _).and <| (stays_blk _ _).and <| (stays_blk _ _).and <| (stays_blk _ _).and <| (stays_below _).and <| sV_.and <| sC_.and sL_
def FS6 (n0 n1 m0 m1 b0 b1 a0 a1 : Int) (l1 : List Int) (g21 g19 g17 g15 g6 g5 c1 : Nat) (A1 : Option Addr) (w0 : World) (w : World) : Prop := w.heap[g21]? = some (.cells #[(vI n0), (vI n1)] 25 (0, 0)) ∧ w.heap[g19]? = some (.cells #[(vI n0), (vI n1)] 25 (0, 0)) ∧ w.heap[g17]? = some (.cells #[(vI m0), (vI m1)] 25 (0, 0)) ∧ w.heap[g15]? = some (.cells #[(vI m0), (vI m1)] 25 (0, 0)) ∧ w.heap[g6]? = some (.cells #[(vI b0), (vI b1)] 25 (0, 0)) ∧ w.heap[g5]? = some (.cells #[(vI a0), (vI a1)] 25 (0, 0)) ∧ Below w0.heap.size w0 w ∧ VarsOK w ∧ Kd.C (Kd.int .u8) w A1 l1.length l1 ∧ l1.length ≤ c1
theorem FS6.stays : Stays (FS6 n0 n1 m0 m1 b0 b1 a0 a1 l1 g21 g19 g17 g15 g6 g5 c1 A1 w0) := (stays_blk _ _).and <| (stays_blk _ _).and <| (stays_blk _ _).and <| (stays_blk _ _).and <| (stays_blk _ _).and <| (stays_blk _ _).and <| (stays_below _).and <| sV_.and <| sC_.and sL_
def FS7 (l1 : List Int) (c1 : Nat) (A1 : Option Addr) (w0 : World) (w : World) : Prop := Below w0.heap.size w0 w ∧ VarsOK w ∧ Kd.C (Kd.int .u8) w A1 l1.length l1 ∧ l1.length ≤ c1
theorem FS7.stays : Stays (FS7 l1 c1 A1 w0) := (stays_below _).and <| sV_.and <| sC_.and sL_
def FS8 (l1 : List Int) (ls : List S25) (c314 c1 : Nat) (A314 A1 : Option Addr) (w0 : World) (w : World) : Prop := Kd.C k25 w A314 ls.length ls ∧ ls.length ≤ c314 ∧ Below w0.heap.size w0 w ∧ VarsOK w ∧ Kd.C (Kd.int .u8) w A1 l1.length l1 ∧ l1.length ≤ c1
theorem FS8.stays : Stays (FS8 l1 ls c314 c1 A314 A1 w0) := sC_.and <| sL_.and <| (stays_below _).and <| sV_.and <| sC_.and sL_
def FS9 (ga l1 : List Int) (ls : List S25) (c327 c314 c1 : Nat) (A327 A314 A1 : Option Addr) (w0 : World) (w : World) : Prop := Kd.C (Kd.int .i64) w A327 ga.length ga ∧ ga.length ≤ c327 ∧ Kd.C k25 w A314 ls.length ls ∧ ls.length ≤ c314 ∧ Below w0.heap.size w0 w ∧ VarsOK w ∧ Kd.C (Kd.int .u8) w A1 l1.length l1 ∧ l1.length ≤ c1
theorem FS9.stays : Stays (FS9 ga l1 ls c327 c314 c1 A327 A314 A1 w0) := sC_.and <| sL_.and <| sC_.and <| sL_.and <| (stays_below _).and <| sV_.and <| sC_.and sL_
def FS10 (ga l1 : List Int) (ls : List S25) (c332 c327 c314 c1 : Nat) (A332 A327 A314 A1 : Option Addr) (w0 : World) (w : World) : Prop := Kd.C (Kd.int .i64) w A332 ga.length ga ∧ ga.length ≤ c332 ∧ Kd.C (Kd.int .i64) w A327 ga.length ga ∧ ga.length ≤ c327 ∧ Kd.C k25 w A314 ls.length ls ∧ ls.length ≤ c314 ∧ Below w0.heap.size w0 w ∧ VarsOK w ∧ Kd.C (Kd.int .u8) w A1 l1.length l1 ∧ l1.length ≤ c1
theorem FS10.stays : Stays (FS10 ga l1 ls c332 c327 c314 c1 A332 A327 A314 A1 w0) := sC_.and <| sL_.and <| sC_.and <| sL_.and <| sC_.and <| sL_.and <| (stays_below _).and <| sV_.and <| sC_.and sL_
def FS11 (ga l1 : List Int) (nm ls : List S25) (c337 c332 c327 c314 c1 : Nat) (A337 A332 A327 A314 A1 : Option Addr) (w0 : World) (w : World) : Prop := Kd.C k25 w A337 nm.length nm ∧ nm.length ≤ c337 ∧ Kd.C (Kd.int .i64) w A332 ga.length ga ∧ ga.length ≤ c332 ∧ Kd.C (Kd.int .i64) w A327 ga.length ga ∧ ga.length ≤ c327 ∧ Kd.C k25 w A314 ls.length ls ∧ ls.length ≤ c314 ∧ Below w0.heap.size w0 w ∧ VarsOK w ∧ Kd.C (Kd.int .u8) w A1 l1.length l1 ∧ l1.length ≤ c1
theorem FS11.stays : Stays (FS11 ga l1 nm ls c337 c332 c327 c314 c1 A337 A332 A327 A314 A1 w0) := sC_.and <| sL_.and <| sC_.and <| sL_.and <| sC_.and <| sL_.and <| sC_.and <| sL_.and <| (stays_below _).and <| sV_.and <| sC_.and sL_
def FS12 (ga l1 : List Int) (nm ls : List S25) (c342 c337 c332 c327 c314 c1 : Nat) (A342 A337 A332 A327 A314 A1 : Option Addr) (w0 : World) (w : World) : Prop := Kd.C k25 w A342 nm.length nm ∧ nm.length ≤ c342 ∧ Kd.C k25 w A337 nm.length nm ∧ nm.length ≤ c337 ∧ Kd.C (Kd.int .i64) w A332 ga.length ga ∧ ga.length ≤ c332 ∧ Kd.C (Kd.int .i64) w A327 ga.length ga ∧ ga.length ≤ c327 ∧ Kd.C k25 w A314 ls.length ls ∧ ls.length ≤ c314 ∧ Below w0.heap.size w0 w ∧ VarsOK w ∧ Kd.C (Kd.int .u8) w A1 l1.length l1 ∧ l1.length ≤ c1
theorem FS12.stays : Stays (FS12 ga l1 nm ls c342 c337 c332 c327 c314 c1 A342 A337 A332 A327 A314 A1 w0) := sC_.and <| sL_.and <| sC_.and <| sL_.and <| sC_.and <| sL_.and <| sC_.and <| sL_.and <| sC_.and <| sL_.and <| (stays_below _).and <| sV_.and <| sC_.and sL_
def FS13 (ga l1 : List Int) (re1 nm ls : List S25) (c349 c342 c337 c332 c327 c314 c1 : Nat) (A349 A342 A337 A332 A327 A314 A1 : Option Addr) (w0 : World) (w : World) : Prop := Kd.C k25 w A349 re1.length re1 ∧ re1.length ≤ c349 ∧ Kd.C k25 w A342 nm.length nm ∧ nm.length ≤ c342 ∧ Kd.C k25 w A337 nm.length nm ∧ nm.length ≤ c337 ∧ Kd.C (Kd.int .i64) w A332 ga.length ga ∧ ga.length ≤ c332 ∧ Kd.C (Kd.int .i64) w A327 ga.length ga ∧ ga.length ≤ c327 ∧ Kd.C k25 w A314 ls.length ls ∧ ls.length ≤ c314 ∧ Below w0.heap.size w0 w ∧ VarsOK w ∧ Kd.C (Kd.int .u8) w A1 l1.length l1 ∧ l1.length ≤ c1
theorem FS13.stays : Stays (FS13 ga l1 re1 nm ls c349 c342 c337 c332 c327 c314 c1 A349 A342 A337 A332 A327 A314 A1 w0) := sC_.and <| sL_.and <| sC_.and <| sL_.and <| sC_.and <| sL_.and <| sC_.and <| sL_.and <| sC_.and <| sL_.and <| sC_.and <| sL_.and <| (stays_below _).and <| sV_.and <| sC_.and sL_
def FS14 (ga l1 : List Int) (re1 nm ls : List S25) (c354 c349 c342 c337 c332 c327 c314 c1 : Nat) (A354 A349 A342 A337 A332 A327 A314 A1 : Option Addr) (w0 : World) (w : World) : Prop := Kd.C k25 w A354 re1.length re1 ∧ re1.length ≤ c354 ∧ Kd.C k25 w A349 re1.length re1 ∧ re1.length ≤ c349 ∧ Kd.C k25 w A342 nm.length nm ∧ nm.length ≤ c342 ∧ Kd.C k25 w A337 nm.length nm ∧ nm.length ≤ c337 ∧ Kd.C (Kd.int .i64) w A332 ga.length ga ∧ ga.length ≤ c332 ∧ Kd.C (Kd.int .i64) w A327 ga.length ga ∧ ga.length ≤ c327 ∧ Kd.C k25 w A314 ls.length ls ∧ ls.length ≤ c314 ∧ Below w0.heap.size w0 w ∧ VarsOK w ∧ Kd.C (Kd.int .u8) w A1 l1.length l1 ∧ l1.length ≤ c1
theorem FS14.stays : Stays (FS14 ga l1 re1 nm ls c354 c349 c342 c337 c332 c327 c314 c1 A354 A349 A342 A337 A332 A327 A314 A1 w0) := sC_.and <| sL_.and <| sC_.and <| sL_.and <| sC_.and <| sL_.and <| sC_.and <| sL_.and <| sC_.and <| sL_.and <| sC_.and <| sL_.and <| sC_.and <| sL_.and <| (stays_below _).and <| sV_.and <| sC_.and sL_
def FS15 (ga : List Int) (re1 nm ls : List S25) (c354 c349 c342 c337 c332 c327 c314 : Nat) (A354 A349 A342 A337 A332 A327 A314 : Option Addr) (w0 : World) (w : World) : Prop := Kd.C k25 w A354 re1.length re1 ∧ re1.length ≤ c354 ∧ Kd.C k25 w A349 re1.length re1 ∧ re1.length ≤ c349 ∧ Kd.C k25 w A342 nm.length nm ∧ nm.length ≤ c342 ∧ Kd.C k25 w A337 nm.length nm ∧ nm.length ≤ c337 ∧ Kd.C (Kd.int .i64) w A332 ga.length ga ∧ ga.length ≤ c332 ∧ Kd.C (Kd.int .i64) w A327 ga.length ga ∧ ga.length ≤ c327 ∧ Kd.C k25 w A314 ls.length ls ∧ ls.length ≤ c314 ∧ Below w0.heap.size w0 w ∧ VarsOK w
theorem FS15.stays : Stays (FS15 ga re1 nm ls c354 c349 c342 c337 c332 c327 c314 A354 A349 A342 A337 A332 A327 A314 w0) := sC_.and <| sL_.and <| sC_.and <| sL_.and <| sC_.and <| sL_.and <| sC_.and <| sL_.and <| sC_.and <| sL_.and <| sC_.and <| sL_.and <| sC_.and <| sL_.and <| (stays_below _).and sV_
def FS16 (p0 p1 : Int) (ga : List Int) (re1 nm ls : List S25) (g56 c354 c349 c342 c337 c332 c327 c314 : Nat) (A354 A349 A342 A337 A332 A327 A314 : Option Addr) (w0 : World) (w : World) : Prop := w.heap[g56]? = some (.cells #[(vI p0), (vI p1)] 25 (0, 0)) ∧ Kd.C k25 w A354 re1.length re1 ∧ re1.length ≤ c354 ∧ Kd.C k25 w A349 re1.length re1 ∧ re1.length ≤ c349 ∧ Kd.C k25 w A342 nm.length nm ∧ nm.length ≤ c342 ∧ Kd.C k25 w A337 nm.length nm ∧ nm.length ≤ c337 ∧ Kd.C (Kd.int .i64) w A332 ga.length ga ∧ ga.length ≤ c332 ∧ Kd.C (Kd.int .i64) w A327 ga.length ga ∧ ga.length ≤ c327 ∧ Kd.C k25 w A314 ls.length ls ∧ ls.length ≤ c314 ∧ Below w0.heap.size w0 w ∧ VarsOK w
theorem FS16.stays : Stays (FS16 p0 p1 ga re1 nm ls g56 c354 c349 c342 c337 c332 c327 c314 A354 A349 A342 A337 A332 A327 A314 w0) := (stays_blk _ _).and <| sC_.and <| sL_.and <| sC_.and <| sL_.and <| sC_.and <| sL_.and <| sC_.and <| sL_.and <| sC_.and <| sL_.and <| sC_.and <| sL_.and <| sC_.and <| sL_.and <| (stays_below _).and sV_
def FS17 (p0 p1 : Int) (ga : List Int) (re1 nm ls : List S25) (g58 g56 c354 c349 c342 c337 c332 c327 c314 : Nat) (A354 A349 A342 A337 A332 A327 A314 : Option Addr) (w0 : World) (w : World) : Prop := w.heap[g58]? = some (.cells #[(vI p0), (vI p1)] 25 (0, 0)) ∧ w.heap[g56]? = some (.cells #[(vI p0), (vI p1)] 25 (0, 0)) ∧ Kd.C k25 w A354 re1.length re1 ∧ re1.length ≤ c354 ∧ Kd.C k25 w A349 re1.length re1 ∧ re1.length ≤ c349 ∧ Kd.C k25 w A342 nm.length nm ∧ nm.length ≤ c342 ∧ Kd.C k25 w A337 nm.length nm ∧ nm.length ≤ c337 ∧ Kd.C (Kd.int .i64) w A332 ga.length ga ∧ ga.length ≤ c332 ∧ Kd.C (Kd.int .i64) w A327 ga.length ga ∧ ga.length ≤ c327 ∧ Kd.C k25 w A314 ls.length ls ∧ ls.length ≤ c314 ∧ Below w0.heap.size w0 w ∧ VarsOK w
theorem FS17.stays : Stays (FS17 p0 p1 ga re1 nm ls g58 g56 c354 c349 c342 c337 c332 c327 c314 A354 A349 A342 A337 A332 A327 A314 w0) := (stays_blk _ _).and <| (stays_blk _ _).and <| sC_.and <| sL_.and <| sC_.and <| sL_.and <| sC_.and <| sL_.and <| sC_.and <| sL_.and <| sC_.and <| sL_.and <| sC_.and <| sL_.and <| sC_.and <| sL_.and <| (stays_below _).and sV_
def FS18 (w0 : World) (w : World) : Prop := Below w0.heap.size w0 w ∧ VarsOK w
theorem FS18.stays : Stays (FS18 w0) := (stays_below _).and sV_
def FS19 (p0 p1 : Int) (g56 : Nat) (w0 : World) (w : World) : Prop := w.heap[g56]? = some (.cells #[(vI p0), (vI p1)] 25 (0, 0)) ∧ Below w0.heap.size w0 w ∧ VarsOK w
theorem FS19.stays : Stays (FS19 p0 p1 g56 w0) := (stays_blk _ _).and <| (stays_below _).and sV_
def FS20 (p0 p1 : Int) (re1 : List S25) (g56 c349 : Nat) (A349 : Option Addr) (w0 : World) (w : World) : Prop := w.heap[g56]? = some (.cells #[(vI p0), (vI p1)] 25 (0, 0)) ∧ Kd.C k25 w A349 re1.length re1 ∧ re1.length ≤ c349 ∧ Below w0.heap.size w0 w ∧ VarsOK w
theorem FS20.stays : Stays (FS20 p0 p1 re1 g56 c349 A349 w0) := (stays_blk _ _).and <| sC_.and <| sL_.and <| (stays_below _).and sV_
def FS21 (p0 p1 : Int) (ga : List Int) (re1 nm ls : List S25) (g56 c349 c337 c327 c314 : Nat) (A349 A337 A327 A314 : Option Addr) (w0 : World) (w : World) : Prop := w.heap[g56]? = some (.cells #[(vI p0), (vI p1)] 25 (0, 0)) ∧ Kd.C k25 w A349 re1.length re1 ∧ re1.length ≤ c349 ∧ Kd.C k25 w A337 nm.length nm ∧ nm.length ≤ c337 ∧ Kd.C (Kd.int .i64) w A327 ga.length ga ∧ ga.length ≤ c327 ∧ Kd.C k25 w A314 ls.length ls ∧ ls.length ≤ c314 ∧ Below w0.heap.size w0 w ∧ VarsOK w
theorem FS21.stays : Stays (FS21 p0 p1 ga re1 nm ls g56 c349 c337 c327 c314 A349 A337 A327 A314 w0) := (stays_blk _ _).and <| sC_.and <| sL_.and <| sC_.and <| sL_.and <| sC_.and <| sL_.and <| sC_.and <| sL_.and <| (stays_below _).and sV_
def FS22 (p0 p1 : Int) (ga : List Int) (ls re1 nm : List S25) (c446 g56 c349 c337 c327 c314 : Nat) (A446 A349 A337 A327 A314 : Option Addr) (w0 : World) (w : World) : Prop := Kd.C k25 w A446 ls.length ls ∧ ls.length ≤ c446 ∧ w.heap[g56]? = some (.cells #[(vI p0), (vI p1)] 25 (0, 0)) ∧ Kd.C k25 w A349 re1.length re1 ∧ re1.length ≤ c349 ∧ Kd.C k25 w A337 nm.length nm ∧ nm.length ≤ c337 ∧ Kd.C (Kd.int .i64) w A327 ga.length ga ∧ ga.length ≤ c327 ∧ Kd.C k25 w A314 ls.length ls ∧ ls.length ≤ c314 ∧ Below w0.heap.size w0 w ∧ VarsOK w
theorem FS22.stays : Stays (FS22 p0 p1 ga ls re1 nm c446 g56 c349 c337 c327 c314 A446 A349 A337 A327 A314 w0) := sC_.and <| sL_.and <| (stays_blk _ _).and <| sC_.and <| sL_.and <| sC_.and <| sL_.and <| sC_.and <| sL_.and <| sC_.and <| sL_.and <| (stays_below _).and sV_
def FS23 (p0 p1 : Int) (ga : List Int) (ls re1 nm : List S25) (g64 i g56 c349 c337 c327 c314 : Nat) (A349 A337 A327 A314 : Option Addr) (w0 : World) (w : World) : Prop := w.heap[g64]? = some (.cells #[(vI ((ls.getD i z25).f0)), (vI ((ls.getD i z25).f1))] 25 (0, 0)) ∧ w.heap[g56]? = some (.cells #[(vI p0), (vI p1)] 25 (0, 0)) ∧ Kd.C k25 w A349 re1.length re1 ∧ re1.length ≤ c349 ∧ Kd.C k25 w A337 nm.length nm ∧ nm.length ≤ c337 ∧ Kd.C (Kd.int .i64) w A327 ga.length ga ∧ ga.length ≤ c327 ∧ Kd.C k25 w A314 ls.length ls ∧ ls.length ≤ c314 ∧ Below w0.heap.size w0 w ∧ VarsOK w
theorem FS23.stays : Stays (FS23 p0 p1 ga ls re1 nm g64 i g56 c349 c337 c327 c314 A349 A337 A327 A314 w0) := (stays_blk _ _).and <| (stays_blk _ _).and <| sC_.and <| sL_.and <| sC_.and <| sL_.and <| sC_.and <| sL_.and <| sC_.and <| sL_.and <| (stays_below _).and sV_
def FS24 (p0 p1 : Int) (ga : List Int) (ls re1 nm : List S25) (g65 i g64 g56 c349 c337 c327 c314 : Nat) (A349 A337 A327 A314 : Option Addr) (w0 : World) (w : World) : Prop := w.heap[g65]? = some (.cells #[(vI ((ls.getD i z25).f0)), (vI ((ls.getD i z25).f1))] 25 (0, 0)) ∧ w.heap[g64]? = some (.cells #[(vI ((ls.getD i z25).f0)), (vI ((ls.getD i z25).f1))] 25 (0, 0)) ∧ w.heap[g56]? = some (.cells #[(vI p0), (vI p1)] 25 (0, 0)) ∧ Kd.C k25 w A349 re1.length re1 ∧ re1.length ≤ c349 ∧ Kd.C k25 w A337 nm.length nm ∧ nm.length ≤ c337 ∧ Kd.C (Kd.int .i64) w A327 ga.length ga ∧ ga.length ≤ c327 ∧ Kd.C k25 w A314 ls.length ls ∧ ls.length ≤ c314 ∧ Below w0.heap.size w0 w ∧ VarsOK w
theorem FS24.stays : Stays (FS24 p0 p1 ga ls re1 nm g65 i g64 g56 c349 c337 c327 c314 A349 A337 A327 A314 w0) := (stays_blk _ _).and <| (stays_blk _ _).and <| (stays_blk _ _).and <| sC_.and <| sL_.and <| sC_.and <| sL_.and <| sC_.and <| sL_.and <| sC_.and <| sL_.and <| (stays_below _).and sV_
def FS25 (p0 p1 : Int) (ga : List Int) (re1 ls : List S25) (g56 c349 c327 c314 : Nat) (A349 A327 A314 : Option Addr) (w0 : World) (w : World) : Prop := w.heap[g56]? = some (.cells #[(vI p0), (vI p1)] 25 (0, 0)) ∧ Kd.C k25 w A349 re1.length re1 ∧ re1.length ≤ c349 ∧ Kd.C (Kd.int .i64) w A327 ga.length ga ∧ ga.length ≤ c327 ∧ Kd.C k25 w A314 ls.length ls ∧ ls.length ≤ c314 ∧ Below w0.heap.size w0 w ∧ VarsOK w
theorem FS25.stays : Stays (FS25 p0 p1 ga re1 ls g56 c349 c327 c314 A349 A327 A314 w0) := (stays_blk _ _).and <| sC_.and <| sL_.and <| sC_.and <| sL_.and <| sC_.and <| sL_.and <| (stays_below _).and sV_
def FS26 (a0 a1 : Int) (l1 : List Int) (g5 c1 : Nat) (A1 : Option Addr) (w0 : World) (w : World) : Prop := w.heap[g5]? = some (.cells #[(vI a0), (vI a1)] 25 (0, 0)) ∧ Below w0.heap.size w0 w ∧ VarsOK w ∧ Kd.C (Kd.int .u8) w A1 l1.length l1 ∧ l1.length ≤ c1
theorem FS26.stays : Stays (FS26 a0 a1 l1 g5 c1 A1 w0) := (stays_blk _ _).and <| (stays_below _).and <| sV_.and <| sC_.and sL_
def FS27 (a0 a1 : Int) (l1 : List Int) (g35 g5 c1 : Nat) (A1 : Option Addr) (w0 : World) (w : World) : Prop := w.heap[g35]? = some (.cells #[(vI a0), (vI a1)] 25 (0, 0)) ∧ w.heap[g5]? = some (.cells #[(vI a0), (vI a1)] 25 (0, 0)) ∧ Below w0.heap.size w0 w ∧ VarsOK w ∧ Kd.C (Kd.int .u8) w A1 l1.length l1 ∧ l1.length ≤ c1
theorem FS27.stays : Stays (FS27 a0 a1 l1 g35 g5 c1 A1 w0) := (stays_blk _ _).and <| (stays_blk _ _).and <| (stays_below _).and <| sV_.and <| sC_.and sL_
def FS28 (n0 n1 a0 a1 : Int) (l1 : List Int) (g19 g5 c1 : Nat) (A1 : Option Addr) (w0 : World) (w : World) : Prop := w.heap[g19]? = some (.cells #[(vI n0), (vI n1)] 25 (0, 0)) ∧ w.heap[g5]? = some (.cells #[(vI a0), (vI a1)] 25 (0, 0)) ∧ Below w0.heap.size w0 w ∧ VarsOK w ∧ Kd.C (Kd.int .u8) w A1 l1.length l1 ∧ l1.length ≤ c1
theorem FS28.stays : Stays (FS28 n0 n1 a0 a1 l1 g19 g5 c1 A1 w0) := (stays_blk _ _).and <| (stays_blk _ _).and <| (stays_below _).and <| sV_.and <| sC_.and sL_
def FS29 (n0 n1 m0 m1 b0 b1 a0 a1 : Int) (l1 : List Int) (g19 g15 g6 g5 c1 : Nat) (A1 : Option Addr) (w0 : World) (w : World) : Prop := w.heap[g19]? = some (.cells #[(vI n0), (vI n1)] 25 (0, 0)) ∧ w.heap[g15]? = some (.cells #[(vI m0), (vI m1)] 25 (0, 0)) ∧ w.heap[g6]? = some (.cells #[(vI b0), (vI b1)] 25 (0, 0)) ∧ w.heap[g5]? = some (.cells #[(vI a0), (vI a1)] 25 (0, 0)) ∧ Below w0.heap.size w0 w ∧ VarsOK w ∧ Kd.C (Kd.int .u8) w A1 l1.length l1 ∧ l1.length ≤ c1
theorem FS29.stays : Stays (FS29 n0 n1 m0 m1 b0 b1 a0 a1 l1 g19 g15 g6 g5 c1 A1 w0) := (stays_blk _ _).and <| (stays_blk _ _).and <| (stays_blk _ _).and <| (stays_blk _ _).and <| (stays_below _).and <| sV_.and <| sC_.and sL_
theorem t49 {a : Act} {w : World} (h : Has 567 a []) (hw : FS18 w0 w) : B49.wp Tryz.prog (Ql w0) a w := by
  refine wp_seq ?_
  refine region_ (K := [(4, (vB true))]) (obs := []) (by kernel_rfl) mix rfl FS18.stays trivial h hw ?_
  clear h hw
  intro a w h hw
  show Code.wp _ Code.ret _ _ _
  refine wp_ret ?_
  exact post_ h rfl (hw.1)
theorem t46 {a : Act} {w : World} (h : Has 567 a [(55, (.string dt)), (69, (.string dt)), (70, (vB true))]) (hw : FS18 w0 w) : B46.wp Tryz.prog (Exit.then (fun a w => Code.wp Tryz.prog B49 (Ql w0) a w) (Ql w0)) a w := by
  refine wp_seq ?_
  refine region_ (K := [(4, (vB true))]) (obs := [.op (Op.binOp BinOp.eql 9 (tm 563) (tm 564) 9) 4 [((tm 563), (.string dt)), ((tm 564), (.string dt))] (vB true)]) (by kernel_rfl) mix rfl FS18.stays ⟨(ok_eql_str (by simp)), trivial⟩ h hw ?_
  clear h hw
  intro a w h hw
  show Code.wp _ Code.ret _ _ _
  refine wp_ret ?_
  exact post_ h rfl (hw.1)
theorem t47 (H : Facts kk l0 l1 a0 a1 b0 b1 cn ok od one m0 m1 thr n0 n1 fv tx sv ba x1 y1 ls tt nin ga nm ds re1 fif dt p0 p1 true la la2 fa fa2) {a : Act} {w : World} (h : Has 567 a [(55, (.string dt)), (56, (vP g56))]) (hw : FS19 p0 p1 g56 w0 w) : B47.wp Tryz.prog (Exit.then (fun a w => Code.wp Tryz.prog B49 (Ql w0) a w) (Ql w0)) a w := by
  refine wp_seq ?_
  exact region_ (K := [(55, (.string dt)), (69, (.string dt)), (70, (vB true))]) (obs := [lS 25 56 g56 p0 p1, .call 14 [(vA p0 p1)] (.tuple #[(.string dt), (vB true)])]) (by kernel_rfl) mix rfl FS19.stays ⟨(ok_load25 (fun w hw => (hw.1))), ⟨⟨_, Tryz.func14, by kernel_rfl, by kernel_rfl⟩, fun w hw => FS19.stays.calls hw (impl_PlateText.calls _ _ _ _ _ (H.f69_1 rfl) (hw.2.2))⟩, trivial⟩ h hw fun a w h hw => t46 h hw.2
theorem t50 (H : Facts kk l0 l1 a0 a1 b0 b1 cn ok od one m0 m1 thr n0 n1 fv tx sv ba x1 y1 ls tt nin ga nm ds re1 fif dt p0 p1 svt la la2 fa fa2) {a : Act} {w : World} (h : Has 567 a [(55, (.string dt)), (56, (vP g56)), (57, (vB svt))]) (hw : FS19 p0 p1 g56 w0 w) : B50.wp Tryz.prog (Ql w0) a w := by
  refine wp_seq ?_
  refine wp_seq ?_
  refine region_ (K := [(55, (.string dt)), (56, (vP g56)), (555, (vB svt))]) (obs := []) (by kernel_rfl) mix rfl FS19.stays trivial h hw ?_
  clear h hw
  intro a w h hw
  show Code.wp _ (Code.cond (tm 555) B47 Code.skip) _ _ _
  cases svt with
  | true =>
    refine wp_cond_true (h.opd (by kernel_rfl)) ?_
    exact t47 H (h.cut (by kernel_rfl)) hw
  | false =>
    refine wp_cond_false (h.opd (by kernel_rfl)) ?_
    refine wp_skip ?_
    exact t49 (h.cut (by kernel_rfl)) hw.2
theorem t43 (H : Facts kk l0 l1 a0 a1 b0 b1 cn ok od one m0 m1 thr n0 n1 fv tx sv ba x1 y1 ls tt nin ga nm ds re1 true dt p0 p1 svt la la2 fa fa2) {a : Act} {w : World} (h : Has 567 a [(50, (.string ds)), (55, (.string dt)), (56, (vP g56)), (57, (vB svt)), (67, (.string ds)), (68, (vB true))]) (hw : FS19 p0 p1 g56 w0 w) : B43.wp Tryz.prog (Exit.then (fun a w => Code.wp Tryz.prog B50 (Ql w0) a w) (Ql w0)) a w := by
  refine wp_seq ?_
  refine region_ (K := [(55, (.string dt)), (56, (vP g56)), (57, (vB svt)), (554, (vB false))]) (obs := [.op (Op.binOp BinOp.neq 9 (tm 551) (tm 552) 9) 4 [((tm 551), (.string ds)), ((tm 552), (.string ds))] (vB false)]) (by kernel_rfl) mix rfl FS19.stays ⟨(ok_neq_str (by simp)), trivial⟩ h hw ?_
  clear h hw
  intro a w h hw
  show Code.wp _ (Code.cond (tm 554) B42 Code.skip) _ _ _
  refine wp_cond_false (h.opd (by kernel_rfl)) ?_
  refine wp_skip ?_
  exact t50 H (h.cut (by kernel_rfl)) hw
theorem t44 (H : Facts kk l0 l1 a0 a1 b0 b1 cn ok od one m0 m1 thr n0 n1 fv tx sv ba x1 y1 ls tt nin ga nm ds re1 true dt p0 p1 svt la la2 fa fa2) {a : Act} {w : World} (h : Has 567 a [(50, (.string ds)), (51, (vS A349 re1 c349)), (55, (.string dt)), (56, (vP g56)), (57, (vB svt))]) (hw : FS20 p0 p1 re1 g56 c349 A349 w0 w) : B44.wp Tryz.prog (Exit.then (fun a w => Code.wp Tryz.prog B50 (Ql w0) a w) (Ql w0)) a w := by
  refine wp_seq ?_
  exact region_ (obs := [.call 20 [(vS A349 re1 c349)] (.tuple #[(.string ds), (vB true)])]) (by kernel_rfl) mix rfl FS20.stays ⟨⟨⟨_, Tryz.func20, by kernel_rfl, by kernel_rfl⟩, fun w hw => FS20.stays.calls hw (impl_PlatesText.calls _ _ _ _ _ _ _ (hw.2.1) (hw.2.2.1) (H.f65_1 rfl) (hw.2.2.2.2))⟩, trivial⟩ h hw fun a w h hw => t43 H h (let ⟨p,_,_,q⟩ := hw; ⟨p,q⟩)
theorem t51 (H : Facts kk l0 l1 a0 a1 b0 b1 cn ok od one m0 m1 thr n0 n1 fv tx sv ba x1 y1 ls tt nin ga nm ds re1 fif dt p0 p1 svt la la2 fa fa2) {a : Act} {w : World} (h : Has 567 a [(50, (.string ds)), (51, (vS A349 re1 c349)), (52, (vB fif)), (55, (.string dt)), (56, (vP g56)), (57, (vB svt))]) (hw : FS20 p0 p1 re1 g56 c349 A349 w0 w) : B51.wp Tryz.prog (Ql w0) a w := by
  refine wp_seq ?_
  refine wp_seq ?_
  refine region_ (K := [(50, (.string ds)), (51, (vS A349 re1 c349)), (55, (.string dt)), (56, (vP g56)), (57, (vB svt)), (542, (vB fif))]) (obs := []) (by kernel_rfl) mix rfl FS20.stays trivial h hw ?_
  clear h hw
  intro a w h hw
  show Code.wp _ (Code.cond (tm 542) B44 Code.skip) _ _ _
  cases fif with
  | true =>
    refine wp_cond_true (h.opd (by kernel_rfl)) ?_
    exact t44 H (h.cut (by kernel_rfl)) hw
  | false =>
    refine wp_cond_false (h.opd (by kernel_rfl)) ?_
    refine wp_skip ?_
    exact t50 H (h.cut (by kernel_rfl)) (let ⟨p,_,_,q⟩ := hw; ⟨p,q⟩)
theorem t27 (hlt : i < ls.length) (hmax_ : ls.length ≤ 9223372036854775807) {a : Act} {w : World} (h : Has 567 a [(37, (vS A314 ls c314)), (42, (vS A327 ga c327)), (46, (vS A337 nm c337)), (50, (.string ds)), (51, (vS A349 re1 c349)), (52, (vB fif)), (55, (.string dt)), (56, (vP g56)), (57, (vB svt)), (62, (vI (numsP ls i))), (63, (vI (i : Int))), (64, (vP g64)), (469, (vS A314 ls c314)), (470, (vI (ls.length : Int))), (471, (vI (i : Int)))]) (hw : FS23 p0 p1 ga ls re1 nm g64 i g56 c349 c337 c327 c314 A349 A337 A327 A314 w0 w) : B27.wp Tryz.prog (Exit.inBlock 1 (Exit.then (fun a w => Code.wp Tryz.prog (Code.region 61 R61.toArray false) (Exit.then (fun a' w' => ∃ d', d' < ls.length - i ∧ (∃ i : Nat, i ≤ ls.length ∧ d' = ls.length - i ∧ Has 567 a' [(37, (vS A314 ls c314)), (42, (vS A327 ga c327)), (46, (vS A337 nm c337)), (50, (.string ds)), (51, (vS A349 re1 c349)), (52, (vB fif)), (55, (.string dt)), (56, (vP g56)), (57, (vB svt)), (62, (vI (numsP ls i))), (469, (vS A314 ls c314)), (470, (vI (ls.length : Int))), (471, (vI (i : Int)))] ∧ FS21 p0 p1 ga re1 nm ls g56 c349 c337 c327 c314 A349 A337 A327 A314 w0 w')) (Exit.inBlock 0 (Exit.then (fun a w => Code.wp Tryz.prog B36 (Exit.then (fun a w => Code.wp Tryz.prog B51 (Ql w0) a w) (Ql w0)) a w) (Exit.then (fun a w => Code.wp Tryz.prog B51 (Ql w0) a w) (Ql w0))))) a w) (Exit.then (fun a' w' => ∃ d', d' < ls.length - i ∧ (∃ i : Nat, i ≤ ls.length ∧ d' = ls.length - i ∧ Has 567 a' [(37, (vS A314 ls c314)), (42, (vS A327 ga c327)), (46, (vS A337 nm c337)), (50, (.string ds)), (51, (vS A349 re1 c349)), (52, (vB fif)), (55, (.string dt)), (56, (vP g56)), (57, (vB svt)), (62, (vI (numsP ls i))), (469, (vS A314 ls c314)), (470, (vI (ls.length : Int))), (471, (vI (i : Int)))] ∧ FS21 p0 p1 ga re1 nm ls g56 c349 c337 c327 c314 A349 A337 A327 A314 w0 w')) (Exit.inBlock 0 (Exit.then (fun a w => Code.wp Tryz.prog B36 (Exit.then (fun a w => Code.wp Tryz.prog B51 (Ql w0) a w) (Ql w0)) a w) (Exit.then (fun a w => Code.wp Tryz.prog B51 (Ql w0) a w) (Ql w0))))))) a w := by
  refine wp_seq ?_
  by_cases hx1 : i = 0
  · refine region_ (F := FS23 p0 p1 ga ls re1 nm g64 i g56 c349 c337 c327 c314 A349 A337 A327 A314 w0) (K := [(37, (vS A314 ls c314)), (42, (vS A327 ga c327)), (46, (vS A337 nm c337)), (50, (.string ds)), (51, (vS A349 re1 c349)), (52, (vB fif)), (55, (.string dt)), (56, (vP g56)), (57, (vB svt)), (62, (vI (numsP ls i))), (469, (vS A314 ls c314)), (470, (vI (ls.length : Int))), (471, (vI (i : Int))), (520, (vB true))]) (obs := [cK .eql 508 (i : Int) 0 true]) (by kernel_rfl) mix lex59 FS23.stays ⟨(ok_eql_int (beq_iff_eq.mpr (by omega))), trivial⟩ h hw ?_
    clear h hw
    intro a w h hw
    show Code.wp _ (Code.cond (tm 520) (Code.region 60 R60.toArray false) Code.skip) _ _ _
    refine wp_cond_true (h.opd (by kernel_rfl)) ?_
    refine region_ (K := [(37, (vS A314 ls c314)), (42, (vS A327 ga c327)), (46, (vS A337 nm c337)), (50, (.string ds)), (51, (vS A349 re1 c349)), (52, (vB fif)), (55, (.string dt)), (56, (vP g56)), (57, (vB svt)), (62, (vI ((numsP ls (i + 1))))), (469, (vS A314 ls c314)), (470, (vI (ls.length : Int))), (471, (vI (i : Int)))]) (obs := [bO .add (tm 521) (Operand.const (Value.int IntKind.i64 1)) (numsP ls i) 1 ((numsP ls (i + 1)))]) (by kernel_rfl) mix rfl FS23.stays ⟨(ok_add_int (nums_z_ hx1)), trivial⟩ h hw ?_
    clear h hw
    intro a w h hw
    show Code.wp _ (Code.region 61 R61.toArray false) _ _ _
    refine region_ (K := [(37, (vS A314 ls c314)), (42, (vS A327 ga c327)), (46, (vS A337 nm c337)), (50, (.string ds)), (51, (vS A349 re1 c349)), (52, (vB fif)), (55, (.string dt)), (56, (vP g56)), (57, (vB svt)), (62, (vI ((numsP ls (i + 1))))), (469, (vS A314 ls c314)), (470, (vI (ls.length : Int))), (471, (vI (((i + 1 : Nat) : Int))))]) (obs := [bO .add (tm 471) (Operand.const (Value.int IntKind.i64 1)) (i : Int) 1 (((i + 1 : Nat) : Int))]) (by kernel_rfl) mix rfl FS23.stays ⟨(ok_add_int (wadd_ (by omega))), trivial⟩ h hw ?_
    clear h hw
    intro a w h hw
    refine ⟨ls.length - (i + 1), by omega, i + 1, by omega, rfl, ?_, ?_⟩
    · exact h.cut (by kernel_rfl)
    · exact ⟨hw.2.1, hw.2.2.1, hw.2.2.2.1, hw.2.2.2.2.1, hw.2.2.2.2.2.1, hw.2.2.2.2.2.2.1, hw.2.2.2.2.2.2.2.1, hw.2.2.2.2.2.2.2.2.1, hw.2.2.2.2.2.2.2.2.2.1, hw.2.2.2.2.2.2.2.2.2.2.1, hw.2.2.2.2.2.2.2.2.2.2.2⟩
  · obtain ⟨ad, hA⟩ := P_some (hw.2.2.2.2.2.2.2.2.1) (i := i - 1) (by omega)
    by_cases hx2 : (ls.getD (i - 1) z25).f0 = (ls.getD i z25).f0
    · refine region_ (F := FS23 p0 p1 ga ls re1 nm g64 i g56 c349 c337 c327 c314 A349 A337 A327 A314 w0) (K := [(37, (vS A314 ls c314)), (42, (vS A327 ga c327)), (46, (vS A337 nm c337)), (50, (.string ds)), (51, (vS A349 re1 c349)), (52, (vB fif)), (55, (.string dt)), (56, (vP g56)), (57, (vB svt)), (62, (vI (numsP ls i))), (469, (vS A314 ls c314)), (470, (vI (ls.length : Int))), (471, (vI (i : Int))), (520, (vB false))]) (obs := [cK .eql 508 (i : Int) 0 false, bO .sub (tm 512) (Operand.const (Value.int IntKind.i64 1)) (i : Int) 1 (((i - 1 : Nat) : Int)), .op (Op.indexAddr 37 (tm 511) (tm 513)) 0 [((tm 511), (vS A314 ls c314)), ((tm 513), (vI (((i - 1 : Nat) : Int))))] (.pointer (some ((ad.add ((i - 1) * 2))))), .op (Op.fieldAddr 25 (tm 514) 0) 0 [((tm 514), (.pointer (some ((ad.add ((i - 1) * 2))))))] (.pointer (some ((ad.add ((i - 1) * 2))))), .op (Op.load 3 (tm 515)) 3 [((tm 515), (.pointer (some ((ad.add ((i - 1) * 2))))))] (vI ((ls.getD (i - 1) z25).f0)), .op (Op.fieldAddr 25 (tm 64) 0) 0 [((tm 64), (vP g64))] (vP g64), .op (Op.load 3 (tm 517)) 3 [((tm 517), (vP g64))] (vI ((ls.getD i z25).f0)), cI .neq 516 518 ((ls.getD (i - 1) z25).f0) ((ls.getD i z25).f0) false]) (by kernel_rfl) mix lex59 FS23.stays ⟨(ok_eql_int (beq_eq_false_iff_ne.mpr (by omega))), (ok_sub_int (wsub_ (by omega) (by omega))), (ok_idxe37 hA rfl (by omega)), ok_fap25_0, (ok_load3p (fun w hw => (P_cells (hw.2.2.2.2.2.2.2.2.1) hA (getD_eta_ (by omega))).1)), ok_fa25_0, (ok_load3 (fun w hw => blk_cell (hw.1) 0)), (ok_neq_int (bne_eq_false_iff_eq.mpr hx2)), trivial⟩ h hw ?_
      clear h hw
      intro a w h hw
      show Code.wp _ (Code.cond (tm 520) (Code.region 60 R60.toArray false) Code.skip) _ _ _
      refine wp_cond_false (h.opd (by kernel_rfl)) ?_
      refine wp_skip ?_
      show Code.wp _ (Code.region 61 R61.toArray false) _ _ _
      refine region_ (K := [(37, (vS A314 ls c314)), (42, (vS A327 ga c327)), (46, (vS A337 nm c337)), (50, (.string ds)), (51, (vS A349 re1 c349)), (52, (vB fif)), (55, (.string dt)), (56, (vP g56)), (57, (vB svt)), (62, (vI (numsP ls i))), (469, (vS A314 ls c314)), (470, (vI (ls.length : Int))), (471, (vI (((i + 1 : Nat) : Int))))]) (obs := [bO .add (tm 471) (Operand.const (Value.int IntKind.i64 1)) (i : Int) 1 (((i + 1 : Nat) : Int))]) (by kernel_rfl) mix rfl FS23.stays ⟨(ok_add_int (wadd_ (by omega))), trivial⟩ h hw ?_
      clear h hw
      intro a w h hw
      rw [nums_f_ hx1 hx2] at h
      refine ⟨ls.length - (i + 1), by omega, i + 1, by omega, rfl, ?_, ?_⟩
      · exact h.cut (by kernel_rfl)
      · exact ⟨hw.2.1, hw.2.2.1, hw.2.2.2.1, hw.2.2.2.2.1, hw.2.2.2.2.2.1, hw.2.2.2.2.2.2.1, hw.2.2.2.2.2.2.2.1, hw.2.2.2.2.2.2.2.2.1, hw.2.2.2.2.2.2.2.2.2.1, hw.2.2.2.2.2.2.2.2.2.2.1, hw.2.2.2.2.2.2.2.2.2.2.2⟩
    · refine region_ (F := FS23 p0 p1 ga ls re1 nm g64 i g56 c349 c337 c327 c314 A349 A337 A327 A314 w0) (K := [(37, (vS A314 ls c314)), (42, (vS A327 ga c327)), (46, (vS A337 nm c337)), (50, (.string ds)), (51, (vS A349 re1 c349)), (52, (vB fif)), (55, (.string dt)), (56, (vP g56)), (57, (vB svt)), (62, (vI (numsP ls i))), (469, (vS A314 ls c314)), (470, (vI (ls.length : Int))), (471, (vI (i : Int))), (520, (vB true))]) (obs := [cK .eql 508 (i : Int) 0 false, bO .sub (tm 512) (Operand.const (Value.int IntKind.i64 1)) (i : Int) 1 (((i - 1 : Nat) : Int)), .op (Op.indexAddr 37 (tm 511) (tm 513)) 0 [((tm 511), (vS A314 ls c314)), ((tm 513), (vI (((i - 1 : Nat) : Int))))] (.pointer (some ((ad.add ((i - 1) * 2))))), .op (Op.fieldAddr 25 (tm 514) 0) 0 [((tm 514), (.pointer (some ((ad.add ((i - 1) * 2))))))] (.pointer (some ((ad.add ((i - 1) * 2))))), .op (Op.load 3 (tm 515)) 3 [((tm 515), (.pointer (some ((ad.add ((i - 1) * 2))))))] (vI ((ls.getD (i - 1) z25).f0)), .op (Op.fieldAddr 25 (tm 64) 0) 0 [((tm 64), (vP g64))] (vP g64), .op (Op.load 3 (tm 517)) 3 [((tm 517), (vP g64))] (vI ((ls.getD i z25).f0)), cI .neq 516 518 ((ls.getD (i - 1) z25).f0) ((ls.getD i z25).f0) true]) (by kernel_rfl) mix lex59 FS23.stays ⟨(ok_eql_int (beq_eq_false_iff_ne.mpr (by omega))), (ok_sub_int (wsub_ (by omega) (by omega))), (ok_idxe37 hA rfl (by omega)), ok_fap25_0, (ok_load3p (fun w hw => (P_cells (hw.2.2.2.2.2.2.2.2.1) hA (getD_eta_ (by omega))).1)), ok_fa25_0, (ok_load3 (fun w hw => blk_cell (hw.1) 0)), (ok_neq_int (bne_iff_ne.mpr hx2)), trivial⟩ h hw ?_
      clear h hw
      intro a w h hw
      show Code.wp _ (Code.cond (tm 520) (Code.region 60 R60.toArray false) Code.skip) _ _ _
      refine wp_cond_true (h.opd (by kernel_rfl)) ?_
      refine region_ (K := [(37, (vS A314 ls c314)), (42, (vS A327 ga c327)), (46, (vS A337 nm c337)), (50, (.string ds)), (51, (vS A349 re1 c349)), (52, (vB fif)), (55, (.string dt)), (56, (vP g56)), (57, (vB svt)), (62, (vI ((numsP ls (i + 1))))), (469, (vS A314 ls c314)), (470, (vI (ls.length : Int))), (471, (vI (i : Int)))]) (obs := [bO .add (tm 521) (Operand.const (Value.int IntKind.i64 1)) (numsP ls i) 1 ((numsP ls (i + 1)))]) (by kernel_rfl) mix rfl FS23.stays ⟨(ok_add_int (nums_t_ hlt hmax_ hx1 hx2)), trivial⟩ h hw ?_
      clear h hw
      intro a w h hw
      show Code.wp _ (Code.region 61 R61.toArray false) _ _ _
      refine region_ (K := [(37, (vS A314 ls c314)), (42, (vS A327 ga c327)), (46, (vS A337 nm c337)), (50, (.string ds)), (51, (vS A349 re1 c349)), (52, (vB fif)), (55, (.string dt)), (56, (vP g56)), (57, (vB svt)), (62, (vI ((numsP ls (i + 1))))), (469, (vS A314 ls c314)), (470, (vI (ls.length : Int))), (471, (vI (((i + 1 : Nat) : Int))))]) (obs := [bO .add (tm 471) (Operand.const (Value.int IntKind.i64 1)) (i : Int) 1 (((i + 1 : Nat) : Int))]) (by kernel_rfl) mix rfl FS23.stays ⟨(ok_add_int (wadd_ (by omega))), trivial⟩ h hw ?_
      clear h hw
      intro a w h hw
      refine ⟨ls.length - (i + 1), by omega, i + 1, by omega, rfl, ?_, ?_⟩
      · exact h.cut (by kernel_rfl)
      · exact ⟨hw.2.1, hw.2.2.1, hw.2.2.2.1, hw.2.2.2.2.1, hw.2.2.2.2.2.1, hw.2.2.2.2.2.2.1, hw.2.2.2.2.2.2.2.1, hw.2.2.2.2.2.2.2.2.1, hw.2.2.2.2.2.2.2.2.2.1, hw.2.2.2.2.2.2.2.2.2.2.1, hw.2.2.2.2.2.2.2.2.2.2.2⟩
theorem t28 (H : Facts kk l0 l1 a0 a1 b0 b1 cn ok od one m0 m1 thr n0 n1 fv tx sv ba x1 y1 ls tt true ga nm ds re1 fif dt p0 p1 svt la la2 fa fa2) (hlt : i < ls.length) (hmax_ : ls.length ≤ 9223372036854775807) {a : Act} {w : World} (h : Has 567 a [(37, (vS A314 ls c314)), (42, (vS A327 ga c327)), (46, (vS A337 nm c337)), (50, (.string ds)), (51, (vS A349 re1 c349)), (52, (vB fif)), (55, (.string dt)), (56, (vP g56)), (57, (vB svt)), (62, (vI (numsP ls i))), (63, (vI (i : Int))), (64, (vP g64)), (65, (vP g65)), (66, (vB true)), (469, (vS A314 ls c314)), (470, (vI (ls.length : Int))), (471, (vI (i : Int)))]) (hw : FS24 p0 p1 ga ls re1 nm g65 i g64 g56 c349 c337 c327 c314 A349 A337 A327 A314 w0 w) : B28.wp Tryz.prog (Exit.inBlock 1 (Exit.then (fun a w => Code.wp Tryz.prog (Code.region 61 R61.toArray false) (Exit.then (fun a' w' => ∃ d', d' < ls.length - i ∧ (∃ i : Nat, i ≤ ls.length ∧ d' = ls.length - i ∧ Has 567 a' [(37, (vS A314 ls c314)), (42, (vS A327 ga c327)), (46, (vS A337 nm c337)), (50, (.string ds)), (51, (vS A349 re1 c349)), (52, (vB fif)), (55, (.string dt)), (56, (vP g56)), (57, (vB svt)), (62, (vI (numsP ls i))), (469, (vS A314 ls c314)), (470, (vI (ls.length : Int))), (471, (vI (i : Int)))] ∧ FS21 p0 p1 ga re1 nm ls g56 c349 c337 c327 c314 A349 A337 A327 A314 w0 w')) (Exit.inBlock 0 (Exit.then (fun a w => Code.wp Tryz.prog B36 (Exit.then (fun a w => Code.wp Tryz.prog B51 (Ql w0) a w) (Ql w0)) a w) (Exit.then (fun a w => Code.wp Tryz.prog B51 (Ql w0) a w) (Ql w0))))) a w) (Exit.then (fun a' w' => ∃ d', d' < ls.length - i ∧ (∃ i : Nat, i ≤ ls.length ∧ d' = ls.length - i ∧ Has 567 a' [(37, (vS A314 ls c314)), (42, (vS A327 ga c327)), (46, (vS A337 nm c337)), (50, (.string ds)), (51, (vS A349 re1 c349)), (52, (vB fif)), (55, (.string dt)), (56, (vP g56)), (57, (vB svt)), (62, (vI (numsP ls i))), (469, (vS A314 ls c314)), (470, (vI (ls.length : Int))), (471, (vI (i : Int)))] ∧ FS21 p0 p1 ga re1 nm ls g56 c349 c337 c327 c314 A349 A337 A327 A314 w0 w')) (Exit.inBlock 0 (Exit.then (fun a w => Code.wp Tryz.prog B36 (Exit.then (fun a w => Code.wp Tryz.prog B51 (Ql w0) a w) (Ql w0)) a w) (Exit.then (fun a w => Code.wp Tryz.prog B51 (Ql w0) a w) (Ql w0))))))) a w := by
  refine wp_seq ?_
  refine wp_seq ?_
  have hn_ := H.hnm rfl i hlt
  obtain ⟨ad, hA⟩ := P_some (hw.2.2.2.2.2.1) (i := i) (List.getElem?_eq_some_iff.1 hn_).1
  refine region_ (K := [(37, (vS A314 ls c314)), (42, (vS A327 ga c327)), (46, (vS A337 nm c337)), (50, (.string ds)), (51, (vS A349 re1 c349)), (52, (vB fif)), (55, (.string dt)), (56, (vP g56)), (57, (vB svt)), (62, (vI (numsP ls i))), (63, (vI (i : Int))), (64, (vP g64)), (469, (vS A314 ls c314)), (470, (vI (ls.length : Int))), (471, (vI (i : Int))), (507, (vB false))]) (obs := [lS 25 65 g65 ((ls.getD i z25).f0) ((ls.getD i z25).f1), lS 25 64 g64 ((ls.getD i z25).f0) ((ls.getD i z25).f1), .op (Op.binOp BinOp.neq 25 (tm 486) (tm 487) 25) 4 [((tm 486), (vA ((ls.getD i z25).f0) ((ls.getD i z25).f1))), ((tm 487), (vA ((ls.getD i z25).f0) ((ls.getD i z25).f1)))] (vB false), .op (Op.indexAddr 37 (tm 491) (tm 492)) 0 [((tm 491), (vS A337 nm c337)), ((tm 492), (vI (i : Int)))] (.pointer (some ((ad.add (i * 2))))), .op (Op.fieldAddr 25 (tm 493) 0) 0 [((tm 493), (.pointer (some ((ad.add (i * 2))))))] (.pointer (some ((ad.add (i * 2))))), .op (Op.load 3 (tm 494)) 3 [((tm 494), (.pointer (some ((ad.add (i * 2))))))] (vI (((i + 1 : Nat) : Int))), bO .add (tm 496) (Operand.const (Value.int IntKind.i64 1)) (i : Int) 1 (((i + 1 : Nat) : Int)), cI .neq 495 497 (((i + 1 : Nat) : Int)) (((i + 1 : Nat) : Int)) false, .op (Op.indexAddr 37 (tm 501) (tm 502)) 0 [((tm 501), (vS A337 nm c337)), ((tm 502), (vI (i : Int)))] (.pointer (some ((ad.add (i * 2))))), .op (Op.fieldAddr 25 (tm 503) 1) 0 [((tm 503), (.pointer (some ((ad.add (i * 2))))))] (.pointer (some (((ad.add (i * 2)).add 1)))), .op (Op.load 3 (tm 504)) 3 [((tm 504), (.pointer (some (((ad.add (i * 2)).add 1)))))] (vI 0), cK .neq 505 0 0 false]) (by kernel_rfl) mix rfl FS24.stays ⟨(ok_load25 (fun w hw => (hw.1))), (ok_load25 (fun w hw => (hw.2.1))), (ok_neq25 (by simp)), (ok_idxe37 hA rfl (List.getElem?_eq_some_iff.1 hn_).1), ok_fap25_0, (ok_load3p (fun w hw => (P_cells (hw.2.2.2.2.2.1) hA hn_).1)), (ok_add_int (wadd_ (by omega))), (ok_neq_int (bne_self_eq_false _)), (ok_idxe37 hA rfl (List.getElem?_eq_some_iff.1 hn_).1), ok_fap25_1, (ok_load3p (fun w hw => (P_cells (hw.2.2.2.2.2.1) hA hn_).2)), (ok_neq_int (bne_self_eq_false _)), trivial⟩ h hw ?_
  clear h hw
  intro a w h hw
  show Code.wp _ (Code.cond (tm 507) B25 Code.skip) _ _ _
  refine wp_cond_false (h.opd (by kernel_rfl)) ?_
  refine wp_skip ?_
  exact t27 hlt hmax_ (h.cut (by kernel_rfl)) hw.2
theorem t29 (H : Facts kk l0 l1 a0 a1 b0 b1 cn ok od one m0 m1 thr n0 n1 fv tx sv ba x1 y1 ls tt true ga nm ds re1 fif dt p0 p1 svt la la2 fa fa2) (hlt : i < ls.length) (hmax_ : ls.length ≤ 9223372036854775807) {a : Act} {w : World} (h : Has 567 a [(37, (vS A314 ls c314)), (42, (vS A327 ga c327)), (46, (vS A337 nm c337)), (50, (.string ds)), (51, (vS A349 re1 c349)), (52, (vB fif)), (55, (.string dt)), (56, (vP g56)), (57, (vB svt)), (62, (vI (numsP ls i))), (63, (vI (i : Int))), (64, (vP g64)), (469, (vS A314 ls c314)), (470, (vI (ls.length : Int))), (471, (vI (i : Int)))]) (hw : FS23 p0 p1 ga ls re1 nm g64 i g56 c349 c337 c327 c314 A349 A337 A327 A314 w0 w) : B29.wp Tryz.prog (Exit.inBlock 1 (Exit.then (fun a w => Code.wp Tryz.prog (Code.region 61 R61.toArray false) (Exit.then (fun a' w' => ∃ d', d' < ls.length - i ∧ (∃ i : Nat, i ≤ ls.length ∧ d' = ls.length - i ∧ Has 567 a' [(37, (vS A314 ls c314)), (42, (vS A327 ga c327)), (46, (vS A337 nm c337)), (50, (.string ds)), (51, (vS A349 re1 c349)), (52, (vB fif)), (55, (.string dt)), (56, (vP g56)), (57, (vB svt)), (62, (vI (numsP ls i))), (469, (vS A314 ls c314)), (470, (vI (ls.length : Int))), (471, (vI (i : Int)))] ∧ FS21 p0 p1 ga re1 nm ls g56 c349 c337 c327 c314 A349 A337 A327 A314 w0 w')) (Exit.inBlock 0 (Exit.then (fun a w => Code.wp Tryz.prog B36 (Exit.then (fun a w => Code.wp Tryz.prog B51 (Ql w0) a w) (Ql w0)) a w) (Exit.then (fun a w => Code.wp Tryz.prog B51 (Ql w0) a w) (Ql w0))))) a w) (Exit.then (fun a' w' => ∃ d', d' < ls.length - i ∧ (∃ i : Nat, i ≤ ls.length ∧ d' = ls.length - i ∧ Has 567 a' [(37, (vS A314 ls c314)), (42, (vS A327 ga c327)), (46, (vS A337 nm c337)), (50, (.string ds)), (51, (vS A349 re1 c349)), (52, (vB fif)), (55, (.string dt)), (56, (vP g56)), (57, (vB svt)), (62, (vI (numsP ls i))), (469, (vS A314 ls c314)), (470, (vI (ls.length : Int))), (471, (vI (i : Int)))] ∧ FS21 p0 p1 ga re1 nm ls g56 c349 c337 c327 c314 A349 A337 A327 A314 w0 w')) (Exit.inBlock 0 (Exit.then (fun a w => Code.wp Tryz.prog B36 (Exit.then (fun a w => Code.wp Tryz.prog B51 (Ql w0) a w) (Ql w0)) a w) (Exit.then (fun a w => Code.wp Tryz.prog B51 (Ql w0) a w) (Ql w0))))))) a w := by
  refine wp_seq ?_
  refine region_list ?_
  refine quiet_ 0 7 7 (K := [(37, (vS A314 ls c314)), (42, (vS A327 ga c327)), (46, (vS A337 nm c337)), (50, (.string ds)), (51, (vS A349 re1 c349)), (52, (vB fif)), (55, (.string dt)), (56, (vP g56)), (57, (vB svt)), (62, (vI (numsP ls i))), (63, (vI (i : Int))), (64, (vP g64)), (469, (vS A314 ls c314)), (470, (vI (ls.length : Int))), (471, (vI (i : Int))), (481, (vA ((ls.getD i z25).f0) ((ls.getD i z25).f1))), (482, (vB true))]) (obs := [bO .add (tm 478) (Operand.const (Value.int IntKind.i64 1)) (i : Int) 1 (((i + 1 : Nat) : Int)), .call 36 [(vS A314 ls c314), (vI (((i + 1 : Nat) : Int)))] (.tuple #[(vA ((ls.getD i z25).f0) ((ls.getD i z25).f1)), (vB true)])]) (by kernel_rfl) rfl ⟨(ok_add_int (wadd_ (by omega))), ⟨⟨_, Tryz.func36, by kernel_rfl, by kernel_rfl⟩, fun w hw => FS23.stays.calls hw (impl_OldPlate.calls _ _ _ _ _ _ _ _ _ (hw.2.2.2.2.2.2.2.2.1) (hw.2.2.2.2.2.2.2.2.2.1) (H.hold rfl i hlt))⟩, trivial⟩ h hw ?_
  clear h hw
  intro a w h hw
  replace hw : Pend (FS23 p0 p1 ga ls re1 nm g64 i g56 c349 c337 c327 c314 A349 A337 A327 A314 w0) [] w := Pend.start hw
  refine alloc25 (F := FS23 p0 p1 ga ls re1 nm g64 i g56 c349 c337 c327 c314 A349 A337 A327 A314 w0) (bs := []) 7 8 (d := 65) (by kernel_rfl) rfl h hw ?_
  clear h hw
  intro g65 a w h hw
  refine store25 (F := FS23 p0 p1 ga ls re1 nm g64 i g56 c349 c337 c327 c314 A349 A337 A327 A314 w0) (bs := [(g65, .cells #[(vI 0), (vI 0)] 25 (0, 0))]) 8 9 0 (g := g65) (y := ((ls.getD i z25).f0)) (z := ((ls.getD i z25).f1)) (u := 0) (v := 0) (by kernel_rfl) rfl rfl h hw ?_
  clear h hw
  intro a w h hw
  replace hw : Pend (FS23 p0 p1 ga ls re1 nm g64 i g56 c349 c337 c327 c314 A349 A337 A327 A314 w0) [(g65, .cells #[(vI ((ls.getD i z25).f0)), (vI ((ls.getD i z25).f1))] 25 (0, 0))] w := hw
  have hp_ := Pend.out FS23.stays hw
  replace hw : FS24 p0 p1 ga ls re1 nm g65 i g64 g56 c349 c337 c327 c314 A349 A337 A327 A314 w0 w := ⟨hp_.2 0 _ rfl, hp_.1⟩
  clear hp_
  exact quiet_ 9 1 10 (obs := []) (by kernel_rfl) rfl trivial h hw fun a w h hw => end_ (by kernel_rfl) (t28 H hlt hmax_ h hw)
theorem t30 (H : Facts kk l0 l1 a0 a1 b0 b1 cn ok od one m0 m1 thr n0 n1 fv tx sv ba x1 y1 ls tt true ga nm ds re1 fif dt p0 p1 svt la la2 fa fa2) (hlt : i < ls.length) (hmax_ : ls.length ≤ 9223372036854775807) {a : Act} {w : World} (h : Has 567 a [(37, (vS A314 ls c314)), (42, (vS A327 ga c327)), (46, (vS A337 nm c337)), (50, (.string ds)), (51, (vS A349 re1 c349)), (52, (vB fif)), (55, (.string dt)), (56, (vP g56)), (57, (vB svt)), (62, (vI (numsP ls i))), (469, (vS A314 ls c314)), (470, (vI (ls.length : Int))), (471, (vI (i : Int)))]) (hw : FS21 p0 p1 ga re1 nm ls g56 c349 c337 c327 c314 A349 A337 A327 A314 w0 w) : B30.wp Tryz.prog (Exit.inBlock 1 (Exit.then (fun a w => Code.wp Tryz.prog (Code.region 61 R61.toArray false) (Exit.then (fun a' w' => ∃ d', d' < ls.length - i ∧ (∃ i : Nat, i ≤ ls.length ∧ d' = ls.length - i ∧ Has 567 a' [(37, (vS A314 ls c314)), (42, (vS A327 ga c327)), (46, (vS A337 nm c337)), (50, (.string ds)), (51, (vS A349 re1 c349)), (52, (vB fif)), (55, (.string dt)), (56, (vP g56)), (57, (vB svt)), (62, (vI (numsP ls i))), (469, (vS A314 ls c314)), (470, (vI (ls.length : Int))), (471, (vI (i : Int)))] ∧ FS21 p0 p1 ga re1 nm ls g56 c349 c337 c327 c314 A349 A337 A327 A314 w0 w')) (Exit.inBlock 0 (Exit.then (fun a w => Code.wp Tryz.prog B36 (Exit.then (fun a w => Code.wp Tryz.prog B51 (Ql w0) a w) (Ql w0)) a w) (Exit.then (fun a w => Code.wp Tryz.prog B51 (Ql w0) a w) (Ql w0))))) a w) (Exit.then (fun a' w' => ∃ d', d' < ls.length - i ∧ (∃ i : Nat, i ≤ ls.length ∧ d' = ls.length - i ∧ Has 567 a' [(37, (vS A314 ls c314)), (42, (vS A327 ga c327)), (46, (vS A337 nm c337)), (50, (.string ds)), (51, (vS A349 re1 c349)), (52, (vB fif)), (55, (.string dt)), (56, (vP g56)), (57, (vB svt)), (62, (vI (numsP ls i))), (469, (vS A314 ls c314)), (470, (vI (ls.length : Int))), (471, (vI (i : Int)))] ∧ FS21 p0 p1 ga re1 nm ls g56 c349 c337 c327 c314 A349 A337 A327 A314 w0 w')) (Exit.inBlock 0 (Exit.then (fun a w => Code.wp Tryz.prog B36 (Exit.then (fun a w => Code.wp Tryz.prog B51 (Ql w0) a w) (Ql w0)) a w) (Exit.then (fun a w => Code.wp Tryz.prog B51 (Ql w0) a w) (Ql w0))))))) a w := by
  refine wp_seq ?_
  obtain ⟨ad, hA⟩ := P_some (hw.2.2.2.2.2.2.2.1) (i := i) hlt
  refine region_list ?_
  refine quiet_ 0 3 3 (K := [(37, (vS A314 ls c314)), (42, (vS A327 ga c327)), (46, (vS A337 nm c337)), (50, (.string ds)), (51, (vS A349 re1 c349)), (52, (vB fif)), (55, (.string dt)), (56, (vP g56)), (57, (vB svt)), (62, (vI (numsP ls i))), (469, (vS A314 ls c314)), (470, (vI (ls.length : Int))), (471, (vI (i : Int))), (473, (vI (i : Int))), (475, (vA ((ls.getD i z25).f0) ((ls.getD i z25).f1)))]) (obs := [.op (Op.indexAddr 37 (tm 469) (tm 471)) 0 [((tm 469), (vS A314 ls c314)), ((tm 471), (vI (i : Int)))] (.pointer (some ((ad.add (i * 2))))), .op (Op.load 25 (tm 474)) 25 [((tm 474), (.pointer (some ((ad.add (i * 2))))))] (vA ((ls.getD i z25).f0) ((ls.getD i z25).f1))]) (by kernel_rfl) rfl ⟨(ok_idxe37 hA rfl hlt), (ok_load25p (fun w hw => P_cells (hw.2.2.2.2.2.2.2.1) hA (getD_eta_ hlt))), trivial⟩ h hw ?_
  clear h hw
  intro a w h hw
  replace hw : Pend (FS21 p0 p1 ga re1 nm ls g56 c349 c337 c327 c314 A349 A337 A327 A314 w0) [] w := Pend.start hw
  refine alloc25 (F := FS21 p0 p1 ga re1 nm ls g56 c349 c337 c327 c314 A349 A337 A327 A314 w0) (bs := []) 3 4 (d := 64) (by kernel_rfl) rfl h hw ?_
  clear h hw
  intro g64 a w h hw
  refine quiet_ 4 1 5 (F := Pend (FS21 p0 p1 ga re1 nm ls g56 c349 c337 c327 c314 A349 A337 A327 A314 w0) [(g64, .cells #[(vI 0), (vI 0)] 25 (0, 0))]) (K := [(37, (vS A314 ls c314)), (42, (vS A327 ga c327)), (46, (vS A337 nm c337)), (50, (.string ds)), (51, (vS A349 re1 c349)), (52, (vB fif)), (55, (.string dt)), (56, (vP g56)), (57, (vB svt)), (62, (vI (numsP ls i))), (63, (vI (i : Int))), (64, (vP g64)), (469, (vS A314 ls c314)), (470, (vI (ls.length : Int))), (471, (vI (i : Int))), (475, (vA ((ls.getD i z25).f0) ((ls.getD i z25).f1)))]) (obs := []) (by kernel_rfl) rfl trivial h hw ?_
  clear h hw
  intro a w h hw
  refine store25 (F := FS21 p0 p1 ga re1 nm ls g56 c349 c337 c327 c314 A349 A337 A327 A314 w0) (bs := [(g64, .cells #[(vI 0), (vI 0)] 25 (0, 0))]) 5 6 0 (g := g64) (y := ((ls.getD i z25).f0)) (z := ((ls.getD i z25).f1)) (u := 0) (v := 0) (by kernel_rfl) rfl rfl h hw ?_
  clear h hw
  intro a w h hw
  replace hw : Pend (FS21 p0 p1 ga re1 nm ls g56 c349 c337 c327 c314 A349 A337 A327 A314 w0) [(g64, .cells #[(vI ((ls.getD i z25).f0)), (vI ((ls.getD i z25).f1))] 25 (0, 0))] w := hw
  have hp_ := Pend.out FS21.stays hw
  replace hw : FS23 p0 p1 ga ls re1 nm g64 i g56 c349 c337 c327 c314 A349 A337 A327 A314 w0 w := ⟨hp_.2 0 _ rfl, hp_.1⟩
  clear hp_
  refine end_ (by kernel_rfl) ?_
  exact t29 H hlt hmax_ (h.cut (by kernel_rfl)) hw
theorem t31 (H : Facts kk l0 l1 a0 a1 b0 b1 cn ok od one m0 m1 thr n0 n1 fv tx sv ba x1 y1 ls tt true ga nm ds re1 fif dt p0 p1 svt la la2 fa fa2) (hlt : i < ls.length) (hmax_ : ls.length ≤ 9223372036854775807) {a : Act} {w : World} (h : Has 567 a [(37, (vS A314 ls c314)), (42, (vS A327 ga c327)), (46, (vS A337 nm c337)), (50, (.string ds)), (51, (vS A349 re1 c349)), (52, (vB fif)), (55, (.string dt)), (56, (vP g56)), (57, (vB svt)), (62, (vI (numsP ls i))), (469, (vS A314 ls c314)), (470, (vI (ls.length : Int))), (471, (vI (i : Int)))]) (hw : FS21 p0 p1 ga re1 nm ls g56 c349 c337 c327 c314 A349 A337 A327 A314 w0 w) : B31.wp Tryz.prog (Exit.then (fun a' w' => ∃ d', d' < ls.length - i ∧ (∃ i : Nat, i ≤ ls.length ∧ d' = ls.length - i ∧ Has 567 a' [(37, (vS A314 ls c314)), (42, (vS A327 ga c327)), (46, (vS A337 nm c337)), (50, (.string ds)), (51, (vS A349 re1 c349)), (52, (vB fif)), (55, (.string dt)), (56, (vP g56)), (57, (vB svt)), (62, (vI (numsP ls i))), (469, (vS A314 ls c314)), (470, (vI (ls.length : Int))), (471, (vI (i : Int)))] ∧ FS21 p0 p1 ga re1 nm ls g56 c349 c337 c327 c314 A349 A337 A327 A314 w0 w')) (Exit.inBlock 0 (Exit.then (fun a w => Code.wp Tryz.prog B36 (Exit.then (fun a w => Code.wp Tryz.prog B51 (Ql w0) a w) (Ql w0)) a w) (Exit.then (fun a w => Code.wp Tryz.prog B51 (Ql w0) a w) (Ql w0))))) a w := by
  refine wp_seq ?_
  refine wp_block ?_
  exact t30 H hlt hmax_ h hw
theorem t32 (H : Facts kk l0 l1 a0 a1 b0 b1 cn ok od one m0 m1 thr n0 n1 fv tx sv ba x1 y1 ls tt true ga nm ds re1 fif dt p0 p1 svt la la2 fa fa2) (hlt : i < ls.length) (hmax_ : ls.length ≤ 9223372036854775807) {a : Act} {w : World} (h : Has 567 a [(37, (vS A314 ls c314)), (42, (vS A327 ga c327)), (46, (vS A337 nm c337)), (50, (.string ds)), (51, (vS A349 re1 c349)), (52, (vB fif)), (55, (.string dt)), (56, (vP g56)), (57, (vB svt)), (62, (vI (numsP ls i))), (469, (vS A314 ls c314)), (470, (vI (ls.length : Int))), (471, (vI (i : Int))), (472, (vB true))]) (hw : FS21 p0 p1 ga re1 nm ls g56 c349 c337 c327 c314 A349 A337 A327 A314 w0 w) : B32.wp Tryz.prog (Exit.then (fun a' w' => ∃ d', d' < ls.length - i ∧ (∃ i : Nat, i ≤ ls.length ∧ d' = ls.length - i ∧ Has 567 a' [(37, (vS A314 ls c314)), (42, (vS A327 ga c327)), (46, (vS A337 nm c337)), (50, (.string ds)), (51, (vS A349 re1 c349)), (52, (vB fif)), (55, (.string dt)), (56, (vP g56)), (57, (vB svt)), (62, (vI (numsP ls i))), (469, (vS A314 ls c314)), (470, (vI (ls.length : Int))), (471, (vI (i : Int)))] ∧ FS21 p0 p1 ga re1 nm ls g56 c349 c337 c327 c314 A349 A337 A327 A314 w0 w')) (Exit.inBlock 0 (Exit.then (fun a w => Code.wp Tryz.prog B36 (Exit.then (fun a w => Code.wp Tryz.prog B51 (Ql w0) a w) (Ql w0)) a w) (Exit.then (fun a w => Code.wp Tryz.prog B51 (Ql w0) a w) (Ql w0))))) a w := by
  refine wp_seq ?_
  refine wp_cond_true (h.opd (by kernel_rfl)) ?_
  refine wp_skip ?_
  exact t31 H hlt hmax_ (h.cut (by kernel_rfl)) hw
theorem t33 (H : Facts kk l0 l1 a0 a1 b0 b1 cn ok od one m0 m1 thr n0 n1 fv tx sv ba x1 y1 ls tt true ga nm ds re1 fif dt p0 p1 svt la la2 fa fa2) (hlt : i < ls.length) (hmax_ : ls.length ≤ 9223372036854775807) {a : Act} {w : World} (h : Has 567 a [(37, (vS A314 ls c314)), (42, (vS A327 ga c327)), (46, (vS A337 nm c337)), (50, (.string ds)), (51, (vS A349 re1 c349)), (52, (vB fif)), (55, (.string dt)), (56, (vP g56)), (57, (vB svt)), (62, (vI (numsP ls i))), (469, (vS A314 ls c314)), (470, (vI (ls.length : Int))), (471, (vI (i : Int)))]) (hw : FS21 p0 p1 ga re1 nm ls g56 c349 c337 c327 c314 A349 A337 A327 A314 w0 w) : B33.wp Tryz.prog (Exit.then (fun a' w' => ∃ d', d' < ls.length - i ∧ (∃ i : Nat, i ≤ ls.length ∧ d' = ls.length - i ∧ Has 567 a' [(37, (vS A314 ls c314)), (42, (vS A327 ga c327)), (46, (vS A337 nm c337)), (50, (.string ds)), (51, (vS A349 re1 c349)), (52, (vB fif)), (55, (.string dt)), (56, (vP g56)), (57, (vB svt)), (62, (vI (numsP ls i))), (469, (vS A314 ls c314)), (470, (vI (ls.length : Int))), (471, (vI (i : Int)))] ∧ FS21 p0 p1 ga re1 nm ls g56 c349 c337 c327 c314 A349 A337 A327 A314 w0 w')) (Exit.inBlock 0 (Exit.then (fun a w => Code.wp Tryz.prog B36 (Exit.then (fun a w => Code.wp Tryz.prog B51 (Ql w0) a w) (Ql w0)) a w) (Exit.then (fun a w => Code.wp Tryz.prog B51 (Ql w0) a w) (Ql w0))))) a w := by
  refine wp_seq ?_
  exact region_ (obs := [.op (Op.binOp BinOp.lss 3 (tm 471) (tm 470) 3) 0 [((tm 471), (vI (i : Int))), ((tm 470), (vI (ls.length : Int)))] (vB true)]) (by kernel_rfl) mix rfl FS21.stays ⟨(ok_lss_int (decide_eq_true (by omega))), trivial⟩ h hw fun a w h hw => t32 H hlt hmax_ h hw
theorem t36 (H : Facts kk l0 l1 a0 a1 b0 b1 cn ok od one m0 m1 thr n0 n1 fv tx sv ba x1 y1 ls tt true ga nm ds re1 fif dt p0 p1 svt la la2 fa fa2) {a : Act} {w : World} (h : Has 567 a [(37, (vS A314 ls c314)), (42, (vS A327 ga c327)), (50, (.string ds)), (51, (vS A349 re1 c349)), (52, (vB fif)), (55, (.string dt)), (56, (vP g56)), (57, (vB svt)), (62, (vI (numsP ls ls.length)))]) (hw : FS25 p0 p1 ga re1 ls g56 c349 c327 c314 A349 A327 A314 w0 w) : B36.wp Tryz.prog (Exit.then (fun a w => Code.wp Tryz.prog B51 (Ql w0) a w) (Ql w0)) a w := by
  refine wp_seq ?_
  obtain ⟨hp1, hp2, hp3, hp4, hp5⟩ := H.hend rfl
  obtain ⟨ad, hA⟩ := P_some (hw.2.2.2.2.2.1) (i := ls.length - 1) (by omega)
  refine region_ (K := [(50, (.string ds)), (51, (vS A349 re1 c349)), (52, (vB fif)), (55, (.string dt)), (56, (vP g56)), (57, (vB svt)), (541, (vB false))]) (obs := [lN 40 524 A327 ga c327, bO .add (tm 525) (tm 526) (ga.length : Int) (numsP ls ls.length) (wrap64 ((ga.length : Int) + (numsP ls ls.length))), lN 37 529 A314 ls c314, bO .sub (tm 530) (Operand.const (Value.int IntKind.i64 1)) (ls.length : Int) 1 (((ls.length - 1 : Nat) : Int)), .op (Op.indexAddr 37 (tm 528) (tm 531)) 0 [((tm 528), (vS A314 ls c314)), ((tm 531), (vI (((ls.length - 1 : Nat) : Int))))] (.pointer (some ((ad.add ((ls.length - 1) * 2))))), .op (Op.fieldAddr 25 (tm 532) 0) 0 [((tm 532), (.pointer (some ((ad.add ((ls.length - 1) * 2))))))] (.pointer (some ((ad.add ((ls.length - 1) * 2))))), .op (Op.load 3 (tm 533)) 3 [((tm 533), (.pointer (some ((ad.add ((ls.length - 1) * 2))))))] (vI la), .op (Op.indexAddr 37 (tm 535) (Operand.const (Value.int IntKind.i64 0))) 0 [((tm 535), (vS A314 ls c314)), ((Operand.const (Value.int IntKind.i64 0)), (vI 0))] (.pointer (some ((ad.add (0 * 2))))), .op (Op.fieldAddr 25 (tm 536) 0) 0 [((tm 536), (.pointer (some ((ad.add (0 * 2))))))] (.pointer (some ((ad.add (0 * 2))))), .op (Op.load 3 (tm 537)) 3 [((tm 537), (.pointer (some ((ad.add (0 * 2))))))] (vI fa), bO .sub (tm 534) (tm 538) la fa (wrap64 (la - fa)), bO .add (tm 539) (Operand.const (Value.int IntKind.i64 1)) (wrap64 (la - fa)) 1 (wrap64 ((wrap64 (la - fa)) + 1)), cI .neq 527 540 (wrap64 ((ga.length : Int) + (numsP ls ls.length))) (wrap64 ((wrap64 (la - fa)) + 1)) false]) (by kernel_rfl) mix lex62 FS25.stays ⟨(ok_len Tryz.underlying40), (ok_add_int rfl), (ok_len Tryz.underlying37), (ok_sub_int (wsub_ hp1 (by omega))), (ok_idxe37 hA rfl (by omega)), ok_fap25_0, (ok_load3p (fun w hw => (P_cells (hw.2.2.2.2.2.1) hA hp3).1)), (ok_idxe37 hA rfl (by omega)), ok_fap25_0, (ok_load3p (fun w hw => (P_cells (hw.2.2.2.2.2.1) hA hp4).1)), (ok_sub_int rfl), (ok_add_int rfl), (ok_neq_int (bne_eq_false_iff_eq.mpr hp5)), trivial⟩ h hw ?_
  clear h hw
  intro a w h hw
  show Code.wp _ (Code.cond (tm 541) B35 Code.skip) _ _ _
  refine wp_cond_false (h.opd (by kernel_rfl)) ?_
  refine wp_skip ?_
  exact t51 H (h.cut (by kernel_rfl)) (let ⟨p,q,r,_,_,_,_,s⟩ := hw; ⟨p,q,r,s⟩)
theorem t37 (H : Facts kk l0 l1 a0 a1 b0 b1 cn ok od one m0 m1 thr n0 n1 fv tx sv ba x1 y1 ls tt true ga nm ds re1 fif dt p0 p1 svt la la2 fa fa2) {a : Act} {w : World} (h : Has 567 a [(37, (vS A314 ls c314)), (42, (vS A327 ga c327)), (46, (vS A337 nm c337)), (50, (.string ds)), (51, (vS A349 re1 c349)), (52, (vB fif)), (55, (.string dt)), (56, (vP g56)), (57, (vB svt)), (62, (vI 0))]) (hw : FS21 p0 p1 ga re1 nm ls g56 c349 c337 c327 c314 A349 A337 A327 A314 w0 w) : B37.wp Tryz.prog (Exit.then (fun a w => Code.wp Tryz.prog B51 (Ql w0) a w) (Ql w0)) a w := by
  refine wp_seq ?_
  refine wp_seq ?_
  refine region_ (K := [(37, (vS A314 ls c314)), (42, (vS A327 ga c327)), (46, (vS A337 nm c337)), (50, (.string ds)), (51, (vS A349 re1 c349)), (52, (vB fif)), (55, (.string dt)), (56, (vP g56)), (57, (vB svt)), (62, (vI 0)), (469, (vS A314 ls c314)), (470, (vI (ls.length : Int))), (471, (vI 0))]) (obs := [lN 37 469 A314 ls c314]) (by kernel_rfl) mix rfl FS21.stays ⟨(ok_len Tryz.underlying37), trivial⟩ h hw ?_
  clear h hw
  intro a w h hw
  show Code.wp _ (Code.block 0 (Code.loop B33)) _ _ _
  refine wp_block ?_
  replace h : Has 567 a [(37, (vS A314 ls c314)), (42, (vS A327 ga c327)), (46, (vS A337 nm c337)), (50, (.string ds)), (51, (vS A349 re1 c349)), (52, (vB fif)), (55, (.string dt)), (56, (vP g56)), (57, (vB svt)), (62, (vI (numsP ls 0))), (469, (vS A314 ls c314)), (470, (vI (ls.length : Int))), (471, (vI (((0 : Nat) : Int))))] := h.cut (by kernel_rfl)
  replace hw : FS21 p0 p1 ga re1 nm ls g56 c349 c337 c327 c314 A349 A337 A327 A314 w0 w := ⟨hw.1, hw.2.1, hw.2.2.1, hw.2.2.2.1, hw.2.2.2.2.1, hw.2.2.2.2.2.1, hw.2.2.2.2.2.2.1, hw.2.2.2.2.2.2.2.1, hw.2.2.2.2.2.2.2.2.1, hw.2.2.2.2.2.2.2.2.2.1, hw.2.2.2.2.2.2.2.2.2.2⟩
  refine loop_nat (fun d a w => ∃ i : Nat, i ≤ ls.length ∧ d = ls.length - i ∧ Has 567 a [(37, (vS A314 ls c314)), (42, (vS A327 ga c327)), (46, (vS A337 nm c337)), (50, (.string ds)), (51, (vS A349 re1 c349)), (52, (vB fif)), (55, (.string dt)), (56, (vP g56)), (57, (vB svt)), (62, (vI (numsP ls i))), (469, (vS A314 ls c314)), (470, (vI (ls.length : Int))), (471, (vI (i : Int)))] ∧ FS21 p0 p1 ga re1 nm ls g56 c349 c337 c327 c314 A349 A337 A327 A314 w0 w) ?_ ls.length a w ⟨0, Nat.zero_le _, rfl, h, hw⟩
  clear h hw a w
  rintro d a w ⟨i, hi_, rfl, h, hw⟩
  by_cases hlt : i < ls.length
  · have hmax_ : ls.length ≤ 9223372036854775807 := Kd.C_max (hw.2.2.2.2.2.2.2.1)
    exact t33 H hlt hmax_ h hw
  · show Code.wp _ (Code.seq (Code.region 54 R54.toArray false) B32) _ _ _
    refine wp_seq ?_
    refine region_ (K := [(37, (vS A314 ls c314)), (42, (vS A327 ga c327)), (50, (.string ds)), (51, (vS A349 re1 c349)), (52, (vB fif)), (55, (.string dt)), (56, (vP g56)), (57, (vB svt)), (62, (vI (numsP ls i))), (472, (vB false))]) (obs := [.op (Op.binOp BinOp.lss 3 (tm 471) (tm 470) 3) 0 [((tm 471), (vI (i : Int))), ((tm 470), (vI (ls.length : Int)))] (vB false)]) (by kernel_rfl) mix rfl FS21.stays ⟨(ok_lss_int (decide_eq_false (by omega))), trivial⟩ h hw ?_
    clear h hw
    intro a w h hw
    refine wp_seq ?_
    refine wp_cond_false (h.opd (by kernel_rfl)) ?_
    refine wp_exit ?_
    show Exit.inBlock 0 (Exit.then (fun a w => Code.wp Tryz.prog B36 (Exit.then (fun a w => Code.wp Tryz.prog B51 (Ql w0) a w) (Ql w0)) a w) (Exit.then (fun a w => Code.wp Tryz.prog B51 (Ql w0) a w) (Ql w0))) (.exit 0) a w
    refine inBlock_exit ?_
    obtain rfl : i = ls.length := by omega
    exact t36 H (h.cut (by kernel_rfl)) (let ⟨p,q,r,_,_,s⟩ := hw; ⟨p,q,r,s⟩)
theorem t38 (H : Facts kk l0 l1 a0 a1 b0 b1 cn ok od one m0 m1 thr n0 n1 fv tx sv ba x1 y1 ls tt true ga nm ds re1 fif dt p0 p1 svt la la2 fa fa2) {a : Act} {w : World} (h : Has 567 a [(37, (vS A314 ls c314)), (42, (vS A327 ga c327)), (46, (vS A337 nm c337)), (50, (.string ds)), (51, (vS A349 re1 c349)), (52, (vB fif)), (55, (.string dt)), (56, (vP g56)), (57, (vB svt))]) (hw : FS21 p0 p1 ga re1 nm ls g56 c349 c337 c327 c314 A349 A337 A327 A314 w0 w) : B38.wp Tryz.prog (Exit.then (fun a w => Code.wp Tryz.prog B51 (Ql w0) a w) (Ql w0)) a w := by
  refine wp_seq ?_
  exact region_ (obs := []) (by kernel_rfl) mix rfl FS21.stays trivial h hw fun a w h hw => t37 H h hw
theorem t39 (H : Facts kk l0 l1 a0 a1 b0 b1 cn ok od one m0 m1 thr n0 n1 fv tx sv ba x1 y1 ls tt true ga nm ds re1 fif dt p0 p1 svt la la2 fa fa2) {a : Act} {w : World} (h : Has 567 a [(37, (vS A314 ls c314)), (42, (vS A327 ga c327)), (46, (vS A337 nm c337)), (50, (.string ds)), (51, (vS A349 re1 c349)), (52, (vB fif)), (55, (.string dt)), (56, (vP g56)), (57, (vB svt)), (60, (vS A446 ls c446)), (61, (vB true))]) (hw : FS22 p0 p1 ga ls re1 nm c446 g56 c349 c337 c327 c314 A446 A349 A337 A327 A314 w0 w) : B39.wp Tryz.prog (Exit.then (fun a w => Code.wp Tryz.prog B51 (Ql w0) a w) (Ql w0)) a w := by
  refine wp_seq ?_
  refine wp_seq ?_
  refine region_ (K := [(37, (vS A314 ls c314)), (42, (vS A327 ga c327)), (46, (vS A337 nm c337)), (50, (.string ds)), (51, (vS A349 re1 c349)), (52, (vB fif)), (55, (.string dt)), (56, (vP g56)), (57, (vB svt)), (468, (vB false))]) (obs := [.call 32 [(vS A446 ls c446), (vS A314 ls c314)] (vB true), .call 35 [(vS A327 ga c327)] (vB true), lN 37 463 A337 nm c337, lN 37 465 A314 ls c314, cI .neq 464 466 (nm.length : Int) (ls.length : Int) false]) (by kernel_rfl) mix rfl FS22.stays ⟨⟨⟨_, Tryz.func32, by kernel_rfl, by kernel_rfl⟩, fun w hw => FS22.stays.callsD hw (laws_aPlates.calls _ _ _ _ _ _ _ _ _ (hw.1) (hw.2.1) (hw.2.2.2.2.2.2.2.2.2.1) (hw.2.2.2.2.2.2.2.2.2.2.1) (H.f50_5 rfl))⟩, ⟨⟨_, Tryz.func35, by kernel_rfl, by kernel_rfl⟩, fun w hw => FS22.stays.callsD hw (laws_aRises.calls _ _ _ _ _ _ (hw.2.2.2.2.2.2.2.1) (hw.2.2.2.2.2.2.2.2.1) (H.f50_10 rfl))⟩, (ok_len Tryz.underlying37), (ok_len Tryz.underlying37), (ok_neq_int (bne_eq_false_iff_eq.mpr (H.hlen rfl))), trivial⟩ h hw ?_
  clear h hw
  intro a w h hw
  show Code.wp _ (Code.cond (tm 468) B23 Code.skip) _ _ _
  refine wp_cond_false (h.opd (by kernel_rfl)) ?_
  refine wp_skip ?_
  exact t38 H (h.cut (by kernel_rfl)) hw.2.2
theorem t40 (H : Facts kk l0 l1 a0 a1 b0 b1 cn ok od one m0 m1 thr n0 n1 fv tx sv ba x1 y1 ls tt true ga nm ds re1 fif dt p0 p1 svt la la2 fa fa2) {a : Act} {w : World} (h : Has 567 a [(37, (vS A314 ls c314)), (38, (.string tt)), (42, (vS A327 ga c327)), (46, (vS A337 nm c337)), (50, (.string ds)), (51, (vS A349 re1 c349)), (52, (vB fif)), (55, (.string dt)), (56, (vP g56)), (57, (vB svt))]) (hw : FS21 p0 p1 ga re1 nm ls g56 c349 c337 c327 c314 A349 A337 A327 A314 w0 w) : B40.wp Tryz.prog (Exit.then (fun a w => Code.wp Tryz.prog B51 (Ql w0) a w) (Ql w0)) a w := by
  refine wp_seq ?_
  refine region_list ?_
  refine quiet_ 0 1 1 (K := [(37, (vS A314 ls c314)), (42, (vS A327 ga c327)), (46, (vS A337 nm c337)), (50, (.string ds)), (51, (vS A349 re1 c349)), (52, (vB fif)), (55, (.string dt)), (56, (vP g56)), (57, (vB svt)), (445, (.string tt))]) (obs := []) (by kernel_rfl) rfl trivial h hw ?_
  clear h hw
  intro a w h hw
  refine made_ (σ := Option Addr × Nat) (F := FS21 p0 p1 ga re1 nm ls g56 c349 c337 c327 c314 A349 A337 A327 A314 w0) 1 2 (f := 27) (d := 446) (vs := [(.string tt)]) (by kernel_rfl) rfl h hw Tryz.func27 (by kernel_rfl) (by kernel_rfl) (fun s => (.tuple #[(.slice s.1 ls.length s.2), (vB true)])) (fun s w => FS22 p0 p1 ga ls re1 nm s.2 g56 c349 c337 c327 c314 s.1 A349 A337 A327 A314 w0 w) ?_ ?_
  · intro w hw
    refine (impl_ParsePlates.calls _ _ _ _ _ (H.f49_1 rfl) (hw.2.2.2.2.2.2.2.2.2.2)).mono ?_
    rintro e w' ⟨v0_, he, hR0, hb⟩
    obtain ⟨A0_, c0_, rfl, hc0_, hC0_⟩ := Kd.R_reads hR0
    have hw' := FS21.stays w w' hw hb
    exact ⟨(A0_, c0_), he, ⟨hC0_, hc0_, hw'⟩⟩
  clear h hw
  rintro ⟨A446, c446⟩ a w h hw
  exact quiet_ 2 5 7 (obs := []) (by kernel_rfl) rfl trivial h hw fun a w h hw => end_ (by kernel_rfl) (t39 H h hw)
theorem t52 (H : Facts kk l0 l1 a0 a1 b0 b1 cn ok od one m0 m1 thr n0 n1 fv tx sv ba x1 y1 ls tt nin ga nm ds re1 fif dt p0 p1 svt la la2 fa fa2) {a : Act} {w : World} (h : Has 567 a [(37, (vS A314 ls c314)), (38, (.string tt)), (39, (vB nin)), (42, (vS A327 ga c327)), (46, (vS A337 nm c337)), (50, (.string ds)), (51, (vS A349 re1 c349)), (52, (vB fif)), (55, (.string dt)), (56, (vP g56)), (57, (vB svt))]) (hw : FS21 p0 p1 ga re1 nm ls g56 c349 c337 c327 c314 A349 A337 A327 A314 w0 w) : B52.wp Tryz.prog (Ql w0) a w := by
  refine wp_seq ?_
  refine wp_seq ?_
  refine region_ (K := [(37, (vS A314 ls c314)), (38, (.string tt)), (42, (vS A327 ga c327)), (46, (vS A337 nm c337)), (50, (.string ds)), (51, (vS A349 re1 c349)), (52, (vB fif)), (55, (.string dt)), (56, (vP g56)), (57, (vB svt)), (443, (vB nin))]) (obs := []) (by kernel_rfl) mix rfl FS21.stays trivial h hw ?_
  clear h hw
  intro a w h hw
  show Code.wp _ (Code.cond (tm 443) B40 Code.skip) _ _ _
  cases nin with
  | true =>
    refine wp_cond_true (h.opd (by kernel_rfl)) ?_
    exact t40 H (h.cut (by kernel_rfl)) hw
  | false =>
    refine wp_cond_false (h.opd (by kernel_rfl)) ?_
    refine wp_skip ?_
    exact t51 H (h.cut (by kernel_rfl)) (let ⟨p,q,r,_,_,_,_,_,_,s⟩ := hw; ⟨p,q,r,s⟩)
theorem t53 (H : Facts kk l0 l1 a0 a1 b0 b1 cn ok od one m0 m1 thr n0 n1 fv tx sv ba x1 y1 ls tt nin ga nm ds re1 fif dt p0 p1 svt la la2 fa fa2) {a : Act} {w : World} (h : Has 567 a [(37, (vS A314 ls c314)), (38, (.string tt)), (39, (vB nin)), (40, (.string tt)), (41, (vB nin)), (42, (vS A327 ga c327)), (43, (vB nin)), (44, (vS A332 ga c332)), (45, (vB nin)), (46, (vS A337 nm c337)), (47, (vB nin)), (48, (vS A342 nm c342)), (49, (vB nin)), (50, (.string ds)), (51, (vS A349 re1 c349)), (52, (vB fif)), (53, (vS A354 re1 c354)), (54, (vB fif)), (55, (.string dt)), (56, (vP g56)), (57, (vB svt)), (58, (vP g58)), (59, (vB svt))]) (hw : FS17 p0 p1 ga re1 nm ls g58 g56 c354 c349 c342 c337 c332 c327 c314 A354 A349 A342 A337 A332 A327 A314 w0 w) : B53.wp Tryz.prog (Ql w0) a w := by
  refine wp_seq ?_
  refine wp_seq ?_
  refine region_ (K := [(37, (vS A314 ls c314)), (38, (.string tt)), (39, (vB nin)), (42, (vS A327 ga c327)), (46, (vS A337 nm c337)), (50, (.string ds)), (51, (vS A349 re1 c349)), (52, (vB fif)), (55, (.string dt)), (56, (vP g56)), (57, (vB svt)), (442, (vB false))]) (obs := [cB .neq 369 370 nin nin false, .op (Op.binOp BinOp.neq 9 (tm 373) (tm 374) 9) 4 [((tm 373), (.string tt)), ((tm 374), (.string tt))] (vB false), cB .neq 378 379 nin nin false, .call 31 [(vS A327 ga c327), (vS A332 ga c332)] (vB true), cB .neq 389 390 nin nin false, .call 32 [(vS A337 nm c337), (vS A342 nm c342)] (vB true), cB .neq 400 401 fif fif false, .call 32 [(vS A349 re1 c349), (vS A354 re1 c354)] (vB true), cB .neq 411 412 svt svt false, lS 25 56 g56 p0 p1, lS 25 58 g58 p0 p1, .op (Op.binOp BinOp.neq 25 (tm 416) (tm 417) 25) 4 [((tm 416), (vA p0 p1)), ((tm 417), (vA p0 p1))] (vB false), .call 33 [(vS A314 ls c314)] (vB nin), cB .neq 421 423 nin nin false, .call 33 [(vS A314 ls c314)] (vB nin), .call 34 [(vS A314 ls c314)] (vB nin), cB .neq 428 430 nin nin false, cB .neq 434 435 nin nin false, cB .neq 439 440 nin nin false]) (by kernel_rfl) mix rfl FS17.stays ⟨(ok_neq_bool Tryz.underlying4 (bne_self_eq_false _)), (ok_neq_str (by simp)), (ok_neq_bool Tryz.underlying4 (bne_self_eq_false _)), ⟨⟨_, Tryz.func31, by kernel_rfl, by kernel_rfl⟩, fun w hw => FS17.stays.callsD hw (laws_aSame.calls _ _ _ _ _ _ _ _ _ (hw.2.2.2.2.2.2.2.2.2.2.2.2.1) (hw.2.2.2.2.2.2.2.2.2.2.2.2.2.1) (hw.2.2.2.2.2.2.2.2.2.2.1) (hw.2.2.2.2.2.2.2.2.2.2.2.1) (H.f46_16))⟩, (ok_neq_bool Tryz.underlying4 (bne_self_eq_false _)), ⟨⟨_, Tryz.func32, by kernel_rfl, by kernel_rfl⟩, fun w hw => FS17.stays.callsD hw (laws_aPlates.calls _ _ _ _ _ _ _ _ _ (hw.2.2.2.2.2.2.2.2.1) (hw.2.2.2.2.2.2.2.2.2.1) (hw.2.2.2.2.2.2.1) (hw.2.2.2.2.2.2.2.1) (H.f46_27))⟩, (ok_neq_bool Tryz.underlying4 (bne_self_eq_false _)), ⟨⟨_, Tryz.func32, by kernel_rfl, by kernel_rfl⟩, fun w hw => FS17.stays.callsD hw (laws_aPlates.calls _ _ _ _ _ _ _ _ _ (hw.2.2.2.2.1) (hw.2.2.2.2.2.1) (hw.2.2.1) (hw.2.2.2.1) (H.f46_38))⟩, (ok_neq_bool Tryz.underlying4 (bne_self_eq_false _)), (ok_load25 (fun w hw => (hw.2.1))), (ok_load25 (fun w hw => (hw.1))), (ok_neq25 (by simp)), ⟨⟨_, Tryz.func33, by kernel_rfl, by kernel_rfl⟩, fun w hw => FS17.stays.calls hw (impl_ArePlates.calls _ _ _ _ _ _ (hw.2.2.2.2.2.2.2.2.2.2.2.2.2.2.1) (hw.2.2.2.2.2.2.2.2.2.2.2.2.2.2.2.1) (H.f46_54))⟩, (ok_neq_bool Tryz.underlying4 (bne_self_eq_false _)), ⟨⟨_, Tryz.func33, by kernel_rfl, by kernel_rfl⟩, fun w hw => FS17.stays.calls hw (impl_ArePlates.calls _ _ _ _ _ _ (hw.2.2.2.2.2.2.2.2.2.2.2.2.2.2.1) (hw.2.2.2.2.2.2.2.2.2.2.2.2.2.2.2.1) (H.f46_59))⟩, ⟨⟨_, Tryz.func34, by kernel_rfl, by kernel_rfl⟩, fun w hw => FS17.stays.calls hw (spec_ArePlates.calls _ _ _ _ _ _ (hw.2.2.2.2.2.2.2.2.2.2.2.2.2.2.1) (hw.2.2.2.2.2.2.2.2.2.2.2.2.2.2.2.1) (H.f46_61))⟩, (ok_neq_bool Tryz.underlying4 (bne_self_eq_false _)), (ok_neq_bool Tryz.underlying4 (bne_self_eq_false _)), (ok_neq_bool Tryz.underlying4 (bne_self_eq_false _)), trivial⟩ h hw ?_
  clear h hw
  intro a w h hw
  show Code.wp _ (Code.cond (tm 442) B21 Code.skip) _ _ _
  refine wp_cond_false (h.opd (by kernel_rfl)) ?_
  refine wp_skip ?_
  exact t52 H (h.cut (by kernel_rfl)) (let ⟨_,p,_,_,q,r,_,_,s,t,_,_,u⟩ := hw; ⟨p,q,r,s,t,u⟩)
theorem t54 (H : Facts kk l0 l1 a0 a1 b0 b1 cn ok od one m0 m1 thr n0 n1 fv tx sv ba x1 y1 ls tt nin ga nm ds re1 fif dt p0 p1 svt la la2 fa fa2) {a : Act} {w : World} (h : Has 567 a [(37, (vS A314 ls c314)), (38, (.string tt)), (39, (vB nin)), (40, (.string tt)), (41, (vB nin)), (42, (vS A327 ga c327)), (43, (vB nin)), (44, (vS A332 ga c332)), (45, (vB nin)), (46, (vS A337 nm c337)), (47, (vB nin)), (48, (vS A342 nm c342)), (49, (vB nin)), (50, (.string ds)), (51, (vS A349 re1 c349)), (52, (vB fif)), (53, (vS A354 re1 c354)), (54, (vB fif)), (55, (.string dt)), (56, (vP g56)), (57, (vB svt))]) (hw : FS16 p0 p1 ga re1 nm ls g56 c354 c349 c342 c337 c332 c327 c314 A354 A349 A342 A337 A332 A327 A314 w0 w) : B54.wp Tryz.prog (Ql w0) a w := by
  refine wp_seq ?_
  refine region_list ?_
  refine quiet_ 0 5 5 (K := [(37, (vS A314 ls c314)), (38, (.string tt)), (39, (vB nin)), (40, (.string tt)), (41, (vB nin)), (42, (vS A327 ga c327)), (43, (vB nin)), (44, (vS A332 ga c332)), (45, (vB nin)), (46, (vS A337 nm c337)), (47, (vB nin)), (48, (vS A342 nm c342)), (49, (vB nin)), (50, (.string ds)), (51, (vS A349 re1 c349)), (52, (vB fif)), (53, (vS A354 re1 c354)), (54, (vB fif)), (55, (.string dt)), (56, (vP g56)), (57, (vB svt)), (367, (vA p0 p1)), (368, (vB svt))]) (obs := [.call 30 [(.string dt)] (.tuple #[(vA p0 p1), (vB svt)])]) (by kernel_rfl) rfl ⟨⟨⟨_, Tryz.func30, by kernel_rfl, by kernel_rfl⟩, fun w hw => FS16.stays.calls hw (spec_ParsePlate.calls _ _ _ _ _ _ (H.f45_1))⟩, trivial⟩ h hw ?_
  clear h hw
  intro a w h hw
  replace hw : Pend (FS16 p0 p1 ga re1 nm ls g56 c354 c349 c342 c337 c332 c327 c314 A354 A349 A342 A337 A332 A327 A314 w0) [] w := Pend.start hw
  refine alloc25 (F := FS16 p0 p1 ga re1 nm ls g56 c354 c349 c342 c337 c332 c327 c314 A354 A349 A342 A337 A332 A327 A314 w0) (bs := []) 5 6 (d := 58) (by kernel_rfl) rfl h hw ?_
  clear h hw
  intro g58 a w h hw
  refine store25 (F := FS16 p0 p1 ga re1 nm ls g56 c354 c349 c342 c337 c332 c327 c314 A354 A349 A342 A337 A332 A327 A314 w0) (bs := [(g58, .cells #[(vI 0), (vI 0)] 25 (0, 0))]) 6 7 0 (g := g58) (y := p0) (z := p1) (u := 0) (v := 0) (by kernel_rfl) rfl rfl h hw ?_
  clear h hw
  intro a w h hw
  replace hw : Pend (FS16 p0 p1 ga re1 nm ls g56 c354 c349 c342 c337 c332 c327 c314 A354 A349 A342 A337 A332 A327 A314 w0) [(g58, .cells #[(vI p0), (vI p1)] 25 (0, 0))] w := hw
  have hp_ := Pend.out FS16.stays hw
  replace hw : FS17 p0 p1 ga re1 nm ls g58 g56 c354 c349 c342 c337 c332 c327 c314 A354 A349 A342 A337 A332 A327 A314 w0 w := ⟨hp_.2 0 _ rfl, hp_.1⟩
  clear hp_
  exact quiet_ 7 1 8 (obs := []) (by kernel_rfl) rfl trivial h hw fun a w h hw => end_ (by kernel_rfl) (t53 H h hw)
theorem t55 (H : Facts kk l0 l1 a0 a1 b0 b1 cn ok od one m0 m1 thr n0 n1 fv tx sv ba x1 y1 ls tt nin ga nm ds re1 fif dt p0 p1 svt la la2 fa fa2) {a : Act} {w : World} (h : Has 567 a [(37, (vS A314 ls c314)), (38, (.string tt)), (39, (vB nin)), (40, (.string tt)), (41, (vB nin)), (42, (vS A327 ga c327)), (43, (vB nin)), (44, (vS A332 ga c332)), (45, (vB nin)), (46, (vS A337 nm c337)), (47, (vB nin)), (48, (vS A342 nm c342)), (49, (vB nin)), (50, (.string ds)), (51, (vS A349 re1 c349)), (52, (vB fif)), (53, (vS A354 re1 c354)), (54, (vB fif)), (55, (.string dt))]) (hw : FS15 ga re1 nm ls c354 c349 c342 c337 c332 c327 c314 A354 A349 A342 A337 A332 A327 A314 w0 w) : B55.wp Tryz.prog (Ql w0) a w := by
  refine wp_seq ?_
  refine region_list ?_
  refine quiet_ 0 5 5 (K := [(37, (vS A314 ls c314)), (38, (.string tt)), (39, (vB nin)), (40, (.string tt)), (41, (vB nin)), (42, (vS A327 ga c327)), (43, (vB nin)), (44, (vS A332 ga c332)), (45, (vB nin)), (46, (vS A337 nm c337)), (47, (vB nin)), (48, (vS A342 nm c342)), (49, (vB nin)), (50, (.string ds)), (51, (vS A349 re1 c349)), (52, (vB fif)), (53, (vS A354 re1 c354)), (54, (vB fif)), (55, (.string dt)), (362, (vA p0 p1)), (363, (vB svt))]) (obs := [.call 18 [(.string dt)] (.tuple #[(vA p0 p1), (vB svt)])]) (by kernel_rfl) rfl ⟨⟨⟨_, Tryz.func18, by kernel_rfl, by kernel_rfl⟩, fun w hw => FS15.stays.calls hw (impl_ParsePlate.calls _ _ _ _ _ _ (H.f44_1) (hw.2.2.2.2.2.2.2.2.2.2.2.2.2.2.2))⟩, trivial⟩ h hw ?_
  clear h hw
  intro a w h hw
  replace hw : Pend (FS15 ga re1 nm ls c354 c349 c342 c337 c332 c327 c314 A354 A349 A342 A337 A332 A327 A314 w0) [] w := Pend.start hw
  refine alloc25 (F := FS15 ga re1 nm ls c354 c349 c342 c337 c332 c327 c314 A354 A349 A342 A337 A332 A327 A314 w0) (bs := []) 5 6 (d := 56) (by kernel_rfl) rfl h hw ?_
  clear h hw
  intro g56 a w h hw
  refine store25 (F := FS15 ga re1 nm ls c354 c349 c342 c337 c332 c327 c314 A354 A349 A342 A337 A332 A327 A314 w0) (bs := [(g56, .cells #[(vI 0), (vI 0)] 25 (0, 0))]) 6 7 0 (g := g56) (y := p0) (z := p1) (u := 0) (v := 0) (by kernel_rfl) rfl rfl h hw ?_
  clear h hw
  intro a w h hw
  replace hw : Pend (FS15 ga re1 nm ls c354 c349 c342 c337 c332 c327 c314 A354 A349 A342 A337 A332 A327 A314 w0) [(g56, .cells #[(vI p0), (vI p1)] 25 (0, 0))] w := hw
  have hp_ := Pend.out FS15.stays hw
  replace hw : FS16 p0 p1 ga re1 nm ls g56 c354 c349 c342 c337 c332 c327 c314 A354 A349 A342 A337 A332 A327 A314 w0 w := ⟨hp_.2 0 _ rfl, hp_.1⟩
  clear hp_
  exact quiet_ 7 1 8 (obs := []) (by kernel_rfl) rfl trivial h hw fun a w h hw => end_ (by kernel_rfl) (t54 H h hw)
theorem t56 (H : Facts kk l0 l1 a0 a1 b0 b1 cn ok od one m0 m1 thr n0 n1 fv tx sv ba x1 y1 ls tt nin ga nm ds re1 fif dt p0 p1 svt la la2 fa fa2) {a : Act} {w : World} (h : Has 567 a [(1, (vS A1 l1 c1)), (37, (vS A314 ls c314)), (38, (.string tt)), (39, (vB nin)), (40, (.string tt)), (41, (vB nin)), (42, (vS A327 ga c327)), (43, (vB nin)), (44, (vS A332 ga c332)), (45, (vB nin)), (46, (vS A337 nm c337)), (47, (vB nin)), (48, (vS A342 nm c342)), (49, (vB nin)), (50, (.string ds)), (51, (vS A349 re1 c349)), (52, (vB fif)), (53, (vS A354 re1 c354)), (54, (vB fif))]) (hw : FS14 ga l1 re1 nm ls c354 c349 c342 c337 c332 c327 c314 c1 A354 A349 A342 A337 A332 A327 A314 A1 w0 w) : B56.wp Tryz.prog (Ql w0) a w := by
  refine wp_seq ?_
  exact region_ (obs := [.call 29 [(vS A1 l1 c1)] (.string dt)]) (by kernel_rfl) mix rfl FS14.stays ⟨⟨⟨_, Tryz.func29, by kernel_rfl, by kernel_rfl⟩, fun w hw => FS14.stays.calls hw (spec_DrawParsePlate.calls _ _ _ _ _ _ (hw.2.2.2.2.2.2.2.2.2.2.2.2.2.2.2.2.1) (hw.2.2.2.2.2.2.2.2.2.2.2.2.2.2.2.2.2) (H.f43_1))⟩, trivial⟩ h hw fun a w h hw => t55 H h (let ⟨p,q,r,s,t,u,v,x,y,z,b,c,d,e,f,g,_⟩ := hw; ⟨p,q,r,s,t,u,v,x,y,z,b,c,d,e,f,g⟩)
theorem t57 (H : Facts kk l0 l1 a0 a1 b0 b1 cn ok od one m0 m1 thr n0 n1 fv tx sv ba x1 y1 ls tt nin ga nm ds re1 fif dt p0 p1 svt la la2 fa fa2) {a : Act} {w : World} (h : Has 567 a [(1, (vS A1 l1 c1)), (37, (vS A314 ls c314)), (38, (.string tt)), (39, (vB nin)), (40, (.string tt)), (41, (vB nin)), (42, (vS A327 ga c327)), (43, (vB nin)), (44, (vS A332 ga c332)), (45, (vB nin)), (46, (vS A337 nm c337)), (47, (vB nin)), (48, (vS A342 nm c342)), (49, (vB nin)), (50, (.string ds)), (51, (vS A349 re1 c349)), (52, (vB fif))]) (hw : FS13 ga l1 re1 nm ls c349 c342 c337 c332 c327 c314 c1 A349 A342 A337 A332 A327 A314 A1 w0 w) : B57.wp Tryz.prog (Ql w0) a w := by
  refine wp_seq ?_
  refine region_list ?_
  refine quiet_ 0 1 1 (K := [(1, (vS A1 l1 c1)), (37, (vS A314 ls c314)), (38, (.string tt)), (39, (vB nin)), (40, (.string tt)), (41, (vB nin)), (42, (vS A327 ga c327)), (43, (vB nin)), (44, (vS A332 ga c332)), (45, (vB nin)), (46, (vS A337 nm c337)), (47, (vB nin)), (48, (vS A342 nm c342)), (49, (vB nin)), (50, (.string ds)), (51, (vS A349 re1 c349)), (52, (vB fif)), (353, (.string ds))]) (obs := []) (by kernel_rfl) rfl trivial h hw ?_
  clear h hw
  intro a w h hw
  refine made_ (σ := Option Addr × Nat) (F := FS13 ga l1 re1 nm ls c349 c342 c337 c332 c327 c314 c1 A349 A342 A337 A332 A327 A314 A1 w0) 1 2 (f := 28) (d := 354) (vs := [(.string ds)]) (by kernel_rfl) rfl h hw Tryz.func28 (by kernel_rfl) (by kernel_rfl) (fun s => (.tuple #[(.slice s.1 re1.length s.2), (vB fif)])) (fun s w => FS14 ga l1 re1 nm ls s.2 c349 c342 c337 c332 c327 c314 c1 s.1 A349 A342 A337 A332 A327 A314 A1 w0 w) ?_ ?_
  · intro w hw
    refine (spec_ParsePlates.calls _ _ _ _ _ (H.f42_1)).mono ?_
    rintro e w' ⟨v0_, he, hR0, hb⟩
    obtain ⟨A0_, c0_, rfl, hc0_, hC0_⟩ := Kd.R_reads hR0
    have hw' := FS13.stays w w' hw hb
    exact ⟨(A0_, c0_), he, ⟨hC0_, hc0_, hw'⟩⟩
  clear h hw
  rintro ⟨A354, c354⟩ a w h hw
  exact quiet_ 2 5 7 (obs := []) (by kernel_rfl) rfl trivial h hw fun a w h hw => end_ (by kernel_rfl) (t56 H h hw)
theorem t58 (H : Facts kk l0 l1 a0 a1 b0 b1 cn ok od one m0 m1 thr n0 n1 fv tx sv ba x1 y1 ls tt nin ga nm ds re1 fif dt p0 p1 svt la la2 fa fa2) {a : Act} {w : World} (h : Has 567 a [(1, (vS A1 l1 c1)), (37, (vS A314 ls c314)), (38, (.string tt)), (39, (vB nin)), (40, (.string tt)), (41, (vB nin)), (42, (vS A327 ga c327)), (43, (vB nin)), (44, (vS A332 ga c332)), (45, (vB nin)), (46, (vS A337 nm c337)), (47, (vB nin)), (48, (vS A342 nm c342)), (49, (vB nin)), (50, (.string ds))]) (hw : FS12 ga l1 nm ls c342 c337 c332 c327 c314 c1 A342 A337 A332 A327 A314 A1 w0 w) : B58.wp Tryz.prog (Ql w0) a w := by
  refine wp_seq ?_
  refine region_list ?_
  refine quiet_ 0 1 1 (K := [(1, (vS A1 l1 c1)), (37, (vS A314 ls c314)), (38, (.string tt)), (39, (vB nin)), (40, (.string tt)), (41, (vB nin)), (42, (vS A327 ga c327)), (43, (vB nin)), (44, (vS A332 ga c332)), (45, (vB nin)), (46, (vS A337 nm c337)), (47, (vB nin)), (48, (vS A342 nm c342)), (49, (vB nin)), (50, (.string ds)), (348, (.string ds))]) (obs := []) (by kernel_rfl) rfl trivial h hw ?_
  clear h hw
  intro a w h hw
  refine made_ (σ := Option Addr × Nat) (F := FS12 ga l1 nm ls c342 c337 c332 c327 c314 c1 A342 A337 A332 A327 A314 A1 w0) 1 2 (f := 27) (d := 349) (vs := [(.string ds)]) (by kernel_rfl) rfl h hw Tryz.func27 (by kernel_rfl) (by kernel_rfl) (fun s => (.tuple #[(.slice s.1 re1.length s.2), (vB fif)])) (fun s w => FS13 ga l1 re1 nm ls s.2 c342 c337 c332 c327 c314 c1 s.1 A342 A337 A332 A327 A314 A1 w0 w) ?_ ?_
  · intro w hw
    refine (impl_ParsePlates.calls _ _ _ _ _ (H.f41_1) (hw.2.2.2.2.2.2.2.2.2.2.2.1)).mono ?_
    rintro e w' ⟨v0_, he, hR0, hb⟩
    obtain ⟨A0_, c0_, rfl, hc0_, hC0_⟩ := Kd.R_reads hR0
    have hw' := FS12.stays w w' hw hb
    exact ⟨(A0_, c0_), he, ⟨hC0_, hc0_, hw'⟩⟩
  clear h hw
  rintro ⟨A349, c349⟩ a w h hw
  exact quiet_ 2 5 7 (obs := []) (by kernel_rfl) rfl trivial h hw fun a w h hw => end_ (by kernel_rfl) (t57 H h hw)
theorem t59 (H : Facts kk l0 l1 a0 a1 b0 b1 cn ok od one m0 m1 thr n0 n1 fv tx sv ba x1 y1 ls tt nin ga nm ds re1 fif dt p0 p1 svt la la2 fa fa2) {a : Act} {w : World} (h : Has 567 a [(1, (vS A1 l1 c1)), (37, (vS A314 ls c314)), (38, (.string tt)), (39, (vB nin)), (40, (.string tt)), (41, (vB nin)), (42, (vS A327 ga c327)), (43, (vB nin)), (44, (vS A332 ga c332)), (45, (vB nin)), (46, (vS A337 nm c337)), (47, (vB nin)), (48, (vS A342 nm c342)), (49, (vB nin))]) (hw : FS12 ga l1 nm ls c342 c337 c332 c327 c314 c1 A342 A337 A332 A327 A314 A1 w0 w) : B59.wp Tryz.prog (Ql w0) a w := by
  refine wp_seq ?_
  exact region_ (obs := [.call 26 [(vS A1 l1 c1)] (.string ds)]) (by kernel_rfl) mix rfl FS12.stays ⟨⟨⟨_, Tryz.func26, by kernel_rfl, by kernel_rfl⟩, fun w hw => FS12.stays.calls hw (spec_DrawParsePlates.calls _ _ _ _ _ _ (hw.2.2.2.2.2.2.2.2.2.2.2.2.1) (hw.2.2.2.2.2.2.2.2.2.2.2.2.2) (H.f40_1))⟩, trivial⟩ h hw fun a w h hw => t58 H h hw
theorem t60 (H : Facts kk l0 l1 a0 a1 b0 b1 cn ok od one m0 m1 thr n0 n1 fv tx sv ba x1 y1 ls tt nin ga nm ds re1 fif dt p0 p1 svt la la2 fa fa2) {a : Act} {w : World} (h : Has 567 a [(1, (vS A1 l1 c1)), (37, (vS A314 ls c314)), (38, (.string tt)), (39, (vB nin)), (40, (.string tt)), (41, (vB nin)), (42, (vS A327 ga c327)), (43, (vB nin)), (44, (vS A332 ga c332)), (45, (vB nin)), (46, (vS A337 nm c337)), (47, (vB nin))]) (hw : FS11 ga l1 nm ls c337 c332 c327 c314 c1 A337 A332 A327 A314 A1 w0 w) : B60.wp Tryz.prog (Ql w0) a w := by
  refine wp_seq ?_
  refine region_list ?_
  refine quiet_ 0 1 1 (K := [(1, (vS A1 l1 c1)), (37, (vS A314 ls c314)), (38, (.string tt)), (39, (vB nin)), (40, (.string tt)), (41, (vB nin)), (42, (vS A327 ga c327)), (43, (vB nin)), (44, (vS A332 ga c332)), (45, (vB nin)), (46, (vS A337 nm c337)), (47, (vB nin)), (341, (vS A314 ls c314))]) (obs := []) (by kernel_rfl) rfl trivial h hw ?_
  clear h hw
  intro a w h hw
  refine made_ (σ := Option Addr × Nat) (F := FS11 ga l1 nm ls c337 c332 c327 c314 c1 A337 A332 A327 A314 A1 w0) 1 2 (f := 25) (d := 342) (vs := [(vS A314 ls c314)]) (by kernel_rfl) rfl h hw Tryz.func25 (by kernel_rfl) (by kernel_rfl) (fun s => (.tuple #[(.slice s.1 nm.length s.2), (vB nin)])) (fun s w => FS12 ga l1 nm ls s.2 c337 c332 c327 c314 c1 s.1 A337 A332 A327 A314 A1 w0 w) ?_ ?_
  · intro w hw
    refine (spec_RenumberPlates.calls _ _ _ _ _ _ _ (hw.2.2.2.2.2.2.1) (hw.2.2.2.2.2.2.2.1) (H.f39_1)).mono ?_
    rintro e w' ⟨v0_, he, hR0, hb⟩
    obtain ⟨A0_, c0_, rfl, hc0_, hC0_⟩ := Kd.R_reads hR0
    have hw' := FS11.stays w w' hw hb
    exact ⟨(A0_, c0_), he, ⟨hC0_, hc0_, hw'⟩⟩
  clear h hw
  rintro ⟨A342, c342⟩ a w h hw
  exact quiet_ 2 5 7 (obs := []) (by kernel_rfl) rfl trivial h hw fun a w h hw => end_ (by kernel_rfl) (t59 H h hw)
theorem t61 (H : Facts kk l0 l1 a0 a1 b0 b1 cn ok od one m0 m1 thr n0 n1 fv tx sv ba x1 y1 ls tt nin ga nm ds re1 fif dt p0 p1 svt la la2 fa fa2) {a : Act} {w : World} (h : Has 567 a [(1, (vS A1 l1 c1)), (37, (vS A314 ls c314)), (38, (.string tt)), (39, (vB nin)), (40, (.string tt)), (41, (vB nin)), (42, (vS A327 ga c327)), (43, (vB nin)), (44, (vS A332 ga c332)), (45, (vB nin))]) (hw : FS10 ga l1 ls c332 c327 c314 c1 A332 A327 A314 A1 w0 w) : B61.wp Tryz.prog (Ql w0) a w := by
  refine wp_seq ?_
  refine region_list ?_
  refine quiet_ 0 1 1 (K := [(1, (vS A1 l1 c1)), (37, (vS A314 ls c314)), (38, (.string tt)), (39, (vB nin)), (40, (.string tt)), (41, (vB nin)), (42, (vS A327 ga c327)), (43, (vB nin)), (44, (vS A332 ga c332)), (45, (vB nin)), (336, (vS A314 ls c314))]) (obs := []) (by kernel_rfl) rfl trivial h hw ?_
  clear h hw
  intro a w h hw
  refine made_ (σ := Option Addr × Nat) (F := FS10 ga l1 ls c332 c327 c314 c1 A332 A327 A314 A1 w0) 1 2 (f := 24) (d := 337) (vs := [(vS A314 ls c314)]) (by kernel_rfl) rfl h hw Tryz.func24 (by kernel_rfl) (by kernel_rfl) (fun s => (.tuple #[(.slice s.1 nm.length s.2), (vB nin)])) (fun s w => FS11 ga l1 nm ls s.2 c332 c327 c314 c1 s.1 A332 A327 A314 A1 w0 w) ?_ ?_
  · intro w hw
    refine (impl_RenumberPlates.calls _ _ _ _ _ _ _ (hw.2.2.2.2.1) (hw.2.2.2.2.2.1) (H.f38_1)).mono ?_
    rintro e w' ⟨v0_, he, hR0, hb⟩
    obtain ⟨A0_, c0_, rfl, hc0_, hC0_⟩ := Kd.R_reads hR0
    have hw' := FS10.stays w w' hw hb
    exact ⟨(A0_, c0_), he, ⟨hC0_, hc0_, hw'⟩⟩
  clear h hw
  rintro ⟨A337, c337⟩ a w h hw
  exact quiet_ 2 5 7 (obs := []) (by kernel_rfl) rfl trivial h hw fun a w h hw => end_ (by kernel_rfl) (t60 H h hw)
theorem t62 (H : Facts kk l0 l1 a0 a1 b0 b1 cn ok od one m0 m1 thr n0 n1 fv tx sv ba x1 y1 ls tt nin ga nm ds re1 fif dt p0 p1 svt la la2 fa fa2) {a : Act} {w : World} (h : Has 567 a [(1, (vS A1 l1 c1)), (37, (vS A314 ls c314)), (38, (.string tt)), (39, (vB nin)), (40, (.string tt)), (41, (vB nin)), (42, (vS A327 ga c327)), (43, (vB nin))]) (hw : FS9 ga l1 ls c327 c314 c1 A327 A314 A1 w0 w) : B62.wp Tryz.prog (Ql w0) a w := by
  refine wp_seq ?_
  refine region_list ?_
  refine quiet_ 0 1 1 (K := [(1, (vS A1 l1 c1)), (37, (vS A314 ls c314)), (38, (.string tt)), (39, (vB nin)), (40, (.string tt)), (41, (vB nin)), (42, (vS A327 ga c327)), (43, (vB nin)), (331, (vS A314 ls c314))]) (obs := []) (by kernel_rfl) rfl trivial h hw ?_
  clear h hw
  intro a w h hw
  refine made_ (σ := Option Addr × Nat) (F := FS9 ga l1 ls c327 c314 c1 A327 A314 A1 w0) 1 2 (f := 23) (d := 332) (vs := [(vS A314 ls c314)]) (by kernel_rfl) rfl h hw Tryz.func23 (by kernel_rfl) (by kernel_rfl) (fun s => (.tuple #[(.slice s.1 ga.length s.2), (vB nin)])) (fun s w => FS10 ga l1 ls s.2 c327 c314 c1 s.1 A327 A314 A1 w0 w) ?_ ?_
  · intro w hw
    refine (spec_GapsOfPlates.calls _ _ _ _ _ _ _ (hw.2.2.1) (hw.2.2.2.1) (H.f37_1)).mono ?_
    rintro e w' ⟨v0_, he, hR0, hb⟩
    obtain ⟨A0_, c0_, rfl, hc0_, hC0_⟩ := Kd.R_reads hR0
    have hw' := FS9.stays w w' hw hb
    exact ⟨(A0_, c0_), he, ⟨hC0_, hc0_, hw'⟩⟩
  clear h hw
  rintro ⟨A332, c332⟩ a w h hw
  exact quiet_ 2 5 7 (obs := []) (by kernel_rfl) rfl trivial h hw fun a w h hw => end_ (by kernel_rfl) (t61 H h hw)
theorem t63 (H : Facts kk l0 l1 a0 a1 b0 b1 cn ok od one m0 m1 thr n0 n1 fv tx sv ba x1 y1 ls tt nin ga nm ds re1 fif dt p0 p1 svt la la2 fa fa2) {a : Act} {w : World} (h : Has 567 a [(1, (vS A1 l1 c1)), (37, (vS A314 ls c314)), (38, (.string tt)), (39, (vB nin)), (40, (.string tt)), (41, (vB nin))]) (hw : FS8 l1 ls c314 c1 A314 A1 w0 w) : B63.wp Tryz.prog (Ql w0) a w := by
  refine wp_seq ?_
  refine region_list ?_
  refine quiet_ 0 1 1 (K := [(1, (vS A1 l1 c1)), (37, (vS A314 ls c314)), (38, (.string tt)), (39, (vB nin)), (40, (.string tt)), (41, (vB nin)), (326, (vS A314 ls c314))]) (obs := []) (by kernel_rfl) rfl trivial h hw ?_
  clear h hw
  intro a w h hw
  refine made_ (σ := Option Addr × Nat) (F := FS8 l1 ls c314 c1 A314 A1 w0) 1 2 (f := 22) (d := 327) (vs := [(vS A314 ls c314)]) (by kernel_rfl) rfl h hw Tryz.func22 (by kernel_rfl) (by kernel_rfl) (fun s => (.tuple #[(.slice s.1 ga.length s.2), (vB nin)])) (fun s w => FS9 ga l1 ls s.2 c314 c1 s.1 A314 A1 w0 w) ?_ ?_
  · intro w hw
    refine (impl_GapsOfPlates.calls _ _ _ _ _ _ _ (hw.1) (hw.2.1) (H.f36_1)).mono ?_
    rintro e w' ⟨v0_, he, hR0, hb⟩
    obtain ⟨A0_, c0_, rfl, hc0_, hC0_⟩ := Kd.R_reads hR0
    have hw' := FS8.stays w w' hw hb
    exact ⟨(A0_, c0_), he, ⟨hC0_, hc0_, hw'⟩⟩
  clear h hw
  rintro ⟨A327, c327⟩ a w h hw
  exact quiet_ 2 5 7 (obs := []) (by kernel_rfl) rfl trivial h hw fun a w h hw => end_ (by kernel_rfl) (t62 H h hw)
theorem t64 (H : Facts kk l0 l1 a0 a1 b0 b1 cn ok od one m0 m1 thr n0 n1 fv tx sv ba x1 y1 ls tt nin ga nm ds re1 fif dt p0 p1 svt la la2 fa fa2) {a : Act} {w : World} (h : Has 567 a [(1, (vS A1 l1 c1)), (37, (vS A314 ls c314)), (38, (.string tt)), (39, (vB nin))]) (hw : FS8 l1 ls c314 c1 A314 A1 w0 w) : B64.wp Tryz.prog (Ql w0) a w := by
  refine wp_seq ?_
  exact region_ (obs := [.call 21 [(vS A314 ls c314)] (.tuple #[(.string tt), (vB nin)])]) (by kernel_rfl) mix rfl FS8.stays ⟨⟨⟨_, Tryz.func21, by kernel_rfl, by kernel_rfl⟩, fun w hw => FS8.stays.calls hw (spec_PlatesText.calls _ _ _ _ _ _ _ (hw.1) (hw.2.1) (H.f35_1))⟩, trivial⟩ h hw fun a w h hw => t63 H h hw
theorem t65 (H : Facts kk l0 l1 a0 a1 b0 b1 cn ok od one m0 m1 thr n0 n1 fv tx sv ba x1 y1 ls tt nin ga nm ds re1 fif dt p0 p1 svt la la2 fa fa2) {a : Act} {w : World} (h : Has 567 a [(1, (vS A1 l1 c1)), (37, (vS A314 ls c314))]) (hw : FS8 l1 ls c314 c1 A314 A1 w0 w) : B65.wp Tryz.prog (Ql w0) a w := by
  refine wp_seq ?_
  exact region_ (obs := [.call 20 [(vS A314 ls c314)] (.tuple #[(.string tt), (vB nin)])]) (by kernel_rfl) mix rfl FS8.stays ⟨⟨⟨_, Tryz.func20, by kernel_rfl, by kernel_rfl⟩, fun w hw => FS8.stays.calls hw (impl_PlatesText.calls _ _ _ _ _ _ _ (hw.1) (hw.2.1) (H.f34_1) (hw.2.2.2.1))⟩, trivial⟩ h hw fun a w h hw => t64 H h hw
theorem t66 (H : Facts kk l0 l1 a0 a1 b0 b1 cn ok od one m0 m1 thr n0 n1 fv tx sv ba x1 y1 ls tt nin ga nm ds re1 fif dt p0 p1 svt la la2 fa fa2) {a : Act} {w : World} (h : Has 567 a [(1, (vS A1 l1 c1))]) (hw : FS7 l1 c1 A1 w0 w) : B66.wp Tryz.prog (Ql w0) a w := by
  refine wp_seq ?_
  refine region_list ?_
  refine quiet_ 0 1 1 (K := [(1, (vS A1 l1 c1)), (313, (vS A1 l1 c1))]) (obs := []) (by kernel_rfl) rfl trivial h hw ?_
  clear h hw
  intro a w h hw
  refine made_ (σ := Option Addr × Nat) (F := FS7 l1 c1 A1 w0) 1 2 (f := 19) (d := 314) (vs := [(vS A1 l1 c1)]) (by kernel_rfl) rfl h hw Tryz.func19 (by kernel_rfl) (by kernel_rfl) (fun s => (.slice s.1 ls.length s.2)) (fun s w => FS8 l1 ls s.2 c1 s.1 A1 w0 w) ?_ ?_
  · intro w hw
    refine (spec_DrawPlatesText.calls _ _ _ _ _ _ (hw.2.2.1) (hw.2.2.2) (H.f33_1)).mono ?_
    rintro e w' ⟨v0_, he, hR0, hb⟩
    obtain ⟨A0_, c0_, rfl, hc0_, hC0_⟩ := Kd.R_reads hR0
    have hw' := FS7.stays w w' hw hb
    exact ⟨(A0_, c0_), he, ⟨hC0_, hc0_, hw'⟩⟩
  clear h hw
  rintro ⟨A314, c314⟩ a w h hw
  exact quiet_ 2 1 3 (obs := []) (by kernel_rfl) rfl trivial h hw fun a w h hw => end_ (by kernel_rfl) (t65 H h hw)
theorem t18 (H : Facts kk l0 l1 a0 a1 b0 b1 cn ok od one m0 m1 thr n0 n1 fv tx true ba x1 y1 ls tt nin ga nm ds re1 fif dt p0 p1 svt la la2 fa fa2) {a : Act} {w : World} (h : Has 567 a [(1, (vS A1 l1 c1)), (5, (vP g5)), (35, (vP g35)), (36, (vB true))]) (hw : FS27 a0 a1 l1 g35 g5 c1 A1 w0 w) : B18.wp Tryz.prog (Exit.then (fun a w => Code.wp Tryz.prog B66 (Ql w0) a w) (Ql w0)) a w := by
  refine wp_seq ?_
  refine region_ (K := [(1, (vS A1 l1 c1)), (312, (vB false))]) (obs := [lS 25 35 g35 a0 a1, lS 25 5 g5 a0 a1, .op (Op.binOp BinOp.neq 25 (tm 309) (tm 310) 25) 4 [((tm 309), (vA a0 a1)), ((tm 310), (vA a0 a1))] (vB false)]) (by kernel_rfl) mix rfl FS27.stays ⟨(ok_load25 (fun w hw => (hw.1))), (ok_load25 (fun w hw => (hw.2.1))), (ok_neq25 (by simp)), trivial⟩ h hw ?_
  clear h hw
  intro a w h hw
  show Code.wp _ (Code.cond (tm 312) B17 Code.skip) _ _ _
  refine wp_cond_false (h.opd (by kernel_rfl)) ?_
  refine wp_skip ?_
  exact t66 H (h.cut (by kernel_rfl)) hw.2.2
theorem t19 (H : Facts kk l0 l1 a0 a1 b0 b1 cn ok od one m0 m1 thr n0 n1 fv tx true ba x1 y1 ls tt nin ga nm ds re1 fif dt p0 p1 svt la la2 fa fa2) {a : Act} {w : World} (h : Has 567 a [(1, (vS A1 l1 c1)), (5, (vP g5)), (23, (.string tx))]) (hw : FS26 a0 a1 l1 g5 c1 A1 w0 w) : B19.wp Tryz.prog (Exit.then (fun a w => Code.wp Tryz.prog B66 (Ql w0) a w) (Ql w0)) a w := by
  refine wp_seq ?_
  refine region_list ?_
  refine quiet_ 0 5 5 (K := [(1, (vS A1 l1 c1)), (5, (vP g5)), (304, (vA a0 a1)), (305, (vB true))]) (obs := [.call 18 [(.string tx)] (.tuple #[(vA a0 a1), (vB true)])]) (by kernel_rfl) rfl ⟨⟨⟨_, Tryz.func18, by kernel_rfl, by kernel_rfl⟩, fun w hw => FS26.stays.calls hw (impl_ParsePlate.calls _ _ _ _ _ _ (H.f30_1 rfl) (hw.2.2.1))⟩, trivial⟩ h hw ?_
  clear h hw
  intro a w h hw
  replace hw : Pend (FS26 a0 a1 l1 g5 c1 A1 w0) [] w := Pend.start hw
  refine alloc25 (F := FS26 a0 a1 l1 g5 c1 A1 w0) (bs := []) 5 6 (d := 35) (by kernel_rfl) rfl h hw ?_
  clear h hw
  intro g35 a w h hw
  refine store25 (F := FS26 a0 a1 l1 g5 c1 A1 w0) (bs := [(g35, .cells #[(vI 0), (vI 0)] 25 (0, 0))]) 6 7 0 (g := g35) (y := a0) (z := a1) (u := 0) (v := 0) (by kernel_rfl) rfl rfl h hw ?_
  clear h hw
  intro a w h hw
  replace hw : Pend (FS26 a0 a1 l1 g5 c1 A1 w0) [(g35, .cells #[(vI a0), (vI a1)] 25 (0, 0))] w := hw
  have hp_ := Pend.out FS26.stays hw
  replace hw : FS27 a0 a1 l1 g35 g5 c1 A1 w0 w := ⟨hp_.2 0 _ rfl, hp_.1⟩
  clear hp_
  exact quiet_ 7 1 8 (obs := []) (by kernel_rfl) rfl trivial h hw fun a w h hw => end_ (by kernel_rfl) (t18 H h hw)
theorem t67 (H : Facts kk l0 l1 a0 a1 b0 b1 cn ok od one m0 m1 thr n0 n1 fv tx sv ba x1 y1 ls tt nin ga nm ds re1 fif dt p0 p1 svt la la2 fa fa2) {a : Act} {w : World} (h : Has 567 a [(1, (vS A1 l1 c1)), (5, (vP g5)), (23, (.string tx)), (24, (vB sv))]) (hw : FS26 a0 a1 l1 g5 c1 A1 w0 w) : B67.wp Tryz.prog (Ql w0) a w := by
  refine wp_seq ?_
  refine wp_seq ?_
  refine region_ (K := [(1, (vS A1 l1 c1)), (5, (vP g5)), (23, (.string tx)), (300, (vB sv))]) (obs := []) (by kernel_rfl) mix rfl FS26.stays trivial h hw ?_
  clear h hw
  intro a w h hw
  show Code.wp _ (Code.cond (tm 300) B19 Code.skip) _ _ _
  cases sv with
  | true =>
    refine wp_cond_true (h.opd (by kernel_rfl)) ?_
    exact t19 H (h.cut (by kernel_rfl)) hw
  | false =>
    refine wp_cond_false (h.opd (by kernel_rfl)) ?_
    refine wp_skip ?_
    exact t66 H (h.cut (by kernel_rfl)) hw.2
theorem t14 (H : Facts kk l0 l1 a0 a1 b0 b1 cn ok od one m0 m1 thr n0 n1 true tx sv ba x1 y1 ls tt nin ga nm ds re1 fif dt p0 p1 svt la la2 fa fa2) {a : Act} {w : World} (h : Has 567 a [(1, (vS A1 l1 c1)), (5, (vP g5)), (19, (vP g19)), (23, (.string tx)), (24, (vB sv)), (33, (vI 0)), (34, (vB true))]) (hw : FS28 n0 n1 a0 a1 l1 g19 g5 c1 A1 w0 w) : B14.wp Tryz.prog (Exit.then (fun a w => Code.wp Tryz.prog B67 (Ql w0) a w) (Ql w0)) a w := by
  refine wp_seq ?_
  refine region_ (K := [(1, (vS A1 l1 c1)), (5, (vP g5)), (23, (.string tx)), (24, (vB sv)), (299, (vB false))]) (obs := [cK .neq 292 0 0 false, lS 25 19 g19 n0 n1, .call 16 [(vA n0 n1)] (vB true)]) (by kernel_rfl) mix rfl FS28.stays ⟨(ok_neq_int (bne_self_eq_false _)), (ok_load25 (fun w hw => (hw.1))), ⟨⟨_, Tryz.func16, by kernel_rfl, by kernel_rfl⟩, fun w hw => FS28.stays.calls hw (impl_IsPlate.calls _ _ _ _ (H.f27_8 rfl))⟩, trivial⟩ h hw ?_
  clear h hw
  intro a w h hw
  show Code.wp _ (Code.cond (tm 299) B13 Code.skip) _ _ _
  refine wp_cond_false (h.opd (by kernel_rfl)) ?_
  refine wp_skip ?_
  exact t67 H (h.cut (by kernel_rfl)) hw.2
theorem t15 (H : Facts kk l0 l1 a0 a1 b0 b1 cn ok od one m0 m1 thr n0 n1 true tx sv ba x1 y1 ls tt nin ga nm ds re1 fif dt p0 p1 svt la la2 fa fa2) {a : Act} {w : World} (h : Has 567 a [(1, (vS A1 l1 c1)), (5, (vP g5)), (19, (vP g19)), (23, (.string tx)), (24, (vB sv))]) (hw : FS28 n0 n1 a0 a1 l1 g19 g5 c1 A1 w0 w) : B15.wp Tryz.prog (Exit.then (fun a w => Code.wp Tryz.prog B67 (Ql w0) a w) (Ql w0)) a w := by
  refine wp_seq ?_
  exact region_ (obs := [lS 25 5 g5 a0 a1, lS 25 19 g19 n0 n1, .call 6 [(vA a0 a1), (vA n0 n1)] (.tuple #[(vI 0), (vB true)])]) (by kernel_rfl) mix rfl FS28.stays ⟨(ok_load25 (fun w hw => (hw.2.1))), (ok_load25 (fun w hw => (hw.1))), ⟨⟨_, Tryz.func6, by kernel_rfl, by kernel_rfl⟩, fun w hw => FS28.stays.calls hw (impl_CountBetween.calls _ _ _ _ _ _ _ _ (H.f26_2 rfl))⟩, trivial⟩ h hw fun a w h hw => t14 H h hw
theorem t68 (H : Facts kk l0 l1 a0 a1 b0 b1 cn ok od one m0 m1 thr n0 n1 fv tx sv ba x1 y1 ls tt nin ga nm ds re1 fif dt p0 p1 svt la la2 fa fa2) {a : Act} {w : World} (h : Has 567 a [(1, (vS A1 l1 c1)), (5, (vP g5)), (19, (vP g19)), (20, (vB fv)), (23, (.string tx)), (24, (vB sv))]) (hw : FS28 n0 n1 a0 a1 l1 g19 g5 c1 A1 w0 w) : B68.wp Tryz.prog (Ql w0) a w := by
  refine wp_seq ?_
  refine wp_seq ?_
  refine region_ (K := [(1, (vS A1 l1 c1)), (5, (vP g5)), (19, (vP g19)), (23, (.string tx)), (24, (vB sv)), (282, (vB fv))]) (obs := []) (by kernel_rfl) mix rfl FS28.stays trivial h hw ?_
  clear h hw
  intro a w h hw
  show Code.wp _ (Code.cond (tm 282) B15 Code.skip) _ _ _
  cases fv with
  | true =>
    refine wp_cond_true (h.opd (by kernel_rfl)) ?_
    exact t15 H (h.cut (by kernel_rfl)) hw
  | false =>
    refine wp_cond_false (h.opd (by kernel_rfl)) ?_
    refine wp_skip ?_
    exact t67 H (h.cut (by kernel_rfl)) hw.2
theorem t9 (H : Facts kk l0 l1 a0 a1 b0 b1 cn ok od one m0 m1 true n0 n1 fv tx sv ba x1 y1 ls tt nin ga nm ds re1 fif dt p0 p1 svt la la2 fa fa2) {a : Act} {w : World} (h : Has 567 a [(1, (vS A1 l1 c1)), (5, (vP g5)), (7, (vI cn)), (19, (vP g19)), (20, (vB fv)), (23, (.string tx)), (24, (vB sv)), (29, (vI x1)), (30, (vB true)), (31, (vI y1)), (32, (vB true))]) (hw : FS28 n0 n1 a0 a1 l1 g19 g5 c1 A1 w0 w) : B9.wp Tryz.prog (Exit.then (fun a w => Code.wp Tryz.prog B68 (Ql w0) a w) (Ql w0)) a w := by
  refine wp_seq ?_
  refine region_ (K := [(1, (vS A1 l1 c1)), (5, (vP g5)), (19, (vP g19)), (20, (vB fv)), (23, (.string tx)), (24, (vB sv)), (281, (vB false))]) (obs := [bO .add (tm 264) (tm 265) x1 y1 (wrap64 (x1 + y1)), bO .add (tm 266) (Operand.const (Value.int IntKind.i64 1)) (wrap64 (x1 + y1)) 1 (wrap64 ((wrap64 (x1 + y1)) + 1)), cI .neq 267 268 (wrap64 ((wrap64 (x1 + y1)) + 1)) cn false, cI .gtr 272 273 x1 y1 false, bO .add (tm 278) (Operand.const (Value.int IntKind.i64 1)) x1 1 (wrap64 (x1 + 1)), cI .gtr 277 279 y1 (wrap64 (x1 + 1)) false]) (by kernel_rfl) mix rfl FS28.stays ⟨(ok_add_int rfl), (ok_add_int rfl), (ok_neq_int (bne_eq_false_iff_eq.mpr (H.hsum rfl))), (ok_gtr_int (decide_eq_false (H.hxy rfl))), (ok_add_int rfl), (ok_gtr_int (decide_eq_false (H.hyx rfl))), trivial⟩ h hw ?_
  clear h hw
  intro a w h hw
  show Code.wp _ (Code.cond (tm 281) B8 Code.skip) _ _ _
  refine wp_cond_false (h.opd (by kernel_rfl)) ?_
  refine wp_skip ?_
  exact t68 H (h.cut (by kernel_rfl)) hw
theorem t10 (H : Facts kk l0 l1 a0 a1 b0 b1 cn ok od one m0 m1 true n0 n1 fv tx sv ba x1 y1 ls tt nin ga nm ds re1 fif dt p0 p1 svt la la2 fa fa2) {a : Act} {w : World} (h : Has 567 a [(1, (vS A1 l1 c1)), (5, (vP g5)), (6, (vP g6)), (7, (vI cn)), (15, (vP g15)), (19, (vP g19)), (20, (vB fv)), (23, (.string tx)), (24, (vB sv)), (29, (vI x1)), (30, (vB true))]) (hw : FS29 n0 n1 m0 m1 b0 b1 a0 a1 l1 g19 g15 g6 g5 c1 A1 w0 w) : B10.wp Tryz.prog (Exit.then (fun a w => Code.wp Tryz.prog B68 (Ql w0) a w) (Ql w0)) a w := by
  refine wp_seq ?_
  exact region_ (obs := [lS 25 15 g15 m0 m1, lS 25 6 g6 b0 b1, .call 6 [(vA m0 m1), (vA b0 b1)] (.tuple #[(vI y1), (vB true)])]) (by kernel_rfl) mix rfl FS29.stays ⟨(ok_load25 (fun w hw => (hw.2.1))), (ok_load25 (fun w hw => (hw.2.2.1))), ⟨⟨_, Tryz.func6, by kernel_rfl, by kernel_rfl⟩, fun w hw => FS29.stays.calls hw (impl_CountBetween.calls _ _ _ _ _ _ _ _ (H.f22_2 rfl))⟩, trivial⟩ h hw fun a w h hw => t9 H h (let ⟨p,_,_,q⟩ := hw; ⟨p,q⟩)
theorem t11 (H : Facts kk l0 l1 a0 a1 b0 b1 cn ok od one m0 m1 true n0 n1 fv tx sv ba x1 y1 ls tt nin ga nm ds re1 fif dt p0 p1 svt la la2 fa fa2) {a : Act} {w : World} (h : Has 567 a [(1, (vS A1 l1 c1)), (5, (vP g5)), (6, (vP g6)), (7, (vI cn)), (15, (vP g15)), (19, (vP g19)), (20, (vB fv)), (23, (.string tx)), (24, (vB sv))]) (hw : FS29 n0 n1 m0 m1 b0 b1 a0 a1 l1 g19 g15 g6 g5 c1 A1 w0 w) : B11.wp Tryz.prog (Exit.then (fun a w => Code.wp Tryz.prog B68 (Ql w0) a w) (Ql w0)) a w := by
  refine wp_seq ?_
  exact region_ (obs := [lS 25 5 g5 a0 a1, lS 25 15 g15 m0 m1, .call 6 [(vA a0 a1), (vA m0 m1)] (.tuple #[(vI x1), (vB true)])]) (by kernel_rfl) mix rfl FS29.stays ⟨(ok_load25 (fun w hw => (hw.2.2.2.1))), (ok_load25 (fun w hw => (hw.2.1))), ⟨⟨_, Tryz.func6, by kernel_rfl, by kernel_rfl⟩, fun w hw => FS29.stays.calls hw (impl_CountBetween.calls _ _ _ _ _ _ _ _ (H.f21_2 rfl))⟩, trivial⟩ h hw fun a w h hw => t10 H h hw
theorem t69 (H : Facts kk l0 l1 a0 a1 b0 b1 cn ok od one m0 m1 thr n0 n1 fv tx sv ba x1 y1 ls tt nin ga nm ds re1 fif dt p0 p1 svt la la2 fa fa2) {a : Act} {w : World} (h : Has 567 a [(1, (vS A1 l1 c1)), (5, (vP g5)), (6, (vP g6)), (7, (vI cn)), (15, (vP g15)), (16, (vB thr)), (19, (vP g19)), (20, (vB fv)), (23, (.string tx)), (24, (vB sv))]) (hw : FS29 n0 n1 m0 m1 b0 b1 a0 a1 l1 g19 g15 g6 g5 c1 A1 w0 w) : B69.wp Tryz.prog (Ql w0) a w := by
  refine wp_seq ?_
  refine wp_seq ?_
  refine region_ (K := [(1, (vS A1 l1 c1)), (5, (vP g5)), (6, (vP g6)), (7, (vI cn)), (15, (vP g15)), (19, (vP g19)), (20, (vB fv)), (23, (.string tx)), (24, (vB sv)), (244, (vB thr))]) (obs := []) (by kernel_rfl) mix rfl FS29.stays trivial h hw ?_
  clear h hw
  intro a w h hw
  show Code.wp _ (Code.cond (tm 244) B11 Code.skip) _ _ _
  cases thr with
  | true =>
    refine wp_cond_true (h.opd (by kernel_rfl)) ?_
    exact t11 H (h.cut (by kernel_rfl)) hw
  | false =>
    refine wp_cond_false (h.opd (by kernel_rfl)) ?_
    refine wp_skip ?_
    exact t68 H (h.cut (by kernel_rfl)) (let ⟨p,_,_,q⟩ := hw; ⟨p,q⟩)
theorem t5 (H : Facts kk l0 l1 a0 a1 b0 b1 cn ok od true m0 m1 thr n0 n1 fv tx sv ba x1 y1 ls tt nin ga nm ds re1 fif dt p0 p1 svt la la2 fa fa2) {a : Act} {w : World} (h : Has 567 a [(1, (vS A1 l1 c1)), (5, (vP g5)), (6, (vP g6)), (7, (vI cn)), (11, (vI od)), (15, (vP g15)), (16, (vB thr)), (19, (vP g19)), (20, (vB fv)), (23, (.string tx)), (24, (vB sv)), (27, (vI ba)), (28, (vB true))]) (hw : FS29 n0 n1 m0 m1 b0 b1 a0 a1 l1 g19 g15 g6 g5 c1 A1 w0 w) : B5.wp Tryz.prog (Exit.then (fun a w => Code.wp Tryz.prog B69 (Ql w0) a w) (Ql w0)) a w := by
  refine wp_seq ?_
  refine region_ (K := [(1, (vS A1 l1 c1)), (5, (vP g5)), (6, (vP g6)), (7, (vI cn)), (15, (vP g15)), (16, (vB thr)), (19, (vP g19)), (20, (vB fv)), (23, (.string tx)), (24, (vB sv)), (243, (vB false))]) (obs := [.op (Op.unOp UnOp.neg 3 (tm 232)) 3 [((tm 232), (vI od))] (vI (wrap64 (-od))), cI .neq 231 233 ba (wrap64 (-od)) false, cK .eql 237 od 0 (od == 0), lS 25 5 g5 a0 a1, lS 25 6 g6 b0 b1, .op (Op.binOp BinOp.eql 25 (tm 239) (tm 240) 25) 4 [((tm 239), (vA a0 a1)), ((tm 240), (vA b0 b1))] (vB (a0 == b0 && a1 == b1)), cB .neq 238 241 (od == 0) (a0 == b0 && a1 == b1) false]) (by kernel_rfl) mix rfl FS29.stays ⟨(ok_neg_int rfl), (ok_neq_int (bne_eq_false_iff_eq.mpr (H.hback rfl))), (ok_eql_int rfl), (ok_load25 (fun w hw => (hw.2.2.2.1))), (ok_load25 (fun w hw => (hw.2.2.1))), (ok_eql25 rfl), (ok_neq_bool Tryz.underlying4 (bne_eq_false_iff_eq.mpr (H.hzero rfl))), trivial⟩ h hw ?_
  clear h hw
  intro a w h hw
  show Code.wp _ (Code.cond (tm 243) B4 Code.skip) _ _ _
  refine wp_cond_false (h.opd (by kernel_rfl)) ?_
  refine wp_skip ?_
  exact t69 H (h.cut (by kernel_rfl)) hw
theorem t6 (H : Facts kk l0 l1 a0 a1 b0 b1 cn ok od true m0 m1 thr n0 n1 fv tx sv ba x1 y1 ls tt nin ga nm ds re1 fif dt p0 p1 svt la la2 fa fa2) {a : Act} {w : World} (h : Has 567 a [(1, (vS A1 l1 c1)), (5, (vP g5)), (6, (vP g6)), (7, (vI cn)), (11, (vI od)), (15, (vP g15)), (16, (vB thr)), (19, (vP g19)), (20, (vB fv)), (23, (.string tx)), (24, (vB sv))]) (hw : FS29 n0 n1 m0 m1 b0 b1 a0 a1 l1 g19 g15 g6 g5 c1 A1 w0 w) : B6.wp Tryz.prog (Exit.then (fun a w => Code.wp Tryz.prog B69 (Ql w0) a w) (Ql w0)) a w := by
  refine wp_seq ?_
  exact region_ (obs := [lS 25 6 g6 b0 b1, lS 25 5 g5 a0 a1, .call 8 [(vA b0 b1), (vA a0 a1)] (.tuple #[(vI ba), (vB true)])]) (by kernel_rfl) mix rfl FS29.stays ⟨(ok_load25 (fun w hw => (hw.2.2.1))), (ok_load25 (fun w hw => (hw.2.2.2.1))), ⟨⟨_, Tryz.func8, by kernel_rfl, by kernel_rfl⟩, fun w hw => FS29.stays.calls hw (impl_ComparePlates.calls _ _ _ _ _ _ _ _ (H.f17_2 rfl))⟩, trivial⟩ h hw fun a w h hw => t5 H h hw
theorem t70 (H : Facts kk l0 l1 a0 a1 b0 b1 cn ok od one m0 m1 thr n0 n1 fv tx sv ba x1 y1 ls tt nin ga nm ds re1 fif dt p0 p1 svt la la2 fa fa2) {a : Act} {w : World} (h : Has 567 a [(1, (vS A1 l1 c1)), (5, (vP g5)), (6, (vP g6)), (7, (vI cn)), (11, (vI od)), (12, (vB one)), (15, (vP g15)), (16, (vB thr)), (19, (vP g19)), (20, (vB fv)), (23, (.string tx)), (24, (vB sv))]) (hw : FS29 n0 n1 m0 m1 b0 b1 a0 a1 l1 g19 g15 g6 g5 c1 A1 w0 w) : B70.wp Tryz.prog (Ql w0) a w := by
  refine wp_seq ?_
  refine wp_seq ?_
  refine region_ (K := [(1, (vS A1 l1 c1)), (5, (vP g5)), (6, (vP g6)), (7, (vI cn)), (11, (vI od)), (15, (vP g15)), (16, (vB thr)), (19, (vP g19)), (20, (vB fv)), (23, (.string tx)), (24, (vB sv)), (221, (vB one))]) (obs := []) (by kernel_rfl) mix rfl FS29.stays trivial h hw ?_
  clear h hw
  intro a w h hw
  show Code.wp _ (Code.cond (tm 221) B6 Code.skip) _ _ _
  cases one with
  | true =>
    refine wp_cond_true (h.opd (by kernel_rfl)) ?_
    exact t6 H (h.cut (by kernel_rfl)) hw
  | false =>
    refine wp_cond_false (h.opd (by kernel_rfl)) ?_
    refine wp_skip ?_
    exact t69 H (h.cut (by kernel_rfl)) hw
theorem t71 (H : Facts kk l0 l1 a0 a1 b0 b1 cn ok od one m0 m1 thr n0 n1 fv tx sv ba x1 y1 ls tt nin ga nm ds re1 fif dt p0 p1 svt la la2 fa fa2) {a : Act} {w : World} (h : Has 567 a [(1, (vS A1 l1 c1)), (5, (vP g5)), (6, (vP g6)), (7, (vI cn)), (8, (vB ok)), (9, (vI cn)), (10, (vB ok)), (11, (vI od)), (12, (vB one)), (13, (vI od)), (14, (vB one)), (15, (vP g15)), (16, (vB thr)), (17, (vP g17)), (18, (vB thr)), (19, (vP g19)), (20, (vB fv)), (21, (vP g21)), (22, (vB fv)), (23, (.string tx)), (24, (vB sv)), (25, (.string tx)), (26, (vB sv))]) (hw : FS6 n0 n1 m0 m1 b0 b1 a0 a1 l1 g21 g19 g17 g15 g6 g5 c1 A1 w0 w) : B71.wp Tryz.prog (Ql w0) a w := by
  refine wp_seq ?_
  refine wp_seq ?_
  cases one with
  | true =>
    by_cases hx1 : od < 0
    · obtain rfl : ok = true := H.hcmp.trans (by simp [hx1])
      by_cases hx2 : cn > 0
      · obtain rfl : thr = true := H.hmid.trans (by simp [hx2])
        cases fv with
        | true =>
          obtain rfl : sv = true := H.hfs rfl
          refine region_ (K := [(1, (vS A1 l1 c1)), (5, (vP g5)), (6, (vP g6)), (7, (vI cn)), (11, (vI od)), (12, (vB true)), (15, (vP g15)), (16, (vB true)), (19, (vP g19)), (20, (vB true)), (23, (.string tx)), (24, (vB true)), (220, (vB false))]) (obs := [cB .neq 135 136 true true false, cI .neq 139 140 cn cn false, cB .neq 144 145 true true false, cI .neq 149 150 od od false, cB .neq 154 155 true true false, lS 25 15 g15 m0 m1, lS 25 17 g17 m0 m1, .op (Op.binOp BinOp.neq 25 (tm 159) (tm 160) 25) 4 [((tm 159), (vA m0 m1)), ((tm 160), (vA m0 m1))] (vB false), cB .neq 164 165 true true false, lS 25 19 g19 n0 n1, lS 25 21 g21 n0 n1, .op (Op.binOp BinOp.neq 25 (tm 169) (tm 170) 25) 4 [((tm 169), (vA n0 n1)), ((tm 170), (vA n0 n1))] (vB false), cB .neq 174 175 true true false, .op (Op.binOp BinOp.neq 9 (tm 179) (tm 180) 9) 4 [((tm 179), (.string tx)), ((tm 180), (.string tx))] (vB false), lS 25 5 g5 a0 a1, .call 16 [(vA a0 a1)] (vB true), cB .neq 184 186 true true false, lS 25 5 g5 a0 a1, .call 16 [(vA a0 a1)] (vB true), lS 25 5 g5 a0 a1, .call 17 [(vA a0 a1)] (vB true), cB .neq 191 193 true true false, cK .lss 200 od 0 true, cB .neq 197 202 true true false, cK .gtr 209 cn 0 true, cB .neq 206 211 true true false]) (by kernel_rfl) mix lex14 FS6.stays ⟨(ok_neq_bool Tryz.underlying4 (bne_self_eq_false _)), (ok_neq_int (bne_self_eq_false _)), (ok_neq_bool Tryz.underlying4 (bne_self_eq_false _)), (ok_neq_int (bne_self_eq_false _)), (ok_neq_bool Tryz.underlying4 (bne_self_eq_false _)), (ok_load25 (fun w hw => (hw.2.2.2.1))), (ok_load25 (fun w hw => (hw.2.2.1))), (ok_neq25 (by simp)), (ok_neq_bool Tryz.underlying4 (bne_self_eq_false _)), (ok_load25 (fun w hw => (hw.2.1))), (ok_load25 (fun w hw => (hw.1))), (ok_neq25 (by simp)), (ok_neq_bool Tryz.underlying4 (bne_self_eq_false _)), (ok_neq_str (by simp)), (ok_load25 (fun w hw => (hw.2.2.2.2.2.1))), ⟨⟨_, Tryz.func16, by kernel_rfl, by kernel_rfl⟩, fun w hw => FS6.stays.calls hw (impl_IsPlate.calls _ _ _ _ (H.f14_51))⟩, (ok_neq_bool Tryz.underlying4 (bne_self_eq_false _)), (ok_load25 (fun w hw => (hw.2.2.2.2.2.1))), ⟨⟨_, Tryz.func16, by kernel_rfl, by kernel_rfl⟩, fun w hw => FS6.stays.calls hw (impl_IsPlate.calls _ _ _ _ (H.f14_56))⟩, (ok_load25 (fun w hw => (hw.2.2.2.2.2.1))), ⟨⟨_, Tryz.func17, by kernel_rfl, by kernel_rfl⟩, fun w hw => FS6.stays.calls hw (spec_IsPlate.calls _ _ _ _ (H.f14_58))⟩, (ok_neq_bool Tryz.underlying4 (bne_self_eq_false _)), (ok_lss_int (decide_eq_true hx1)), (ok_neq_bool Tryz.underlying4 (bne_self_eq_false _)), (ok_gtr_int (decide_eq_true hx2)), (ok_neq_bool Tryz.underlying4 (bne_self_eq_false _)), trivial⟩ h hw ?_
          clear h hw
          intro a w h hw
          show Code.wp _ (Code.cond (tm 220) B2 Code.skip) _ _ _
          refine wp_cond_false (h.opd (by kernel_rfl)) ?_
          refine wp_skip ?_
          exact t70 H (h.cut (by kernel_rfl)) (let ⟨_,p,_,q⟩ := hw; ⟨p,q⟩)
        | false =>
          refine region_ (K := [(1, (vS A1 l1 c1)), (5, (vP g5)), (6, (vP g6)), (7, (vI cn)), (11, (vI od)), (12, (vB true)), (15, (vP g15)), (16, (vB true)), (19, (vP g19)), (20, (vB false)), (23, (.string tx)), (24, (vB sv)), (220, (vB false))]) (obs := [cB .neq 135 136 true true false, cI .neq 139 140 cn cn false, cB .neq 144 145 true true false, cI .neq 149 150 od od false, cB .neq 154 155 true true false, lS 25 15 g15 m0 m1, lS 25 17 g17 m0 m1, .op (Op.binOp BinOp.neq 25 (tm 159) (tm 160) 25) 4 [((tm 159), (vA m0 m1)), ((tm 160), (vA m0 m1))] (vB false), cB .neq 164 165 false false false, lS 25 19 g19 n0 n1, lS 25 21 g21 n0 n1, .op (Op.binOp BinOp.neq 25 (tm 169) (tm 170) 25) 4 [((tm 169), (vA n0 n1)), ((tm 170), (vA n0 n1))] (vB false), cB .neq 174 175 sv sv false, .op (Op.binOp BinOp.neq 9 (tm 179) (tm 180) 9) 4 [((tm 179), (.string tx)), ((tm 180), (.string tx))] (vB false), lS 25 5 g5 a0 a1, .call 16 [(vA a0 a1)] (vB sv), cB .neq 184 186 sv sv false, lS 25 5 g5 a0 a1, .call 16 [(vA a0 a1)] (vB sv), lS 25 5 g5 a0 a1, .call 17 [(vA a0 a1)] (vB sv), cB .neq 191 193 sv sv false, cK .lss 200 od 0 true, cB .neq 197 202 true true false, cK .gtr 209 cn 0 true, cB .neq 206 211 true true false]) (by kernel_rfl) mix lex14 FS6.stays ⟨(ok_neq_bool Tryz.underlying4 (bne_self_eq_false _)), (ok_neq_int (bne_self_eq_false _)), (ok_neq_bool Tryz.underlying4 (bne_self_eq_false _)), (ok_neq_int (bne_self_eq_false _)), (ok_neq_bool Tryz.underlying4 (bne_self_eq_false _)), (ok_load25 (fun w hw => (hw.2.2.2.1))), (ok_load25 (fun w hw => (hw.2.2.1))), (ok_neq25 (by simp)), (ok_neq_bool Tryz.underlying4 (bne_self_eq_false _)), (ok_load25 (fun w hw => (hw.2.1))), (ok_load25 (fun w hw => (hw.1))), (ok_neq25 (by simp)), (ok_neq_bool Tryz.underlying4 (bne_self_eq_false _)), (ok_neq_str (by simp)), (ok_load25 (fun w hw => (hw.2.2.2.2.2.1))), ⟨⟨_, Tryz.func16, by kernel_rfl, by kernel_rfl⟩, fun w hw => FS6.stays.calls hw (impl_IsPlate.calls _ _ _ _ (H.f14_51))⟩, (ok_neq_bool Tryz.underlying4 (bne_self_eq_false _)), (ok_load25 (fun w hw => (hw.2.2.2.2.2.1))), ⟨⟨_, Tryz.func16, by kernel_rfl, by kernel_rfl⟩, fun w hw => FS6.stays.calls hw (impl_IsPlate.calls _ _ _ _ (H.f14_56))⟩, (ok_load25 (fun w hw => (hw.2.2.2.2.2.1))), ⟨⟨_, Tryz.func17, by kernel_rfl, by kernel_rfl⟩, fun w hw => FS6.stays.calls hw (spec_IsPlate.calls _ _ _ _ (H.f14_58))⟩, (ok_neq_bool Tryz.underlying4 (bne_self_eq_false _)), (ok_lss_int (decide_eq_true hx1)), (ok_neq_bool Tryz.underlying4 (bne_self_eq_false _)), (ok_gtr_int (decide_eq_true hx2)), (ok_neq_bool Tryz.underlying4 (bne_self_eq_false _)), trivial⟩ h hw ?_
          clear h hw
          intro a w h hw
          show Code.wp _ (Code.cond (tm 220) B2 Code.skip) _ _ _
          refine wp_cond_false (h.opd (by kernel_rfl)) ?_
          refine wp_skip ?_
          exact t70 H (h.cut (by kernel_rfl)) (let ⟨_,p,_,q⟩ := hw; ⟨p,q⟩)
      · obtain rfl : thr = false := H.hmid.trans (by simp [hx2])
        cases fv with
        | true =>
          obtain rfl : sv = true := H.hfs rfl
          refine region_ (K := [(1, (vS A1 l1 c1)), (5, (vP g5)), (6, (vP g6)), (7, (vI cn)), (11, (vI od)), (12, (vB true)), (15, (vP g15)), (16, (vB false)), (19, (vP g19)), (20, (vB true)), (23, (.string tx)), (24, (vB true)), (220, (vB false))]) (obs := [cB .neq 135 136 true true false, cI .neq 139 140 cn cn false, cB .neq 144 145 true true false, cI .neq 149 150 od od false, cB .neq 154 155 false false false, lS 25 15 g15 m0 m1, lS 25 17 g17 m0 m1, .op (Op.binOp BinOp.neq 25 (tm 159) (tm 160) 25) 4 [((tm 159), (vA m0 m1)), ((tm 160), (vA m0 m1))] (vB false), cB .neq 164 165 true true false, lS 25 19 g19 n0 n1, lS 25 21 g21 n0 n1, .op (Op.binOp BinOp.neq 25 (tm 169) (tm 170) 25) 4 [((tm 169), (vA n0 n1)), ((tm 170), (vA n0 n1))] (vB false), cB .neq 174 175 true true false, .op (Op.binOp BinOp.neq 9 (tm 179) (tm 180) 9) 4 [((tm 179), (.string tx)), ((tm 180), (.string tx))] (vB false), lS 25 5 g5 a0 a1, .call 16 [(vA a0 a1)] (vB true), cB .neq 184 186 true true false, lS 25 5 g5 a0 a1, .call 16 [(vA a0 a1)] (vB true), lS 25 5 g5 a0 a1, .call 17 [(vA a0 a1)] (vB true), cB .neq 191 193 true true false, cK .lss 200 od 0 true, cB .neq 197 202 true true false, cK .gtr 209 cn 0 false, cB .neq 206 211 false false false]) (by kernel_rfl) mix lex14 FS6.stays ⟨(ok_neq_bool Tryz.underlying4 (bne_self_eq_false _)), (ok_neq_int (bne_self_eq_false _)), (ok_neq_bool Tryz.underlying4 (bne_self_eq_false _)), (ok_neq_int (bne_self_eq_false _)), (ok_neq_bool Tryz.underlying4 (bne_self_eq_false _)), (ok_load25 (fun w hw => (hw.2.2.2.1))), (ok_load25 (fun w hw => (hw.2.2.1))), (ok_neq25 (by simp)), (ok_neq_bool Tryz.underlying4 (bne_self_eq_false _)), (ok_load25 (fun w hw => (hw.2.1))), (ok_load25 (fun w hw => (hw.1))), (ok_neq25 (by simp)), (ok_neq_bool Tryz.underlying4 (bne_self_eq_false _)), (ok_neq_str (by simp)), (ok_load25 (fun w hw => (hw.2.2.2.2.2.1))), ⟨⟨_, Tryz.func16, by kernel_rfl, by kernel_rfl⟩, fun w hw => FS6.stays.calls hw (impl_IsPlate.calls _ _ _ _ (H.f14_51))⟩, (ok_neq_bool Tryz.underlying4 (bne_self_eq_false _)), (ok_load25 (fun w hw => (hw.2.2.2.2.2.1))), ⟨⟨_, Tryz.func16, by kernel_rfl, by kernel_rfl⟩, fun w hw => FS6.stays.calls hw (impl_IsPlate.calls _ _ _ _ (H.f14_56))⟩, (ok_load25 (fun w hw => (hw.2.2.2.2.2.1))), ⟨⟨_, Tryz.func17, by kernel_rfl, by kernel_rfl⟩, fun w hw => FS6.stays.calls hw (spec_IsPlate.calls _ _ _ _ (H.f14_58))⟩, (ok_neq_bool Tryz.underlying4 (bne_self_eq_false _)), (ok_lss_int (decide_eq_true hx1)), (ok_neq_bool Tryz.underlying4 (bne_self_eq_false _)), (ok_gtr_int (decide_eq_false hx2)), (ok_neq_bool Tryz.underlying4 (bne_self_eq_false _)), trivial⟩ h hw ?_
          clear h hw
          intro a w h hw
          show Code.wp _ (Code.cond (tm 220) B2 Code.skip) _ _ _
          refine wp_cond_false (h.opd (by kernel_rfl)) ?_
          refine wp_skip ?_
          exact t70 H (h.cut (by kernel_rfl)) (let ⟨_,p,_,q⟩ := hw; ⟨p,q⟩)
        | false =>
          refine region_ (K := [(1, (vS A1 l1 c1)), (5, (vP g5)), (6, (vP g6)), (7, (vI cn)), (11, (vI od)), (12, (vB true)), (15, (vP g15)), (16, (vB false)), (19, (vP g19)), (20, (vB false)), (23, (.string tx)), (24, (vB sv)), (220, (vB false))]) (obs := [cB .neq 135 136 true true false, cI .neq 139 140 cn cn false, cB .neq 144 145 true true false, cI .neq 149 150 od od false, cB .neq 154 155 false false false, lS 25 15 g15 m0 m1, lS 25 17 g17 m0 m1, .op (Op.binOp BinOp.neq 25 (tm 159) (tm 160) 25) 4 [((tm 159), (vA m0 m1)), ((tm 160), (vA m0 m1))] (vB false), cB .neq 164 165 false false false, lS 25 19 g19 n0 n1, lS 25 21 g21 n0 n1, .op (Op.binOp BinOp.neq 25 (tm 169) (tm 170) 25) 4 [((tm 169), (vA n0 n1)), ((tm 170), (vA n0 n1))] (vB false), cB .neq 174 175 sv sv false, .op (Op.binOp BinOp.neq 9 (tm 179) (tm 180) 9) 4 [((tm 179), (.string tx)), ((tm 180), (.string tx))] (vB false), lS 25 5 g5 a0 a1, .call 16 [(vA a0 a1)] (vB sv), cB .neq 184 186 sv sv false, lS 25 5 g5 a0 a1, .call 16 [(vA a0 a1)] (vB sv), lS 25 5 g5 a0 a1, .call 17 [(vA a0 a1)] (vB sv), cB .neq 191 193 sv sv false, cK .lss 200 od 0 true, cB .neq 197 202 true true false, cK .gtr 209 cn 0 false, cB .neq 206 211 false false false]) (by kernel_rfl) mix lex14 FS6.stays ⟨(ok_neq_bool Tryz.underlying4 (bne_self_eq_false _)), (ok_neq_int (bne_self_eq_false _)), (ok_neq_bool Tryz.underlying4 (bne_self_eq_false _)), (ok_neq_int (bne_self_eq_false _)), (ok_neq_bool Tryz.underlying4 (bne_self_eq_false _)), (ok_load25 (fun w hw => (hw.2.2.2.1))), (ok_load25 (fun w hw => (hw.2.2.1))), (ok_neq25 (by simp)), (ok_neq_bool Tryz.underlying4 (bne_self_eq_false _)), (ok_load25 (fun w hw => (hw.2.1))), (ok_load25 (fun w hw => (hw.1))), (ok_neq25 (by simp)), (ok_neq_bool Tryz.underlying4 (bne_self_eq_false _)), (ok_neq_str (by simp)), (ok_load25 (fun w hw => (hw.2.2.2.2.2.1))), ⟨⟨_, Tryz.func16, by kernel_rfl, by kernel_rfl⟩, fun w hw => FS6.stays.calls hw (impl_IsPlate.calls _ _ _ _ (H.f14_51))⟩, (ok_neq_bool Tryz.underlying4 (bne_self_eq_false _)), (ok_load25 (fun w hw => (hw.2.2.2.2.2.1))), ⟨⟨_, Tryz.func16, by kernel_rfl, by kernel_rfl⟩, fun w hw => FS6.stays.calls hw (impl_IsPlate.calls _ _ _ _ (H.f14_56))⟩, (ok_load25 (fun w hw => (hw.2.2.2.2.2.1))), ⟨⟨_, Tryz.func17, by kernel_rfl, by kernel_rfl⟩, fun w hw => FS6.stays.calls hw (spec_IsPlate.calls _ _ _ _ (H.f14_58))⟩, (ok_neq_bool Tryz.underlying4 (bne_self_eq_false _)), (ok_lss_int (decide_eq_true hx1)), (ok_neq_bool Tryz.underlying4 (bne_self_eq_false _)), (ok_gtr_int (decide_eq_false hx2)), (ok_neq_bool Tryz.underlying4 (bne_self_eq_false _)), trivial⟩ h hw ?_
          clear h hw
          intro a w h hw
          show Code.wp _ (Code.cond (tm 220) B2 Code.skip) _ _ _
          refine wp_cond_false (h.opd (by kernel_rfl)) ?_
          refine wp_skip ?_
          exact t70 H (h.cut (by kernel_rfl)) (let ⟨_,p,_,q⟩ := hw; ⟨p,q⟩)
    · obtain rfl : ok = false := H.hcmp.trans (by simp [hx1])
      obtain rfl : thr = false := H.hmid.trans (by simp)
      cases fv with
      | true =>
        obtain rfl : sv = true := H.hfs rfl
        refine region_ (K := [(1, (vS A1 l1 c1)), (5, (vP g5)), (6, (vP g6)), (7, (vI cn)), (11, (vI od)), (12, (vB true)), (15, (vP g15)), (16, (vB false)), (19, (vP g19)), (20, (vB true)), (23, (.string tx)), (24, (vB true)), (220, (vB false))]) (obs := [cB .neq 135 136 false false false, cI .neq 139 140 cn cn false, cB .neq 144 145 true true false, cI .neq 149 150 od od false, cB .neq 154 155 false false false, lS 25 15 g15 m0 m1, lS 25 17 g17 m0 m1, .op (Op.binOp BinOp.neq 25 (tm 159) (tm 160) 25) 4 [((tm 159), (vA m0 m1)), ((tm 160), (vA m0 m1))] (vB false), cB .neq 164 165 true true false, lS 25 19 g19 n0 n1, lS 25 21 g21 n0 n1, .op (Op.binOp BinOp.neq 25 (tm 169) (tm 170) 25) 4 [((tm 169), (vA n0 n1)), ((tm 170), (vA n0 n1))] (vB false), cB .neq 174 175 true true false, .op (Op.binOp BinOp.neq 9 (tm 179) (tm 180) 9) 4 [((tm 179), (.string tx)), ((tm 180), (.string tx))] (vB false), lS 25 5 g5 a0 a1, .call 16 [(vA a0 a1)] (vB true), cB .neq 184 186 true true false, lS 25 5 g5 a0 a1, .call 16 [(vA a0 a1)] (vB true), lS 25 5 g5 a0 a1, .call 17 [(vA a0 a1)] (vB true), cB .neq 191 193 true true false, cK .lss 200 od 0 false, cB .neq 197 202 false false false, cB .neq 206 211 false false false]) (by kernel_rfl) mix lex14 FS6.stays ⟨(ok_neq_bool Tryz.underlying4 (bne_self_eq_false _)), (ok_neq_int (bne_self_eq_false _)), (ok_neq_bool Tryz.underlying4 (bne_self_eq_false _)), (ok_neq_int (bne_self_eq_false _)), (ok_neq_bool Tryz.underlying4 (bne_self_eq_false _)), (ok_load25 (fun w hw => (hw.2.2.2.1))), (ok_load25 (fun w hw => (hw.2.2.1))), (ok_neq25 (by simp)), (ok_neq_bool Tryz.underlying4 (bne_self_eq_false _)), (ok_load25 (fun w hw => (hw.2.1))), (ok_load25 (fun w hw => (hw.1))), (ok_neq25 (by simp)), (ok_neq_bool Tryz.underlying4 (bne_self_eq_false _)), (ok_neq_str (by simp)), (ok_load25 (fun w hw => (hw.2.2.2.2.2.1))), ⟨⟨_, Tryz.func16, by kernel_rfl, by kernel_rfl⟩, fun w hw => FS6.stays.calls hw (impl_IsPlate.calls _ _ _ _ (H.f14_51))⟩, (ok_neq_bool Tryz.underlying4 (bne_self_eq_false _)), (ok_load25 (fun w hw => (hw.2.2.2.2.2.1))), ⟨⟨_, Tryz.func16, by kernel_rfl, by kernel_rfl⟩, fun w hw => FS6.stays.calls hw (impl_IsPlate.calls _ _ _ _ (H.f14_56))⟩, (ok_load25 (fun w hw => (hw.2.2.2.2.2.1))), ⟨⟨_, Tryz.func17, by kernel_rfl, by kernel_rfl⟩, fun w hw => FS6.stays.calls hw (spec_IsPlate.calls _ _ _ _ (H.f14_58))⟩, (ok_neq_bool Tryz.underlying4 (bne_self_eq_false _)), (ok_lss_int (decide_eq_false hx1)), (ok_neq_bool Tryz.underlying4 (bne_self_eq_false _)), (ok_neq_bool Tryz.underlying4 (bne_self_eq_false _)), trivial⟩ h hw ?_
        clear h hw
        intro a w h hw
        show Code.wp _ (Code.cond (tm 220) B2 Code.skip) _ _ _
        refine wp_cond_false (h.opd (by kernel_rfl)) ?_
        refine wp_skip ?_
        exact t70 H (h.cut (by kernel_rfl)) (let ⟨_,p,_,q⟩ := hw; ⟨p,q⟩)
      | false =>
        refine region_ (K := [(1, (vS A1 l1 c1)), (5, (vP g5)), (6, (vP g6)), (7, (vI cn)), (11, (vI od)), (12, (vB true)), (15, (vP g15)), (16, (vB false)), (19, (vP g19)), (20, (vB false)), (23, (.string tx)), (24, (vB sv)), (220, (vB false))]) (obs := [cB .neq 135 136 false false false, cI .neq 139 140 cn cn false, cB .neq 144 145 true true false, cI .neq 149 150 od od false, cB .neq 154 155 false false false, lS 25 15 g15 m0 m1, lS 25 17 g17 m0 m1, .op (Op.binOp BinOp.neq 25 (tm 159) (tm 160) 25) 4 [((tm 159), (vA m0 m1)), ((tm 160), (vA m0 m1))] (vB false), cB .neq 164 165 false false false, lS 25 19 g19 n0 n1, lS 25 21 g21 n0 n1, .op (Op.binOp BinOp.neq 25 (tm 169) (tm 170) 25) 4 [((tm 169), (vA n0 n1)), ((tm 170), (vA n0 n1))] (vB false), cB .neq 174 175 sv sv false, .op (Op.binOp BinOp.neq 9 (tm 179) (tm 180) 9) 4 [((tm 179), (.string tx)), ((tm 180), (.string tx))] (vB false), lS 25 5 g5 a0 a1, .call 16 [(vA a0 a1)] (vB sv), cB .neq 184 186 sv sv false, lS 25 5 g5 a0 a1, .call 16 [(vA a0 a1)] (vB sv), lS 25 5 g5 a0 a1, .call 17 [(vA a0 a1)] (vB sv), cB .neq 191 193 sv sv false, cK .lss 200 od 0 false, cB .neq 197 202 false false false, cB .neq 206 211 false false false]) (by kernel_rfl) mix lex14 FS6.stays ⟨(ok_neq_bool Tryz.underlying4 (bne_self_eq_false _)), (ok_neq_int (bne_self_eq_false _)), (ok_neq_bool Tryz.underlying4 (bne_self_eq_false _)), (ok_neq_int (bne_self_eq_false _)), (ok_neq_bool Tryz.underlying4 (bne_self_eq_false _)), (ok_load25 (fun w hw => (hw.2.2.2.1))), (ok_load25 (fun w hw => (hw.2.2.1))), (ok_neq25 (by simp)), (ok_neq_bool Tryz.underlying4 (bne_self_eq_false _)), (ok_load25 (fun w hw => (hw.2.1))), (ok_load25 (fun w hw => (hw.1))), (ok_neq25 (by simp)), (ok_neq_bool Tryz.underlying4 (bne_self_eq_false _)), (ok_neq_str (by simp)), (ok_load25 (fun w hw => (hw.2.2.2.2.2.1))), ⟨⟨_, Tryz.func16, by kernel_rfl, by kernel_rfl⟩, fun w hw => FS6.stays.calls hw (impl_IsPlate.calls _ _ _ _ (H.f14_51))⟩, (ok_neq_bool Tryz.underlying4 (bne_self_eq_false _)), (ok_load25 (fun w hw => (hw.2.2.2.2.2.1))), ⟨⟨_, Tryz.func16, by kernel_rfl, by kernel_rfl⟩, fun w hw => FS6.stays.calls hw (impl_IsPlate.calls _ _ _ _ (H.f14_56))⟩, (ok_load25 (fun w hw => (hw.2.2.2.2.2.1))), ⟨⟨_, Tryz.func17, by kernel_rfl, by kernel_rfl⟩, fun w hw => FS6.stays.calls hw (spec_IsPlate.calls _ _ _ _ (H.f14_58))⟩, (ok_neq_bool Tryz.underlying4 (bne_self_eq_false _)), (ok_lss_int (decide_eq_false hx1)), (ok_neq_bool Tryz.underlying4 (bne_self_eq_false _)), (ok_neq_bool Tryz.underlying4 (bne_self_eq_false _)), trivial⟩ h hw ?_
        clear h hw
        intro a w h hw
        show Code.wp _ (Code.cond (tm 220) B2 Code.skip) _ _ _
        refine wp_cond_false (h.opd (by kernel_rfl)) ?_
        refine wp_skip ?_
        exact t70 H (h.cut (by kernel_rfl)) (let ⟨_,p,_,q⟩ := hw; ⟨p,q⟩)
  | false =>
    obtain rfl : ok = false := H.hcmp.trans (by simp)
    obtain rfl : thr = false := H.hmid.trans (by simp)
    cases fv with
    | true =>
      obtain rfl : sv = true := H.hfs rfl
      refine region_ (K := [(1, (vS A1 l1 c1)), (5, (vP g5)), (6, (vP g6)), (7, (vI cn)), (11, (vI od)), (12, (vB false)), (15, (vP g15)), (16, (vB false)), (19, (vP g19)), (20, (vB true)), (23, (.string tx)), (24, (vB true)), (220, (vB false))]) (obs := [cB .neq 135 136 false false false, cI .neq 139 140 cn cn false, cB .neq 144 145 false false false, cI .neq 149 150 od od false, cB .neq 154 155 false false false, lS 25 15 g15 m0 m1, lS 25 17 g17 m0 m1, .op (Op.binOp BinOp.neq 25 (tm 159) (tm 160) 25) 4 [((tm 159), (vA m0 m1)), ((tm 160), (vA m0 m1))] (vB false), cB .neq 164 165 true true false, lS 25 19 g19 n0 n1, lS 25 21 g21 n0 n1, .op (Op.binOp BinOp.neq 25 (tm 169) (tm 170) 25) 4 [((tm 169), (vA n0 n1)), ((tm 170), (vA n0 n1))] (vB false), cB .neq 174 175 true true false, .op (Op.binOp BinOp.neq 9 (tm 179) (tm 180) 9) 4 [((tm 179), (.string tx)), ((tm 180), (.string tx))] (vB false), lS 25 5 g5 a0 a1, .call 16 [(vA a0 a1)] (vB true), cB .neq 184 186 true true false, lS 25 5 g5 a0 a1, .call 16 [(vA a0 a1)] (vB true), lS 25 5 g5 a0 a1, .call 17 [(vA a0 a1)] (vB true), cB .neq 191 193 true true false, cB .neq 197 202 false false false, cB .neq 206 211 false false false]) (by kernel_rfl) mix lex14 FS6.stays ⟨(ok_neq_bool Tryz.underlying4 (bne_self_eq_false _)), (ok_neq_int (bne_self_eq_false _)), (ok_neq_bool Tryz.underlying4 (bne_self_eq_false _)), (ok_neq_int (bne_self_eq_false _)), (ok_neq_bool Tryz.underlying4 (bne_self_eq_false _)), (ok_load25 (fun w hw => (hw.2.2.2.1))), (ok_load25 (fun w hw => (hw.2.2.1))), (ok_neq25 (by simp)), (ok_neq_bool Tryz.underlying4 (bne_self_eq_false _)), (ok_load25 (fun w hw => (hw.2.1))), (ok_load25 (fun w hw => (hw.1))), (ok_neq25 (by simp)), (ok_neq_bool Tryz.underlying4 (bne_self_eq_false _)), (ok_neq_str (by simp)), (ok_load25 (fun w hw => (hw.2.2.2.2.2.1))), ⟨⟨_, Tryz.func16, by kernel_rfl, by kernel_rfl⟩, fun w hw => FS6.stays.calls hw (impl_IsPlate.calls _ _ _ _ (H.f14_51))⟩, (ok_neq_bool Tryz.underlying4 (bne_self_eq_false _)), (ok_load25 (fun w hw => (hw.2.2.2.2.2.1))), ⟨⟨_, Tryz.func16, by kernel_rfl, by kernel_rfl⟩, fun w hw => FS6.stays.calls hw (impl_IsPlate.calls _ _ _ _ (H.f14_56))⟩, (ok_load25 (fun w hw => (hw.2.2.2.2.2.1))), ⟨⟨_, Tryz.func17, by kernel_rfl, by kernel_rfl⟩, fun w hw => FS6.stays.calls hw (spec_IsPlate.calls _ _ _ _ (H.f14_58))⟩, (ok_neq_bool Tryz.underlying4 (bne_self_eq_false _)), (ok_neq_bool Tryz.underlying4 (bne_self_eq_false _)), (ok_neq_bool Tryz.underlying4 (bne_self_eq_false _)), trivial⟩ h hw ?_
      clear h hw
      intro a w h hw
      show Code.wp _ (Code.cond (tm 220) B2 Code.skip) _ _ _
      refine wp_cond_false (h.opd (by kernel_rfl)) ?_
      refine wp_skip ?_
      exact t70 H (h.cut (by kernel_rfl)) (let ⟨_,p,_,q⟩ := hw; ⟨p,q⟩)
    | false =>
      refine region_ (K := [(1, (vS A1 l1 c1)), (5, (vP g5)), (6, (vP g6)), (7, (vI cn)), (11, (vI od)), (12, (vB false)), (15, (vP g15)), (16, (vB false)), (19, (vP g19)), (20, (vB false)), (23, (.string tx)), (24, (vB sv)), (220, (vB false))]) (obs := [cB .neq 135 136 false false false, cI .neq 139 140 cn cn false, cB .neq 144 145 false false false, cI .neq 149 150 od od false, cB .neq 154 155 false false false, lS 25 15 g15 m0 m1, lS 25 17 g17 m0 m1, .op (Op.binOp BinOp.neq 25 (tm 159) (tm 160) 25) 4 [((tm 159), (vA m0 m1)), ((tm 160), (vA m0 m1))] (vB false), cB .neq 164 165 false false false, lS 25 19 g19 n0 n1, lS 25 21 g21 n0 n1, .op (Op.binOp BinOp.neq 25 (tm 169) (tm 170) 25) 4 [((tm 169), (vA n0 n1)), ((tm 170), (vA n0 n1))] (vB false), cB .neq 174 175 sv sv false, .op (Op.binOp BinOp.neq 9 (tm 179) (tm 180) 9) 4 [((tm 179), (.string tx)), ((tm 180), (.string tx))] (vB false), lS 25 5 g5 a0 a1, .call 16 [(vA a0 a1)] (vB sv), cB .neq 184 186 sv sv false, lS 25 5 g5 a0 a1, .call 16 [(vA a0 a1)] (vB sv), lS 25 5 g5 a0 a1, .call 17 [(vA a0 a1)] (vB sv), cB .neq 191 193 sv sv false, cB .neq 197 202 false false false, cB .neq 206 211 false false false]) (by kernel_rfl) mix lex14 FS6.stays ⟨(ok_neq_bool Tryz.underlying4 (bne_self_eq_false _)), (ok_neq_int (bne_self_eq_false _)), (ok_neq_bool Tryz.underlying4 (bne_self_eq_false _)), (ok_neq_int (bne_self_eq_false _)), (ok_neq_bool Tryz.underlying4 (bne_self_eq_false _)), (ok_load25 (fun w hw => (hw.2.2.2.1))), (ok_load25 (fun w hw => (hw.2.2.1))), (ok_neq25 (by simp)), (ok_neq_bool Tryz.underlying4 (bne_self_eq_false _)), (ok_load25 (fun w hw => (hw.2.1))), (ok_load25 (fun w hw => (hw.1))), (ok_neq25 (by simp)), (ok_neq_bool Tryz.underlying4 (bne_self_eq_false _)), (ok_neq_str (by simp)), (ok_load25 (fun w hw => (hw.2.2.2.2.2.1))), ⟨⟨_, Tryz.func16, by kernel_rfl, by kernel_rfl⟩, fun w hw => FS6.stays.calls hw (impl_IsPlate.calls _ _ _ _ (H.f14_51))⟩, (ok_neq_bool Tryz.underlying4 (bne_self_eq_false _)), (ok_load25 (fun w hw => (hw.2.2.2.2.2.1))), ⟨⟨_, Tryz.func16, by kernel_rfl, by kernel_rfl⟩, fun w hw => FS6.stays.calls hw (impl_IsPlate.calls _ _ _ _ (H.f14_56))⟩, (ok_load25 (fun w hw => (hw.2.2.2.2.2.1))), ⟨⟨_, Tryz.func17, by kernel_rfl, by kernel_rfl⟩, fun w hw => FS6.stays.calls hw (spec_IsPlate.calls _ _ _ _ (H.f14_58))⟩, (ok_neq_bool Tryz.underlying4 (bne_self_eq_false _)), (ok_neq_bool Tryz.underlying4 (bne_self_eq_false _)), (ok_neq_bool Tryz.underlying4 (bne_self_eq_false _)), trivial⟩ h hw ?_
      clear h hw
      intro a w h hw
      show Code.wp _ (Code.cond (tm 220) B2 Code.skip) _ _ _
      refine wp_cond_false (h.opd (by kernel_rfl)) ?_
      refine wp_skip ?_
      exact t70 H (h.cut (by kernel_rfl)) (let ⟨_,p,_,q⟩ := hw; ⟨p,q⟩)
theorem t72 (H : Facts kk l0 l1 a0 a1 b0 b1 cn ok od one m0 m1 thr n0 n1 fv tx sv ba x1 y1 ls tt nin ga nm ds re1 fif dt p0 p1 svt la la2 fa fa2) {a : Act} {w : World} (h : Has 567 a [(1, (vS A1 l1 c1)), (5, (vP g5)), (6, (vP g6)), (7, (vI cn)), (8, (vB ok)), (9, (vI cn)), (10, (vB ok)), (11, (vI od)), (12, (vB one)), (13, (vI od)), (14, (vB one)), (15, (vP g15)), (16, (vB thr)), (17, (vP g17)), (18, (vB thr)), (19, (vP g19)), (20, (vB fv)), (21, (vP g21)), (22, (vB fv)), (23, (.string tx)), (24, (vB sv))]) (hw : FS6 n0 n1 m0 m1 b0 b1 a0 a1 l1 g21 g19 g17 g15 g6 g5 c1 A1 w0 w) : B72.wp Tryz.prog (Ql w0) a w := by
  refine wp_seq ?_
  exact region_ (obs := [lS 25 5 g5 a0 a1, .call 15 [(vA a0 a1)] (.tuple #[(.string tx), (vB sv)])]) (by kernel_rfl) mix rfl FS6.stays ⟨(ok_load25 (fun w hw => (hw.2.2.2.2.2.1))), ⟨⟨_, Tryz.func15, by kernel_rfl, by kernel_rfl⟩, fun w hw => FS6.stays.calls hw (spec_PlateText.calls _ _ _ _ _ _ (H.f13_1))⟩, trivial⟩ h hw fun a w h hw => t71 H h hw
theorem t73 (H : Facts kk l0 l1 a0 a1 b0 b1 cn ok od one m0 m1 thr n0 n1 fv tx sv ba x1 y1 ls tt nin ga nm ds re1 fif dt p0 p1 svt la la2 fa fa2) {a : Act} {w : World} (h : Has 567 a [(1, (vS A1 l1 c1)), (5, (vP g5)), (6, (vP g6)), (7, (vI cn)), (8, (vB ok)), (9, (vI cn)), (10, (vB ok)), (11, (vI od)), (12, (vB one)), (13, (vI od)), (14, (vB one)), (15, (vP g15)), (16, (vB thr)), (17, (vP g17)), (18, (vB thr)), (19, (vP g19)), (20, (vB fv)), (21, (vP g21)), (22, (vB fv))]) (hw : FS6 n0 n1 m0 m1 b0 b1 a0 a1 l1 g21 g19 g17 g15 g6 g5 c1 A1 w0 w) : B73.wp Tryz.prog (Ql w0) a w := by
  refine wp_seq ?_
  exact region_ (obs := [lS 25 5 g5 a0 a1, .call 14 [(vA a0 a1)] (.tuple #[(.string tx), (vB sv)])]) (by kernel_rfl) mix rfl FS6.stays ⟨(ok_load25 (fun w hw => (hw.2.2.2.2.2.1))), ⟨⟨_, Tryz.func14, by kernel_rfl, by kernel_rfl⟩, fun w hw => FS6.stays.calls hw (impl_PlateText.calls _ _ _ _ _ (H.f12_1) (hw.2.2.2.2.2.2.2.1))⟩, trivial⟩ h hw fun a w h hw => t72 H h hw
theorem t74 (H : Facts kk l0 l1 a0 a1 b0 b1 cn ok od one m0 m1 thr n0 n1 fv tx sv ba x1 y1 ls tt nin ga nm ds re1 fif dt p0 p1 svt la la2 fa fa2) {a : Act} {w : World} (h : Has 567 a [(1, (vS A1 l1 c1)), (5, (vP g5)), (6, (vP g6)), (7, (vI cn)), (8, (vB ok)), (9, (vI cn)), (10, (vB ok)), (11, (vI od)), (12, (vB one)), (13, (vI od)), (14, (vB one)), (15, (vP g15)), (16, (vB thr)), (17, (vP g17)), (18, (vB thr)), (19, (vP g19)), (20, (vB fv))]) (hw : FS5 n0 n1 m0 m1 b0 b1 a0 a1 l1 g19 g17 g15 g6 g5 c1 A1 w0 w) : B74.wp Tryz.prog (Ql w0) a w := by
  refine wp_seq ?_
  refine region_list ?_
  refine quiet_ 0 5 5 (K := [(1, (vS A1 l1 c1)), (5, (vP g5)), (6, (vP g6)), (7, (vI cn)), (8, (vB ok)), (9, (vI cn)), (10, (vB ok)), (11, (vI od)), (12, (vB one)), (13, (vI od)), (14, (vB one)), (15, (vP g15)), (16, (vB thr)), (17, (vP g17)), (18, (vB thr)), (19, (vP g19)), (20, (vB fv)), (123, (vA n0 n1)), (124, (vB fv))]) (obs := [lS 25 5 g5 a0 a1, .call 13 [(vA a0 a1)] (.tuple #[(vA n0 n1), (vB fv)])]) (by kernel_rfl) rfl ⟨(ok_load25 (fun w hw => (hw.2.2.2.2.1))), ⟨⟨_, Tryz.func13, by kernel_rfl, by kernel_rfl⟩, fun w hw => FS5.stays.calls hw (spec_NextPlate.calls _ _ _ _ _ _ _ (H.f11_1))⟩, trivial⟩ h hw ?_
  clear h hw
  intro a w h hw
  replace hw : Pend (FS5 n0 n1 m0 m1 b0 b1 a0 a1 l1 g19 g17 g15 g6 g5 c1 A1 w0) [] w := Pend.start hw
  refine alloc25 (F := FS5 n0 n1 m0 m1 b0 b1 a0 a1 l1 g19 g17 g15 g6 g5 c1 A1 w0) (bs := []) 5 6 (d := 21) (by kernel_rfl) rfl h hw ?_
  clear h hw
  intro g21 a w h hw
  refine store25 (F := FS5 n0 n1 m0 m1 b0 b1 a0 a1 l1 g19 g17 g15 g6 g5 c1 A1 w0) (bs := [(g21, .cells #[(vI 0), (vI 0)] 25 (0, 0))]) 6 7 0 (g := g21) (y := n0) (z := n1) (u := 0) (v := 0) (by kernel_rfl) rfl rfl h hw ?_
  clear h hw
  intro a w h hw
  replace hw : Pend (FS5 n0 n1 m0 m1 b0 b1 a0 a1 l1 g19 g17 g15 g6 g5 c1 A1 w0) [(g21, .cells #[(vI n0), (vI n1)] 25 (0, 0))] w := hw
  have hp_ := Pend.out FS5.stays hw
  replace hw : FS6 n0 n1 m0 m1 b0 b1 a0 a1 l1 g21 g19 g17 g15 g6 g5 c1 A1 w0 w := ⟨hp_.2 0 _ rfl, hp_.1⟩
  clear hp_
  exact quiet_ 7 1 8 (obs := []) (by kernel_rfl) rfl trivial h hw fun a w h hw => end_ (by kernel_rfl) (t73 H h hw)
theorem t75 (H : Facts kk l0 l1 a0 a1 b0 b1 cn ok od one m0 m1 thr n0 n1 fv tx sv ba x1 y1 ls tt nin ga nm ds re1 fif dt p0 p1 svt la la2 fa fa2) {a : Act} {w : World} (h : Has 567 a [(1, (vS A1 l1 c1)), (5, (vP g5)), (6, (vP g6)), (7, (vI cn)), (8, (vB ok)), (9, (vI cn)), (10, (vB ok)), (11, (vI od)), (12, (vB one)), (13, (vI od)), (14, (vB one)), (15, (vP g15)), (16, (vB thr)), (17, (vP g17)), (18, (vB thr))]) (hw : FS4 m0 m1 b0 b1 a0 a1 l1 g17 g15 g6 g5 c1 A1 w0 w) : B75.wp Tryz.prog (Ql w0) a w := by
  refine wp_seq ?_
  refine region_list ?_
  refine quiet_ 0 5 5 (K := [(1, (vS A1 l1 c1)), (5, (vP g5)), (6, (vP g6)), (7, (vI cn)), (8, (vB ok)), (9, (vI cn)), (10, (vB ok)), (11, (vI od)), (12, (vB one)), (13, (vI od)), (14, (vB one)), (15, (vP g15)), (16, (vB thr)), (17, (vP g17)), (18, (vB thr)), (118, (vA n0 n1)), (119, (vB fv))]) (obs := [lS 25 5 g5 a0 a1, .call 12 [(vA a0 a1)] (.tuple #[(vA n0 n1), (vB fv)])]) (by kernel_rfl) rfl ⟨(ok_load25 (fun w hw => (hw.2.2.2.1))), ⟨⟨_, Tryz.func12, by kernel_rfl, by kernel_rfl⟩, fun w hw => FS4.stays.calls hw (impl_NextPlate.calls _ _ _ _ _ _ _ (H.f10_1))⟩, trivial⟩ h hw ?_
  clear h hw
  intro a w h hw
  replace hw : Pend (FS4 m0 m1 b0 b1 a0 a1 l1 g17 g15 g6 g5 c1 A1 w0) [] w := Pend.start hw
  refine alloc25 (F := FS4 m0 m1 b0 b1 a0 a1 l1 g17 g15 g6 g5 c1 A1 w0) (bs := []) 5 6 (d := 19) (by kernel_rfl) rfl h hw ?_
  clear h hw
  intro g19 a w h hw
  refine store25 (F := FS4 m0 m1 b0 b1 a0 a1 l1 g17 g15 g6 g5 c1 A1 w0) (bs := [(g19, .cells #[(vI 0), (vI 0)] 25 (0, 0))]) 6 7 0 (g := g19) (y := n0) (z := n1) (u := 0) (v := 0) (by kernel_rfl) rfl rfl h hw ?_
  clear h hw
  intro a w h hw
  replace hw : Pend (FS4 m0 m1 b0 b1 a0 a1 l1 g17 g15 g6 g5 c1 A1 w0) [(g19, .cells #[(vI n0), (vI n1)] 25 (0, 0))] w := hw
  have hp_ := Pend.out FS4.stays hw
  replace hw : FS5 n0 n1 m0 m1 b0 b1 a0 a1 l1 g19 g17 g15 g6 g5 c1 A1 w0 w := ⟨hp_.2 0 _ rfl, hp_.1⟩
  clear hp_
  exact quiet_ 7 1 8 (obs := []) (by kernel_rfl) rfl trivial h hw fun a w h hw => end_ (by kernel_rfl) (t74 H h hw)
theorem t76 (H : Facts kk l0 l1 a0 a1 b0 b1 cn ok od one m0 m1 thr n0 n1 fv tx sv ba x1 y1 ls tt nin ga nm ds re1 fif dt p0 p1 svt la la2 fa fa2) {a : Act} {w : World} (h : Has 567 a [(1, (vS A1 l1 c1)), (5, (vP g5)), (6, (vP g6)), (7, (vI cn)), (8, (vB ok)), (9, (vI cn)), (10, (vB ok)), (11, (vI od)), (12, (vB one)), (13, (vI od)), (14, (vB one)), (15, (vP g15)), (16, (vB thr))]) (hw : FS3 m0 m1 b0 b1 a0 a1 l1 g15 g6 g5 c1 A1 w0 w) : B76.wp Tryz.prog (Ql w0) a w := by
  refine wp_seq ?_
  refine region_list ?_
  refine quiet_ 0 6 6 (K := [(1, (vS A1 l1 c1)), (5, (vP g5)), (6, (vP g6)), (7, (vI cn)), (8, (vB ok)), (9, (vI cn)), (10, (vB ok)), (11, (vI od)), (12, (vB one)), (13, (vI od)), (14, (vB one)), (15, (vP g15)), (16, (vB thr)), (113, (vA m0 m1)), (114, (vB thr))]) (obs := [lS 25 5 g5 a0 a1, lS 25 6 g6 b0 b1, .call 11 [(vA a0 a1), (vA b0 b1)] (.tuple #[(vA m0 m1), (vB thr)])]) (by kernel_rfl) rfl ⟨(ok_load25 (fun w hw => (hw.2.2.1))), (ok_load25 (fun w hw => (hw.2.1))), ⟨⟨_, Tryz.func11, by kernel_rfl, by kernel_rfl⟩, fun w hw => FS3.stays.calls hw (spec_MiddlePlate.calls _ _ _ _ _ _ _ _ _ (H.f9_2))⟩, trivial⟩ h hw ?_
  clear h hw
  intro a w h hw
  replace hw : Pend (FS3 m0 m1 b0 b1 a0 a1 l1 g15 g6 g5 c1 A1 w0) [] w := Pend.start hw
  refine alloc25 (F := FS3 m0 m1 b0 b1 a0 a1 l1 g15 g6 g5 c1 A1 w0) (bs := []) 6 7 (d := 17) (by kernel_rfl) rfl h hw ?_
  clear h hw
  intro g17 a w h hw
  refine store25 (F := FS3 m0 m1 b0 b1 a0 a1 l1 g15 g6 g5 c1 A1 w0) (bs := [(g17, .cells #[(vI 0), (vI 0)] 25 (0, 0))]) 7 8 0 (g := g17) (y := m0) (z := m1) (u := 0) (v := 0) (by kernel_rfl) rfl rfl h hw ?_
  clear h hw
  intro a w h hw
  replace hw : Pend (FS3 m0 m1 b0 b1 a0 a1 l1 g15 g6 g5 c1 A1 w0) [(g17, .cells #[(vI m0), (vI m1)] 25 (0, 0))] w := hw
  have hp_ := Pend.out FS3.stays hw
  replace hw : FS4 m0 m1 b0 b1 a0 a1 l1 g17 g15 g6 g5 c1 A1 w0 w := ⟨hp_.2 0 _ rfl, hp_.1⟩
  clear hp_
  exact quiet_ 8 1 9 (obs := []) (by kernel_rfl) rfl trivial h hw fun a w h hw => end_ (by kernel_rfl) (t75 H h hw)
theorem t77 (H : Facts kk l0 l1 a0 a1 b0 b1 cn ok od one m0 m1 thr n0 n1 fv tx sv ba x1 y1 ls tt nin ga nm ds re1 fif dt p0 p1 svt la la2 fa fa2) {a : Act} {w : World} (h : Has 567 a [(1, (vS A1 l1 c1)), (5, (vP g5)), (6, (vP g6)), (7, (vI cn)), (8, (vB ok)), (9, (vI cn)), (10, (vB ok)), (11, (vI od)), (12, (vB one)), (13, (vI od)), (14, (vB one))]) (hw : FS2 b0 b1 a0 a1 l1 g6 g5 c1 A1 w0 w) : B77.wp Tryz.prog (Ql w0) a w := by
  refine wp_seq ?_
  refine region_list ?_
  refine quiet_ 0 6 6 (K := [(1, (vS A1 l1 c1)), (5, (vP g5)), (6, (vP g6)), (7, (vI cn)), (8, (vB ok)), (9, (vI cn)), (10, (vB ok)), (11, (vI od)), (12, (vB one)), (13, (vI od)), (14, (vB one)), (107, (vA m0 m1)), (108, (vB thr))]) (obs := [lS 25 5 g5 a0 a1, lS 25 6 g6 b0 b1, .call 10 [(vA a0 a1), (vA b0 b1)] (.tuple #[(vA m0 m1), (vB thr)])]) (by kernel_rfl) rfl ⟨(ok_load25 (fun w hw => (hw.2.1))), (ok_load25 (fun w hw => (hw.1))), ⟨⟨_, Tryz.func10, by kernel_rfl, by kernel_rfl⟩, fun w hw => FS2.stays.calls hw (impl_MiddlePlate.calls _ _ _ _ _ _ _ _ _ (H.f8_2))⟩, trivial⟩ h hw ?_
  clear h hw
  intro a w h hw
  replace hw : Pend (FS2 b0 b1 a0 a1 l1 g6 g5 c1 A1 w0) [] w := Pend.start hw
  refine alloc25 (F := FS2 b0 b1 a0 a1 l1 g6 g5 c1 A1 w0) (bs := []) 6 7 (d := 15) (by kernel_rfl) rfl h hw ?_
  clear h hw
  intro g15 a w h hw
  refine store25 (F := FS2 b0 b1 a0 a1 l1 g6 g5 c1 A1 w0) (bs := [(g15, .cells #[(vI 0), (vI 0)] 25 (0, 0))]) 7 8 0 (g := g15) (y := m0) (z := m1) (u := 0) (v := 0) (by kernel_rfl) rfl rfl h hw ?_
  clear h hw
  intro a w h hw
  replace hw : Pend (FS2 b0 b1 a0 a1 l1 g6 g5 c1 A1 w0) [(g15, .cells #[(vI m0), (vI m1)] 25 (0, 0))] w := hw
  have hp_ := Pend.out FS2.stays hw
  replace hw : FS3 m0 m1 b0 b1 a0 a1 l1 g15 g6 g5 c1 A1 w0 w := ⟨hp_.2 0 _ rfl, hp_.1⟩
  clear hp_
  exact quiet_ 8 1 9 (obs := []) (by kernel_rfl) rfl trivial h hw fun a w h hw => end_ (by kernel_rfl) (t76 H h hw)
theorem t78 (H : Facts kk l0 l1 a0 a1 b0 b1 cn ok od one m0 m1 thr n0 n1 fv tx sv ba x1 y1 ls tt nin ga nm ds re1 fif dt p0 p1 svt la la2 fa fa2) {a : Act} {w : World} (h : Has 567 a [(1, (vS A1 l1 c1)), (5, (vP g5)), (6, (vP g6)), (7, (vI cn)), (8, (vB ok)), (9, (vI cn)), (10, (vB ok)), (11, (vI od)), (12, (vB one))]) (hw : FS2 b0 b1 a0 a1 l1 g6 g5 c1 A1 w0 w) : B78.wp Tryz.prog (Ql w0) a w := by
  refine wp_seq ?_
  exact region_ (obs := [lS 25 5 g5 a0 a1, lS 25 6 g6 b0 b1, .call 9 [(vA a0 a1), (vA b0 b1)] (.tuple #[(vI od), (vB one)])]) (by kernel_rfl) mix rfl FS2.stays ⟨(ok_load25 (fun w hw => (hw.2.1))), (ok_load25 (fun w hw => (hw.1))), ⟨⟨_, Tryz.func9, by kernel_rfl, by kernel_rfl⟩, fun w hw => FS2.stays.calls hw (spec_ComparePlates.calls _ _ _ _ _ _ _ _ (H.f7_2))⟩, trivial⟩ h hw fun a w h hw => t77 H h hw
theorem t79 (H : Facts kk l0 l1 a0 a1 b0 b1 cn ok od one m0 m1 thr n0 n1 fv tx sv ba x1 y1 ls tt nin ga nm ds re1 fif dt p0 p1 svt la la2 fa fa2) {a : Act} {w : World} (h : Has 567 a [(1, (vS A1 l1 c1)), (5, (vP g5)), (6, (vP g6)), (7, (vI cn)), (8, (vB ok)), (9, (vI cn)), (10, (vB ok))]) (hw : FS2 b0 b1 a0 a1 l1 g6 g5 c1 A1 w0 w) : B79.wp Tryz.prog (Ql w0) a w := by
  refine wp_seq ?_
  exact region_ (obs := [lS 25 5 g5 a0 a1, lS 25 6 g6 b0 b1, .call 8 [(vA a0 a1), (vA b0 b1)] (.tuple #[(vI od), (vB one)])]) (by kernel_rfl) mix rfl FS2.stays ⟨(ok_load25 (fun w hw => (hw.2.1))), (ok_load25 (fun w hw => (hw.1))), ⟨⟨_, Tryz.func8, by kernel_rfl, by kernel_rfl⟩, fun w hw => FS2.stays.calls hw (impl_ComparePlates.calls _ _ _ _ _ _ _ _ (H.f6_2))⟩, trivial⟩ h hw fun a w h hw => t78 H h hw
theorem t80 (H : Facts kk l0 l1 a0 a1 b0 b1 cn ok od one m0 m1 thr n0 n1 fv tx sv ba x1 y1 ls tt nin ga nm ds re1 fif dt p0 p1 svt la la2 fa fa2) {a : Act} {w : World} (h : Has 567 a [(1, (vS A1 l1 c1)), (5, (vP g5)), (6, (vP g6)), (7, (vI cn)), (8, (vB ok))]) (hw : FS2 b0 b1 a0 a1 l1 g6 g5 c1 A1 w0 w) : B80.wp Tryz.prog (Ql w0) a w := by
  refine wp_seq ?_
  exact region_ (obs := [lS 25 5 g5 a0 a1, lS 25 6 g6 b0 b1, .call 7 [(vA a0 a1), (vA b0 b1)] (.tuple #[(vI cn), (vB ok)])]) (by kernel_rfl) mix rfl FS2.stays ⟨(ok_load25 (fun w hw => (hw.2.1))), (ok_load25 (fun w hw => (hw.1))), ⟨⟨_, Tryz.func7, by kernel_rfl, by kernel_rfl⟩, fun w hw => FS2.stays.calls hw (spec_CountBetween.calls _ _ _ _ _ _ _ _ (H.f5_2))⟩, trivial⟩ h hw fun a w h hw => t79 H h hw
theorem t81 (H : Facts kk l0 l1 a0 a1 b0 b1 cn ok od one m0 m1 thr n0 n1 fv tx sv ba x1 y1 ls tt nin ga nm ds re1 fif dt p0 p1 svt la la2 fa fa2) {a : Act} {w : World} (h : Has 567 a [(1, (vS A1 l1 c1)), (5, (vP g5)), (6, (vP g6))]) (hw : FS2 b0 b1 a0 a1 l1 g6 g5 c1 A1 w0 w) : B81.wp Tryz.prog (Ql w0) a w := by
  refine wp_seq ?_
  exact region_ (obs := [lS 25 5 g5 a0 a1, lS 25 6 g6 b0 b1, .call 6 [(vA a0 a1), (vA b0 b1)] (.tuple #[(vI cn), (vB ok)])]) (by kernel_rfl) mix rfl FS2.stays ⟨(ok_load25 (fun w hw => (hw.2.1))), (ok_load25 (fun w hw => (hw.1))), ⟨⟨_, Tryz.func6, by kernel_rfl, by kernel_rfl⟩, fun w hw => FS2.stays.calls hw (impl_CountBetween.calls _ _ _ _ _ _ _ _ (H.f4_2))⟩, trivial⟩ h hw fun a w h hw => t80 H h hw
theorem t82 (H : Facts kk l0 l1 a0 a1 b0 b1 cn ok od one m0 m1 thr n0 n1 fv tx sv ba x1 y1 ls tt nin ga nm ds re1 fif dt p0 p1 svt la la2 fa fa2) {a : Act} {w : World} (h : Has 567 a [(0, (vS A0 l0 c0)), (1, (vS A1 l1 c1))]) (hw : FS0 l0 l1 c0 c1 A0 A1 w0 w) : B82.wp Tryz.prog (Ql w0) a w := by
  refine wp_seq ?_
  refine region_list ?_
  refine quiet_ 0 5 5 (K := [(1, (vS A1 l1 c1)), (77, (vA a0 a1)), (78, (vA b0 b1))]) (obs := [.call 5 [(vS A0 l0 c0)] (.tuple #[(vA a0 a1), (vA b0 b1)])]) (by kernel_rfl) rfl ⟨⟨⟨_, Tryz.func5, by kernel_rfl, by kernel_rfl⟩, fun w hw => FS0.stays.calls hw (spec_DrawCountBetween.calls _ _ _ _ _ _ _ _ (hw.2.2.1) (hw.2.2.2.1) (H.f3_1))⟩, trivial⟩ h hw ?_
  clear h hw
  intro a w h hw
  replace hw : Pend (FS0 l0 l1 c0 c1 A0 A1 w0) [] w := Pend.start hw
  refine alloc25 (F := FS0 l0 l1 c0 c1 A0 A1 w0) (bs := []) 5 6 (d := 5) (by kernel_rfl) rfl h hw ?_
  clear h hw
  intro g5 a w h hw
  refine alloc25 (F := FS0 l0 l1 c0 c1 A0 A1 w0) (bs := [(g5, .cells #[(vI 0), (vI 0)] 25 (0, 0))]) 6 7 (d := 6) (by kernel_rfl) rfl h hw ?_
  clear h hw
  intro g6 a w h hw
  refine store25 (F := FS0 l0 l1 c0 c1 A0 A1 w0) (bs := [(g6, .cells #[(vI 0), (vI 0)] 25 (0, 0)), (g5, .cells #[(vI 0), (vI 0)] 25 (0, 0))]) 7 8 1 (g := g5) (y := a0) (z := a1) (u := 0) (v := 0) (by kernel_rfl) rfl rfl h hw ?_
  clear h hw
  intro a w h hw
  replace hw : Pend (FS0 l0 l1 c0 c1 A0 A1 w0) [(g6, .cells #[(vI 0), (vI 0)] 25 (0, 0)), (g5, .cells #[(vI a0), (vI a1)] 25 (0, 0))] w := hw
  refine store25 (F := FS0 l0 l1 c0 c1 A0 A1 w0) (bs := [(g6, .cells #[(vI 0), (vI 0)] 25 (0, 0)), (g5, .cells #[(vI a0), (vI a1)] 25 (0, 0))]) 8 9 0 (g := g6) (y := b0) (z := b1) (u := 0) (v := 0) (by kernel_rfl) rfl rfl h hw ?_
  clear h hw
  intro a w h hw
  replace hw : Pend (FS0 l0 l1 c0 c1 A0 A1 w0) [(g6, .cells #[(vI b0), (vI b1)] 25 (0, 0)), (g5, .cells #[(vI a0), (vI a1)] 25 (0, 0))] w := hw
  have hp_ := Pend.out FS0.stays hw
  replace hw : FS1 b0 b1 a0 a1 l0 l1 g6 g5 c0 c1 A0 A1 w0 w := ⟨hp_.2 0 _ rfl, hp_.2 1 _ rfl, hp_.1⟩
  clear hp_
  refine end_ (by kernel_rfl) ?_
  exact t81 H (h.cut (by kernel_rfl)) (let ⟨p,q,r,s,_,_,t⟩ := hw; ⟨p,q,r,s,t⟩)
theorem t83 (H : Facts kk l0 l1 a0 a1 b0 b1 cn ok od one m0 m1 thr n0 n1 fv tx sv ba x1 y1 ls tt nin ga nm ds re1 fif dt p0 p1 svt la la2 fa fa2) (hbig : laws_big.f l0 l1 = some false) {a : Act} {w : World} (h : Has 567 a [(0, (vS A0 l0 c0)), (1, (vS A1 l1 c1))]) (hw : FS0 l0 l1 c0 c1 A0 A1 w0 w) : B83.wp Tryz.prog (Ql w0) a w := by
  refine wp_seq ?_
  refine wp_seq ?_
  refine region_ (K := [(0, (vS A0 l0 c0)), (1, (vS A1 l1 c1)), (73, (vB false))]) (obs := [.call 4 [(vS A0 l0 c0), (vS A1 l1 c1)] (vB false)]) (by kernel_rfl) mix rfl FS0.stays ⟨⟨⟨_, Tryz.func4, by kernel_rfl, by kernel_rfl⟩, fun w hw => FS0.stays.callsD hw (laws_big.calls _ _ _ _ _ _ _ _ (hw.2.2.1) (hw.2.2.2.1) (hw.2.2.2.2.1) (hw.2.2.2.2.2) hbig)⟩, trivial⟩ h hw ?_
  clear h hw
  intro a w h hw
  show Code.wp _ (Code.cond (tm 73) B0 Code.skip) _ _ _
  refine wp_cond_false (h.opd (by kernel_rfl)) ?_
  refine wp_skip ?_
  exact t82 H (h.cut (by kernel_rfl)) hw
theorem t84 (H : Facts kk l0 l1 a0 a1 b0 b1 cn ok od one m0 m1 thr n0 n1 fv tx sv ba x1 y1 ls tt nin ga nm ds re1 fif dt p0 p1 svt la la2 fa fa2) (hbig : laws_big.f l0 l1 = some false) {a : Act} {w : World} (h : Has 567 a [(0, (vS A0 l0 c0)), (1, (vS A1 l1 c1))]) (hw : FS0 l0 l1 c0 c1 A0 A1 w0 w) : B84.wp Tryz.prog (Ql w0) a w := by
  refine wp_seq ?_
  exact region_ (obs := []) (by kernel_rfl) mix rfl FS0.stays trivial h hw fun a w h hw => t83 H hbig h hw
theorem u0T {a : Act} {w : World} (h : Has 567 a []) (hw : FS18 w0 w) : B0.wp Tryz.prog (Exit.then (fun a w => Code.wp Tryz.prog B82 (Ql w0) a w) (Ql w0)) a w := by
  refine wp_seq ?_
  refine region_ (K := [(4, (vB true))]) (obs := []) (by kernel_rfl) mix rfl FS18.stays trivial h hw ?_
  clear h hw
  intro a w h hw
  show Code.wp _ Code.ret _ _ _
  refine wp_ret ?_
  exact post_ h rfl (hw.1)
theorem u83T (hbig : laws_big.f l0 l1 = some true) {a : Act} {w : World} (h : Has 567 a [(0, (vS A0 l0 c0)), (1, (vS A1 l1 c1))]) (hw : FS0 l0 l1 c0 c1 A0 A1 w0 w) : B83.wp Tryz.prog (Ql w0) a w := by
  refine wp_seq ?_
  refine wp_seq ?_
  refine region_ (K := [(0, (vS A0 l0 c0)), (1, (vS A1 l1 c1)), (73, (vB true))]) (obs := [.call 4 [(vS A0 l0 c0), (vS A1 l1 c1)] (vB true)]) (by kernel_rfl) mix rfl FS0.stays ⟨⟨⟨_, Tryz.func4, by kernel_rfl, by kernel_rfl⟩, fun w hw => FS0.stays.callsD hw (laws_big.calls _ _ _ _ _ _ _ _ (hw.2.2.1) (hw.2.2.2.1) (hw.2.2.2.2.1) (hw.2.2.2.2.2) hbig)⟩, trivial⟩ h hw ?_
  clear h hw
  intro a w h hw
  show Code.wp _ (Code.cond (tm 73) B0 Code.skip) _ _ _
  refine wp_cond_true (h.opd (by kernel_rfl)) ?_
  exact u0T (h.cut (by kernel_rfl)) ⟨hw.1, hw.2.1⟩
theorem u84T (hbig : laws_big.f l0 l1 = some true) {a : Act} {w : World} (h : Has 567 a [(0, (vS A0 l0 c0)), (1, (vS A1 l1 c1))]) (hw : FS0 l0 l1 c0 c1 A0 A1 w0 w) : B84.wp Tryz.prog (Ql w0) a w := by
  refine wp_seq ?_
  exact region_ (obs := []) (by kernel_rfl) mix rfl FS0.stays trivial h hw fun a w h hw => u83T hbig h hw
theorem calls_small {kk : Nat} {l0 : List Int} {l1 : List Int} {a0 : Int} {a1 : Int} {b0 : Int} {b1 : Int} {cn : Int} {ok : Bool} {od : Int} {one : Bool} {m0 : Int} {m1 : Int} {thr : Bool} {n0 : Int} {n1 : Int} {fv : Bool} {tx : ByteArray} {sv : Bool} {ba : Int} {x1 : Int} {y1 : Int} {ls : List S25} {tt : ByteArray} {nin : Bool} {ga : List Int} {nm : List S25} {ds : ByteArray} {re1 : List S25} {fif : Bool} {dt : ByteArray} {p0 : Int} {p1 : Int} {svt : Bool} {la : Int} {la2 : Int} {fa : Int} {fa2 : Int} {A0 : Option Addr} {c0 : Nat} {A1 : Option Addr} {c1 : Nat} (H : Facts kk l0 l1 a0 a1 b0 b1 cn ok od one m0 m1 thr n0 n1 fv tx sv ba x1 y1 ls tt nin ga nm ds re1 fif dt p0 p1 svt la la2 fa fa2) (hbig : laws_big.f l0 l1 = some false) (w0 : World) (hV : VarsOK w0) (hr0 : Kd.C (Kd.int .u8) w0 A0 l0.length l0) (hc0 : l0.length ≤ c0) (hr1 : Kd.C (Kd.int .u8) w0 A1 l1.length l1) (hc1 : l1.length ≤ c1) :
    Calls Tryz.prog 3 #[.slice A0 l0.length c0, .slice A1 l1.length c1] w0 fun e w' => e = .returned (.bool true) ∧ Below w0.heap.size w0 w' := by
  refine calls_of_wp Tryz.func3 body_eq ?_
  have h0 : Has 567 { tmps := #[.slice A0 l0.length c0, .slice A1 l1.length c1] ++ Array.replicate (Tryz.f3.ntmps - 2) undef, defers := [] } [(0, (vS A0 l0 c0)), (1, (vS A1 l1 c1))] := by
    refine ⟨by rw [Tryz.ntmps3]; simp, rfl, fun i v hl => ?_⟩
    match i, hl with
    | 0, hl => cases hl; simp
    | 1, hl => cases hl; simp
    | i + 2, hl => cases hl
  have hw0 : FS0 l0 l1 c0 c1 A0 A1 w0 w0 := ⟨Below.refl _ _, hV, hr0, hc0, hr1, hc1⟩
  exact t84 H hbig h0 ⟨hw0.1, hw0.2.1, hw0.2.2.1, hw0.2.2.2.1, hw0.2.2.2.2.1, hw0.2.2.2.2.2⟩
theorem calls_big {l0 : List Int} {l1 : List Int} {A0 : Option Addr} {c0 : Nat} {A1 : Option Addr} {c1 : Nat} (hbig : laws_big.f l0 l1 = some true) (w0 : World) (hV : VarsOK w0) (hr0 : Kd.C (Kd.int .u8) w0 A0 l0.length l0) (hc0 : l0.length ≤ c0) (hr1 : Kd.C (Kd.int .u8) w0 A1 l1.length l1) (hc1 : l1.length ≤ c1) :
    Calls Tryz.prog 3 #[.slice A0 l0.length c0, .slice A1 l1.length c1] w0 fun e w' => e = .returned (.bool true) ∧ Below w0.heap.size w0 w' := by
  refine calls_of_wp Tryz.func3 body_eq ?_
  have h0 : Has 567 { tmps := #[.slice A0 l0.length c0, .slice A1 l1.length c1] ++ Array.replicate (Tryz.f3.ntmps - 2) undef, defers := [] } [(0, (vS A0 l0 c0)), (1, (vS A1 l1 c1))] := by
    refine ⟨by rw [Tryz.ntmps3]; simp, rfl, fun i v hl => ?_⟩
    match i, hl with
    | 0, hl => cases hl; simp
    | 1, hl => cases hl; simp
    | i + 2, hl => cases hl
  have hw0 : FS0 l0 l1 c0 c1 A0 A1 w0 w0 := ⟨Below.refl _ _, hV, hr0, hc0, hr1, hc1⟩
  exact u84T hbig h0 ⟨hw0.1, hw0.2.1, hw0.2.2.1, hw0.2.2.2.1, hw0.2.2.2.2.1, hw0.2.2.2.2.2⟩
end Go.Proofs.YtbnhfipcjbnknaaGreatDoor.GFnPlatesOrder
