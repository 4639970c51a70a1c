/- The walk of the law FnPlatesInserted: where its calls answer as the letters tell, the law's call answers true and leaves what was there. (Written by a program: lawwalk.py.) -/
import Derived.Test.YtbnhfipcjbnknaaK
import Derived.Test.YtbnhfipcjbnknaaPFnPlatesInsertedx11
import Derived.Test.YtbnhfipcjbnknaaPFnPlatesInsertedx13
import Derived.Test.YtbnhfipcjbnknaaPFnPlatesInsertedx14
import Derived.Test.YtbnhfipcjbnknaaPFnPlatesInsertedx15
import Derived.Test.YtbnhfipcjbnknaaPFnPlatesInsertedx16
import Derived.Test.YtbnhfipcjbnknaaPFnPlatesInsertedx17
import Derived.Test.YtbnhfipcjbnknaaPFnPlatesInsertedx18
import Derived.Test.YtbnhfipcjbnknaaPFnPlatesInsertedx2
import Derived.Test.YtbnhfipcjbnknaaPFnPlatesInsertedx5
import Derived.Test.YtbnhfipcjbnknaaPFnPlatesInsertedx6
import Derived.Test.YtbnhfipcjbnknaaPFnPlatesInsertedx8
namespace Go.Proofs.Ytbnhfipcjbnknaa.GFnPlatesInserted
open Go Go.RowKit Go.Proofs.YtbnhfipcjbnknaaW.PrintWords Go.Proofs.YtbnhfipcjbnknaaW.PrintLast Go.Proofs.YtbnhfipcjbnknaaW.PrintMore Go.Proofs.Ytbnhfipcjbnknaa.K Go.Proofs.Ytbnhfipcjbnknaa.PFnPlatesInserted
set_option linter.unusedVariables false
set_option linter.unusedSimpArgs false
set_option maxRecDepth 100000
theorem mix : Try.prog.follows .mixedOrders = true := by kernel_rfl
noncomputable def rg (k : Nat) : List Oper := (opsOf Try.f3 k).toList
noncomputable def R0 := rg 0
noncomputable def R1 := rg 1
noncomputable def R2 := rg 2
noncomputable def R3 := rg 3
noncomputable def R4 := rg 4
noncomputable def R5 := rg 5
noncomputable def R6 := rg 6
noncomputable def R7 := rg 7
noncomputable def R8 := rg 8
noncomputable def R9 := rg 9
noncomputable def R10 := rg 10
noncomputable def R11 := rg 11
noncomputable def R12 := rg 12
noncomputable def R13 := rg 13
noncomputable def R14 := rg 14
noncomputable def R15 := rg 15
noncomputable def R16 := rg 16
noncomputable def R17 := rg 17
noncomputable def R18 := rg 18
noncomputable def R19 := rg 19
noncomputable def R20 := rg 20
noncomputable def R21 := rg 21
noncomputable def R22 := rg 22
noncomputable def R23 := rg 23
noncomputable def R24 := rg 24
noncomputable def R25 := rg 25
noncomputable def R26 := rg 26
noncomputable def R27 := rg 27
noncomputable def R28 := rg 28
noncomputable def R29 := rg 29
noncomputable def R30 := rg 30
noncomputable def R31 := rg 31
noncomputable def R32 := rg 32
noncomputable def R33 := rg 33
noncomputable def R34 := rg 34
noncomputable def R35 := rg 35
noncomputable def R36 := rg 36
noncomputable def R37 := rg 37
noncomputable def R38 := rg 38
noncomputable def R39 := rg 39
noncomputable def R40 := rg 40
noncomputable def R41 := rg 41
noncomputable def R42 := rg 42
noncomputable def R43 := rg 43
noncomputable def R44 := rg 44
noncomputable def R45 := rg 45
noncomputable def R46 := rg 46
noncomputable def R47 := rg 47
noncomputable def R48 := rg 48
noncomputable def R49 := rg 49
noncomputable def R50 := rg 50
noncomputable def R51 := rg 51
noncomputable def R52 := rg 52
noncomputable def R53 := rg 53
noncomputable def R54 := rg 54
noncomputable def R55 := rg 55
noncomputable def R56 := rg 56
noncomputable def R57 := rg 57
noncomputable def R58 := rg 58
noncomputable def R59 := rg 59
noncomputable def R60 := rg 60
noncomputable def R61 := rg 61
noncomputable def R62 := rg 62
noncomputable def R63 := rg 63
noncomputable def R64 := rg 64
noncomputable def R65 := rg 65
noncomputable def R66 := rg 66
noncomputable def R67 := rg 67
noncomputable def R68 := rg 68
theorem lex17 : (!true || Region.lexB .any R17.toArray) = true := lex_of (by kernel_rfl)
theorem lex22 : (!true || Region.lexB .any R22.toArray) = true := lex_of (by kernel_rfl)
theorem lex23 : (!true || Region.lexB .any R23.toArray) = true := lex_of (by kernel_rfl)
theorem lex46 : (!true || Region.lexB .any R46.toArray) = true := lex_of (by kernel_rfl)
noncomputable def B0 : Code := Code.seq (Code.region 2 R2.toArray false) Code.ret
noncomputable def B1 : Code := Code.seq (Code.region 1 R1.toArray false) (Code.cond (Operand.tmp 76) B0 Code.skip)
noncomputable def B2 : Code := Code.seq (Code.region 11 R11.toArray false) Code.ret
noncomputable def B3 : Code := Code.seq (Code.region 10 R10.toArray false) (Code.cond (Operand.tmp 161) B2 Code.skip)
noncomputable def B4 : Code := Code.seq (Code.region 16 R16.toArray false) Code.ret
noncomputable def B5 : Code := Code.seq (Code.region 15 R15.toArray false) (Code.cond (Operand.tmp 199) B4 Code.skip)
noncomputable def B6 : Code := Code.seq (Code.region 14 R14.toArray false) B5
noncomputable def B7 : Code := Code.seq (Code.region 13 R13.toArray false) B6
noncomputable def B8 : Code := Code.seq (Code.region 12 R12.toArray false) (Code.cond (Operand.tmp 162) B7 Code.skip)
noncomputable def B9 : Code := Code.seq (Code.region 18 R18.toArray false) Code.ret
noncomputable def B10 : Code := Code.seq (Code.region 17 R17.toArray true) (Code.cond (Operand.tmp 218) B9 Code.skip)
noncomputable def B11 : Code := Code.seq (Code.region 25 R25.toArray false) Code.ret
noncomputable def B12 : Code := Code.seq (Code.region 24 R24.toArray false) (Code.cond (Operand.tmp 294) B11 Code.skip)
noncomputable def B13 : Code := Code.seq (Code.region 23 R23.toArray true) B12
noncomputable def B14 : Code := Code.seq (Code.region 22 R22.toArray true) B13
noncomputable def B15 : Code := Code.seq (Code.region 21 R21.toArray false) B14
noncomputable def B16 : Code := Code.seq (Code.region 20 R20.toArray false) B15
noncomputable def B17 : Code := Code.seq (Code.region 19 R19.toArray false) (Code.cond (Operand.tmp 219) B16 Code.skip)
noncomputable def B18 : Code := Code.seq (Code.region 42 R42.toArray false) Code.ret
noncomputable def B19 : Code := Code.seq (Code.region 41 R41.toArray false) (Code.cond (Operand.tmp 456) B18 Code.skip)
noncomputable def B20 : Code := Code.seq (Code.region 47 R47.toArray false) Code.ret
noncomputable def B21 : Code := Code.seq (Code.region 46 R46.toArray true) (Code.cond (Operand.tmp 501) B20 Code.skip)
noncomputable def B22 : Code := Code.seq (Code.region 45 R45.toArray false) B21
noncomputable def B23 : Code := Code.seq (Code.region 44 R44.toArray false) B22
noncomputable def B24 : Code := Code.seq (Code.region 43 R43.toArray false) (Code.cond (Operand.tmp 457) B23 Code.skip)
noncomputable def B25 : Code := Code.seq (Code.region 49 R49.toArray false) Code.ret
noncomputable def B26 : Code := Code.seq (Code.region 48 R48.toArray false) (Code.cond (Operand.tmp 523) B25 Code.skip)
noncomputable def B27 : Code := Code.seq (Code.region 53 R53.toArray false) Code.ret
noncomputable def B28 : Code := Code.seq (Code.region 52 R52.toArray false) (Code.cond (Operand.tmp 541) B27 Code.skip)
noncomputable def B29 : Code := Code.seq (Code.region 51 R51.toArray false) B28
noncomputable def B30 : Code := Code.seq (Code.region 50 R50.toArray false) (Code.cond (Operand.tmp 524) B29 Code.skip)
noncomputable def B31 : Code := Code.seq (Code.region 59 R59.toArray false) (Code.cond (Operand.tmp 552) (Code.region 60 R60.toArray false) Code.skip)
noncomputable def B32 : Code := Code.seq (Code.region 58 R58.toArray false) B31
noncomputable def B33 : Code := Code.seq (Code.block 1 B32) (Code.region 61 R61.toArray false)
noncomputable def B34 : Code := Code.seq (Code.cond (Operand.tmp 546) Code.skip (Code.exit 0)) B33
noncomputable def B35 : Code := Code.seq (Code.region 57 R57.toArray false) B34
noncomputable def B36 : Code := Code.seq (Code.region 56 R56.toArray false) (Code.block 0 (Code.loop B35))
noncomputable def B37 : Code := Code.seq (Code.region 63 R63.toArray false) Code.ret
noncomputable def B38 : Code := Code.seq (Code.region 62 R62.toArray false) (Code.cond (Operand.tmp 559) B37 Code.skip)
noncomputable def B39 : Code := Code.seq B36 B38
noncomputable def B40 : Code := Code.seq (Code.region 55 R55.toArray false) B39
noncomputable def B41 : Code := Code.seq (Code.region 54 R54.toArray false) (Code.cond (Operand.tmp 542) B40 Code.skip)
noncomputable def B42 : Code := Code.seq (Code.region 67 R67.toArray false) Code.ret
noncomputable def B43 : Code := Code.seq (Code.region 66 R66.toArray false) (Code.cond (Operand.tmp 589) B42 Code.skip)
noncomputable def B44 : Code := Code.seq (Code.region 65 R65.toArray false) B43
noncomputable def B45 : Code := Code.seq (Code.region 64 R64.toArray false) (Code.cond (Operand.tmp 560) B44 Code.skip)
noncomputable def B46 : Code := Code.seq (Code.region 68 R68.toArray false) Code.ret
noncomputable def B47 : Code := Code.seq B45 B46
noncomputable def B48 : Code := Code.seq B41 B47
noncomputable def B49 : Code := Code.seq B30 B48
noncomputable def B50 : Code := Code.seq B26 B49
noncomputable def B51 : Code := Code.seq B24 B50
noncomputable def B52 : Code := Code.seq B19 B51
noncomputable def B53 : Code := Code.seq (Code.region 40 R40.toArray false) B52
noncomputable def B54 : Code := Code.seq (Code.region 39 R39.toArray false) B53
noncomputable def B55 : Code := Code.seq (Code.region 38 R38.toArray false) B54
noncomputable def B56 : Code := Code.seq (Code.region 37 R37.toArray false) B55
noncomputable def B57 : Code := Code.seq (Code.region 36 R36.toArray false) B56
noncomputable def B58 : Code := Code.seq (Code.region 35 R35.toArray false) B57
noncomputable def B59 : Code := Code.seq (Code.region 34 R34.toArray false) B58
noncomputable def B60 : Code := Code.seq (Code.region 33 R33.toArray false) B59
noncomputable def B61 : Code := Code.seq (Code.region 32 R32.toArray false) B60
noncomputable def B62 : Code := Code.seq (Code.region 31 R31.toArray false) B61
noncomputable def B63 : Code := Code.seq (Code.region 30 R30.toArray false) B62
noncomputable def B64 : Code := Code.seq (Code.region 29 R29.toArray false) B63
noncomputable def B65 : Code := Code.seq (Code.region 28 R28.toArray false) B64
noncomputable def B66 : Code := Code.seq (Code.region 27 R27.toArray false) B65
noncomputable def B67 : Code := Code.seq (Code.region 26 R26.toArray false) B66
noncomputable def B68 : Code := Code.seq B17 B67
noncomputable def B69 : Code := Code.seq B10 B68
noncomputable def B70 : Code := Code.seq B8 B69
noncomputable def B71 : Code := Code.seq B3 B70
noncomputable def B72 : Code := Code.seq (Code.region 9 R9.toArray false) B71
noncomputable def B73 : Code := Code.seq (Code.region 8 R8.toArray false) B72
noncomputable def B74 : Code := Code.seq (Code.region 7 R7.toArray false) B73
noncomputable def B75 : Code := Code.seq (Code.region 6 R6.toArray false) B74
noncomputable def B76 : Code := Code.seq (Code.region 5 R5.toArray false) B75
noncomputable def B77 : Code := Code.seq (Code.region 4 R4.toArray false) B76
noncomputable def B78 : Code := Code.seq (Code.region 3 R3.toArray false) B77
noncomputable def B79 : Code := Code.seq B1 B78
noncomputable def B80 : Code := Code.seq (Code.region 0 R0.toArray false) B79
theorem body_eq : Try.f3.body = some B80 := by kernel_rfl
abbrev Ql (w0 : World) : Exit → Act → World → Prop := bodyPost Try.prog Try.f3 fun e w' => e = .returned (.bool true) ∧ Below w0.heap.size w0 w'
theorem post_ {n : Nat} {a : Act} {L : List (Nat × Value)} {w w0 : World} (h : Has n a L) (hl : K.look L 4 = some (.bool true)) (hb : Below w0.heap.size w0 w) : Ql w0 .ret a w := by
  refine bodyPost_ret (v := .bool true) ?_ h.dfr ⟨rfl, hb⟩
  have h1 := h.at_ 4 _ hl
  have h2 : Try.f3.results = #[.tmp 4] := by kernel_rfl
  unfold results
  rw [h2]
  simp [h1]
theorem wadd_ {i : Nat} (h : i + 1 ≤ 9223372036854775807) : wrap64 ((i : Int) + 1) = ((i + 1 : Nat) : Int) := by
  unfold wrap64
  omega
abbrev lN (T t : Nat) {α : Type} (A : Option Addr) (l : List α) (c : Nat) : Ob := .op (Op.call { callee := (Callee.builtin Builtin.len), args := #[(Operand.tmp t)], argTypes := #[T] }) 3 [((Operand.tmp t), (.slice A l.length c))] (vI (l.length : Int))
abbrev bO (b : BinOp) (s t : Operand) (x y z : Int) : Ob := .op (Op.binOp b 3 s t 3) 3 [(s, vI x), (t, vI y)] (vI z)
theorem sC_ {T : Type} {k : Kd T} {A : Option Addr} {n : Nat} {l : List T} : Stays (fun w => Kd.C k w A n l) := fun w w' h hb => Kd.C_below h hb
theorem sL_ {p : Prop} : Stays (fun _ => p) := fun w w' h hb => h
section
variable {F : World → Prop} {X Y : Operand} {ty t' : TypeId}
theorem ok_load3 {g off : Nat} {z : Int} (h : ∀ w, F w → w.cell? ⟨g, off, none⟩ = some (.int .i64 z)) : Ob.Ok Try.prog F (.op (.load 3 X) ty [(X, .pointer (some ⟨g, off, none⟩))] (.int .i64 z)) := by
  intro ρ o ho ht hρ w hw
  have h1 : ρ X = .pointer (some ⟨g, off, none⟩) := hρ (X, _) (by simp)
  have h2 := h w hw
  have hu := Try.underlying3
  simp [go_sem, ho, h1, h2]
theorem ok_load3p {ad : Addr} {z : Int} (h : ∀ w, F w → w.cell? ad = some (.int .i64 z)) : Ob.Ok Try.prog F (.op (.load 3 X) ty [(X, .pointer (some ad))] (.int .i64 z)) := by
  intro ρ o ho ht hρ w hw
  have h1 : ρ X = .pointer (some ad) := hρ (X, _) (by simp)
  have h2 := h w hw
  have hu := Try.underlying3
  simp [go_sem, ho, h1, h2]
theorem ok_load26 {g : Nat} {t : TypeId} {y z : Int} (h : ∀ w, F w → w.heap[g]? = some (.cells #[.int .i64 y, .int .i64 z] t (0, 0))) : Ob.Ok Try.prog F (.op (.load 26 X) ty [(X, .pointer (some ⟨g, 0, none⟩))] (.agg #[.int .i64 y, .int .i64 z])) := by
  intro ρ o ho ht hρ w hw
  have h1 : ρ X = .pointer (some ⟨g, 0, none⟩) := hρ (X, _) (by simp)
  have h2 : w.cell? ⟨g, 0, none⟩ = some (.int .i64 y) := blk_cell (h w hw) 0
  have h3 : w.cell? ⟨g, 1, none⟩ = some (.int .i64 z) := blk_cell (h w hw) 1
  have hu := Try.underlying26
  have hu3 := Try.underlying3
  simp [go_sem, ho, h1, h2, h3]
theorem ok_fa26_0 {g : Nat} : Ob.Ok Try.prog F (.op (.fieldAddr 26 X 0) ty [(X, .pointer (some ⟨g, 0, none⟩))] (.pointer (some ⟨g, 0, none⟩))) := by
  intro ρ o ho ht hρ w hw
  have h1 : ρ X = .pointer (some ⟨g, 0, none⟩) := hρ (X, _) (by simp)
  have hu := Try.underlying26
  have hu3 := Try.underlying3
  simp [go_sem, ho, h1]
theorem ok_fa26_1 {g : Nat} : Ob.Ok Try.prog F (.op (.fieldAddr 26 X 1) ty [(X, .pointer (some ⟨g, 0, none⟩))] (.pointer (some ⟨g, 1, none⟩))) := by
  intro ρ o ho ht hρ w hw
  have h1 : ρ X = .pointer (some ⟨g, 0, none⟩) := hρ (X, _) (by simp)
  have hu := Try.underlying26
  have hu3 := Try.underlying3
  simp [go_sem, ho, h1]
theorem ok_neq26 {x y x' y' : Int} {b : Bool} (h : (!(x == x' && y == y')) = b) : Ob.Ok Try.prog F (.op (.binOp .neq 26 X Y t') ty [(X, .agg #[.int .i64 x, .int .i64 y]), (Y, .agg #[.int .i64 x', .int .i64 y'])] (.bool b)) := by
  intro ρ o ho ht hρ w hw
  have h1 : ρ X = .agg #[.int .i64 x, .int .i64 y] := hρ (X, _) (by simp)
  have h2 : ρ Y = .agg #[.int .i64 x', .int .i64 y'] := hρ (Y, _) (by simp)
  have hu := Try.underlying26
  have hu3 := Try.underlying3
  subst h
  simp [go_sem, ho, h1, h2]
  by_cases c1 : x = x' <;> by_cases c2 : y = y' <;> simp [c1, c2]
theorem ok_eql26 {x y x' y' : Int} {b : Bool} (h : (x == x' && y == y') = b) : Ob.Ok Try.prog F (.op (.binOp .eql 26 X Y t') ty [(X, .agg #[.int .i64 x, .int .i64 y]), (Y, .agg #[.int .i64 x', .int .i64 y'])] (.bool b)) := by
  intro ρ o ho ht hρ w hw
  have h1 : ρ X = .agg #[.int .i64 x, .int .i64 y] := hρ (X, _) (by simp)
  have h2 : ρ Y = .agg #[.int .i64 x', .int .i64 y'] := hρ (Y, _) (by simp)
  have hu := Try.underlying26
  have hu3 := Try.underlying3
  subst h
  simp [go_sem, ho, h1, h2]
  by_cases c1 : x = x' <;> by_cases c2 : y = y' <;> simp [c1, c2]
theorem ok_idx70 {ad : Addr} {n c : Nat} {i : Int} (h0 : 0 ≤ i) (h1 : i < n) : Ob.Ok Try.prog F (.op (.indexAddr 70 X Y) ty [(X, .slice (some ad) n c), (Y, .int .i64 i)] (.pointer (some (ad.add i.toNat)))) := by
  intro ρ o ho ht hρ w hw
  have h2 : ρ X = .slice (some ad) n c := hρ (X, _) (by simp)
  have h3 : ρ Y = .int .i64 i := hρ (Y, _) (by simp)
  have hu := Try.underlying70
  have hu3 := Try.underlying3
  simp [go_sem, ho, h2, h3, h0, h1]
theorem ok_idxe70 {A : Option Addr} {ad : Addr} {n c : Nat} {i : Int} (hA : A = some ad) (h0 : 0 ≤ i) (h1 : i < n) : Ob.Ok Try.prog F (.op (.indexAddr 70 X Y) ty [(X, .slice A n c), (Y, .int .i64 i)] (.pointer (some (ad.add i.toNat)))) := by
  subst hA
  exact ok_idx70 h0 h1
/-- A struct variable is made; it is filled. -/
theorem alloc26 {n : Nat} {ops : List Oper} {a : Act} {L : Env} {bs : List (Nat × Obj)} (i j : Nat) {Q : Exit → Act → World → Prop} {w : World} {d : Tmp}
    (ho : allocOf n 26 ops i = some d) (hj : j = i + 1) (h : Has n a L) (hw : Pend F bs w)
    (hk : ∀ g a' w', Has n a' ((d, .pointer (some ⟨g, 0, none⟩)) :: L) → Pend F ((g, .cells #[.int .i64 0, .int .i64 0] 26 (0, 0)) :: bs) w' → wpList Try.prog ops.toArray Q (ops.drop j) a' w') : wpList Try.prog ops.toArray Q (ops.drop i) a w := by
  subst hj
  obtain ⟨ty1, pos1, af1, rest, ho, hd⟩ := allocOf_spec ho
  have e : ops.drop (i + 1) = rest := by rw [← List.drop_drop, ho]; rfl
  rw [e] at hk
  rw [ho]
  have hu := Try.underlying26
  have hu3 := Try.underlying3
  have h1 := h.put (d := some d) (v := .pointer (some ⟨w.heap.size, 0, none⟩)) (L' := (d, .pointer (some ⟨w.heap.size, 0, none⟩)) :: L) (by unfold putE; simp only [hd]; rfl)
  have r1 : (execOp a.eval ⟨some d, .alloc 26, ty1, pos1, af1, none⟩).run Try.prog w = .ok (.value (.pointer (some ⟨w.heap.size, 0, none⟩))) (w.alloc (.cells #[.int .i64 0, .int .i64 0] 26 (0, 0))) := by
    simp [go_sem]
  refine wpList_plain rfl fun K hK => ?_
  unfold Oper.wp
  rw [r1]
  exact hK _ _ (hk w.heap.size _ _ h1 (hw.alloc _))
theorem store26 {n : Nat} {ops : List Oper} {a : Act} {L : Env} {bs : List (Nat × Obj)} (i j k : Nat) {Q : Exit → Act → World → Prop} {w : World} {g : Nat} {y z u v : Int}
    (ho : storeOf 26 ops i L = some (.pointer (some ⟨g, 0, none⟩), .agg #[.int .i64 y, .int .i64 z])) (hj : j = i + 1) (hb : bs[k]? = some (g, .cells #[.int .i64 u, .int .i64 v] 26 (0, 0))) (h : Has n a L) (hw : Pend F bs w)
    (hk : ∀ a' w', Has n a' L → Pend F (bs.set k (g, .cells #[.int .i64 y, .int .i64 z] 26 (0, 0))) w' → wpList Try.prog ops.toArray Q (ops.drop j) a' w') : wpList Try.prog ops.toArray Q (ops.drop i) a w := by
  subst hj
  obtain ⟨ad, x, ty2, pos2, af2, rest, ho, ha, hx⟩ := storeOf_spec ho
  have e : ops.drop (i + 1) = rest := by rw [← List.drop_drop, ho]; rfl
  rw [e] at hk
  rw [ho]
  have hu := Try.underlying26
  have hu3 := Try.underlying3
  have e1 := h.opd ha
  have e2 := h.opd hx
  have kl : k < bs.length := (List.getElem?_eq_some_iff.1 hb).1
  have b0 : w.heap[g]? = some (.cells #[.int .i64 u, .int .i64 v] 26 (0, 0)) := by obtain ⟨wa, _, _, h3, _⟩ := hw; exact (h3 k _ hb).2
  have p1 := hw.put hb 0 (.int .i64 y) (cs' := #[.int .i64 y, .int .i64 v]) rfl
  have hb1 : (bs.set k (g, .cells #[.int .i64 y, .int .i64 v] 26 (0, 0)))[k]? = some (g, .cells #[.int .i64 y, .int .i64 v] 26 (0, 0)) := by rw [List.getElem?_set, if_pos rfl, if_pos kl]
  have p2 := p1.put hb1 1 (.int .i64 z) (cs' := #[.int .i64 y, .int .i64 z]) rfl
  rw [List.set_set] at p2
  have b1 := blk_put b0 0 (.int .i64 y) (cs' := #[.int .i64 y, .int .i64 v]) rfl
  have c0 : w.cell? ⟨g, 0, none⟩ = some (.int .i64 u) := blk_cell b0 0
  have c1 : w.cell? ⟨g, 1, none⟩ = some (.int .i64 v) := blk_cell b0 1
  have c2 : (w.setCell ⟨g, 0, none⟩ (.int .i64 y)).cell? ⟨g, 1, none⟩ = some (.int .i64 v) := blk_cell b1 1
  have f0 : w.frozen? ⟨g, 0, none⟩ = false := blk_frozen b0 0
  have f1 : w.frozen? ⟨g, 1, none⟩ = false := blk_frozen b0 1
  have f2 : (w.setCell ⟨g, 0, none⟩ (.int .i64 y)).frozen? ⟨g, 1, none⟩ = false := blk_frozen b1 1
  have r2 : (execOp a.eval ⟨none, .store 26 ad x, ty2, pos2, af2, none⟩).run Try.prog w = .ok .skip ((w.setCell ⟨g, 0, none⟩ (.int .i64 y)).setCell ⟨g, 1, none⟩ (.int .i64 z)) := by
    generalize a.eval = ρ at e1 e2 ⊢
    simp [go_sem, e1, e2, c0, c1, c2, f0, f1, f2]
  refine wpList_plain rfl fun K hK => ?_
  unfold Oper.wp
  rw [r2]
  exact hK _ _ (hk a _ h p2)
theorem C_some {w : World} {A : Option Addr} {l : List Int} {i : Nat} (h : Kd.C (Kd.int .i64) w A l.length l) (hi : i < l.length) : ∃ ad, A = some ad := by
  obtain ⟨ad, c, e, _⟩ := Kd.C_get h 0 (i : Int) (by omega) (by omega)
  exact ⟨ad, e⟩
theorem C_cell {w : World} {ad : Addr} {l : List Int} {i : Nat} (h : Kd.C (Kd.int .i64) w (some ad) l.length l) (hi : i < l.length) : w.cell? (ad.add (i : Int).toNat) = some (.int .i64 l[i]) := by
  obtain ⟨ad', c, e, hc, hk, hj⟩ := Kd.C_get h 0 (i : Int) (by omega) (by omega)
  injection e with e
  subst e
  have h1 : c = [.int .i64 l[i]] := by
    have := hk
    simpa [Kd.int, Kd.scalar, List.getD_eq_getElem?_getD, List.getElem?_eq_getElem hi] using this
  have := hj 0 (.int .i64 l[i]) (by rw [h1]; rfl)
  simpa [Kd.int, Kd.scalar] using this
end
section
variable {F : World → Prop} {X Y : Operand} {ty t' : TypeId}
theorem P_some {w : World} {A : Option Addr} {l : List S26} {i : Nat} (h : Kd.C k26 w A l.length l) (hi : i < l.length) : ∃ ad, A = some ad := by
  obtain ⟨ad, c, e, _⟩ := Kd.C_get h z26 (i : Int) (by omega) (by omega)
  exact ⟨ad, e⟩
theorem add_add1 (ad : Addr) (n : Nat) : (ad.add n).add 1 = ad.add (n + 1) := by
  unfold Addr.add
  by_cases h : n = 0
  · subst h
    simp
  · simp [h, Nat.add_assoc]
theorem P_cells {w : World} {A : Option Addr} {ad : Addr} {l : List S26} {i : Nat} {x y : Int} (h : Kd.C k26 w A l.length l) (hA : A = some ad) (he : l[i]? = some ⟨x, y⟩) : w.cell? (ad.add (i * 2)) = some (.int .i64 x) ∧ w.cell? ((ad.add (i * 2)).add 1) = some (.int .i64 y) := by
  have hi : i < l.length := (List.getElem?_eq_some_iff.1 he).1
  obtain ⟨ad', c, e, hc, hk, hj⟩ := Kd.C_get h z26 (i : Int) (by omega) (by omega)
  rw [hA] at e
  injection e with e
  subst e
  rw [Int.toNat_natCast, List.getD_eq_getElem?_getD, he] at hk
  have h1 : c = [.int .i64 x, .int .i64 y] := k26_open hk
  rw [Int.toNat_natCast] at hj
  have j0 := hj 0 (.int .i64 x) (by rw [h1]; rfl)
  have j1 := hj 1 (.int .i64 y) (by rw [h1]; rfl)
  rw [add_add1]
  exact ⟨j0, j1⟩
theorem ok_idxe24 {A : Option Addr} {ad : Addr} {n c : Nat} {i : Int} {m : Nat} (hA : A = some ad) (hm : i = (m : Int)) (h1 : m < n) : Ob.Ok Try.prog F (.op (.indexAddr 24 X Y) ty [(X, .slice A n c), (Y, .int .i64 i)] (.pointer (some (ad.add (m * 2))))) := by
  subst hA
  subst hm
  intro ρ o ho ht hρ w hw
  have h2 : ρ X = .slice (some ad) n c := hρ (X, _) (by simp)
  have h3 : ρ Y = .int .i64 m := hρ (Y, _) (by simp)
  have hu := Try.underlying24
  have hu2 := Try.underlying26
  have hu3 := Try.underlying3
  simp [go_sem, ho, h2, h3, h1]
theorem ok_load26p {ad : Addr} {x y : Int} (h : ∀ w, F w → w.cell? ad = some (.int .i64 x) ∧ w.cell? (ad.add 1) = some (.int .i64 y)) : Ob.Ok Try.prog F (.op (.load 26 X) ty [(X, .pointer (some ad))] (.agg #[.int .i64 x, .int .i64 y])) := by
  intro ρ o ho ht hρ w hw
  have h1 : ρ X = .pointer (some ad) := hρ (X, _) (by simp)
  obtain ⟨h2, h3⟩ := h w hw
  have h4 : w.cell? ⟨ad.block, ad.off + 1, none⟩ = some (.int .i64 y) := by
    have := h3
    unfold Addr.add at this
    simpa using this
  have hu := Try.underlying26
  have hu3 := Try.underlying3
  simp [go_sem, ho, h1, h2, h4]
theorem ok_fap26_0 {ad : Addr} : Ob.Ok Try.prog F (.op (.fieldAddr 26 X 0) ty [(X, .pointer (some ad))] (.pointer (some ad))) := by
  intro ρ o ho ht hρ w hw
  have h1 : ρ X = .pointer (some ad) := hρ (X, _) (by simp)
  have hu := Try.underlying26
  have hu3 := Try.underlying3
  simp [go_sem, ho, h1]
theorem ok_fap26_1 {ad : Addr} : Ob.Ok Try.prog F (.op (.fieldAddr 26 X 1) ty [(X, .pointer (some ad))] (.pointer (some (ad.add 1)))) := by
  intro ρ o ho ht hρ w hw
  have h1 : ρ X = .pointer (some ad) := hρ (X, _) (by simp)
  have hu := Try.underlying26
  have hu3 := Try.underlying3
  simp [go_sem, ho, h1]
end
def cntP (nb : Int) (l : List S26) : Int := ((l.filter (fun x => x.f0 == nb)).length : Int)
theorem wsub_ {n : Nat} (h : 1 ≤ n) (h2 : n ≤ 1000) : wrap64 ((n : Int) - 1) = ((n - 1 : Nat) : Int) := by
  unfold wrap64
  omega
theorem wadd1_ {k : Int} (h : 0 ≤ k) (h2 : k < 1000) : wrap64 (k + 1) = k + 1 := by
  unfold wrap64
  omega
theorem getD_eta_ {l : List S26} {i : Nat} (h : i < l.length) : l[i]? = some ⟨(l.getD i z26).f0, (l.getD i z26).f1⟩ := by
  rw [List.getD_eq_getElem?_getD, List.getElem?_eq_getElem h]
  rfl
theorem cnt_t_ {nb : Int} {l : List S26} {i : Nat} (h : i < l.length) (hl : l.length ≤ 9223372036854775807) (e : (l.getD i z26).f0 = nb) : wrap64 (cntP nb (l.take i) + 1) = cntP nb (l.take (i + 1)) := by
  have h1 : cntP nb (l.take (i + 1)) = cntP nb (l.take i) + 1 := by
    unfold cntP
    rw [List.take_succ_eq_append_getElem h, List.filter_append]
    rw [List.getD_eq_getElem?_getD, List.getElem?_eq_getElem h] at e
    simp only [Option.getD_some] at e
    simp [e]
  have h2 : 0 ≤ cntP nb (l.take i) ∧ cntP nb (l.take i) ≤ i := by
    unfold cntP
    have := List.length_filter_le (fun x : S26 => x.f0 == nb) (l.take i)
    rw [List.length_take] at this
    omega
  rw [h1]
  unfold wrap64
  omega
theorem cnt_f_ {nb : Int} {l : List S26} {i : Nat} (h : i < l.length) (e : ¬ (l.getD i z26).f0 = nb) : cntP nb (l.take i) = cntP nb (l.take (i + 1)) := by
  unfold cntP
  rw [List.take_succ_eq_append_getElem h, List.filter_append]
  rw [List.getD_eq_getElem?_getD, List.getElem?_eq_getElem h] at e
  simp only [Option.getD_some] at e
  simp [e]
abbrev tm (t : Nat) : Operand := .tmp t
abbrev vS {α : Type} (A : Option Addr) (l : List α) (c : Nat) : Value := .slice A l.length c
/-- What the law's calls answer, and what the law's tests ask of that. -/
structure Facts (kk : Nat) (l0 : List Int) (l1 : List Int) (ls : List S26) (pn : Int) (pl : Int) (lad : List S26) (ok : Bool) (plc : Int) (one : Bool) (low : List S26) (hig : List S26) (thr : Bool) (at1 : Int) (la : Int) (lb : Int) (ha : Int) (hb1 : Int) (x1 : Int) (y1 : Int) (m1 : List S26) (k1 : Int) (wi : List S26) (fv : Bool) (rm : Int) (sv : Bool) (le : List S26) (nn : Bool) (oa : Int) (ob : Int) (el : Bool) (ln : List S26) (nb : Int) (lt : ByteArray) (tt : Bool) (jc : List S26) (jd : List S26) (jo : List S26) (ff : Bool) (ma : Int) (mb : Int) (na : Int) (nl : Int) : Prop where
  f3_1 : spec_DrawAddPlate.f kk l0 = some (ls, pn, pl)
  f4_2 : impl_AddPlate.f kk ls pn pl = some (lad, ok)
  f5_2 : spec_AddPlate.f kk ls pn pl = some (lad, ok)
  f6_2 : impl_PlaceOfPlate.f kk ls pn pl = some (plc, one)
  f7_2 : spec_PlaceOfPlate.f kk ls pn pl = some (plc, one)
  f8_2 : impl_PartPlates.f kk ls pn pl = some (low, hig, thr)
  f9_2 : spec_PartPlates.f kk ls pn pl = some (low, hig, thr)
  f26_1 : spec_DrawInsertBehind.f kk l1 = some (m1, k1)
  f27_2 : impl_InsertBehind.f kk m1 k1 = some (wi, fv)
  f28_2 : spec_InsertBehind.f kk m1 k1 = some (wi, fv)
  f29_2 : impl_RoomBehind.f kk m1 k1 = some (rm, sv)
  f30_2 : spec_RoomBehind.f kk m1 k1 = some (rm, sv)
  f31_2 : impl_DropPlate.f kk m1 k1 = some (le, nn)
  f32_2 : spec_DropPlate.f kk m1 k1 = some (le, nn)
  f33_2 : impl_OldPlate.f kk m1 k1 = some (oa, ob, el)
  f34_2 : spec_OldPlate.f kk m1 k1 = some (oa, ob, el)
  f35_1 : spec_DrawLettersOf.f kk l1 = some (ln, nb)
  f36_2 : impl_LettersOf.f kk ln nb = some (lt, tt)
  f37_2 : spec_LettersOf.f kk ln nb = some (lt, tt)
  f38_1 : spec_DrawJoinPlates.f kk l1 = some (jc, jd)
  f39_2 : impl_JoinPlates.f kk jc jd = some (jo, ff)
  f40_2 : spec_JoinPlates.f kk jc jd = some (jo, ff)
  f65_2 : ff = true → impl_JoinPlates.f kk jd jc = some (jo, true)
  f66_5 : ff = true → laws_aPlates.f kk jo jo = some true
  f66_20 : ff = true → impl_ArePlates.f kk jo = some true
  f51_5 : nn = true → impl_AddPlate.f kk le ma mb = some (m1, true)
  f52_5 : nn = true → laws_aPlates.f kk m1 m1 = some true
  f44_4 : fv = true → impl_NextPlate.f kk ma mb = some (na, nl, true)
  f45_3 : fv = true → impl_DropPlate.f kk wi (k1 + 1) = some (m1, true)
  f46_26 : fv = true → laws_aPlates.f kk m1 m1 = some true
  f41_6 : laws_aPlates.f kk wi wi = some true
  f41_27 : laws_aPlates.f kk le le = some true
  f41_58 : laws_aPlates.f kk jo jo = some true
  f20_2 : thr = true → impl_JoinPlates.f kk low hig = some (ls, true)
  f21_2 : thr = true → impl_JoinPlates.f kk hig low = some (ls, true)
  f22_7 : thr = true → impl_ComparePlates.f kk la lb pn pl = some (x1, true)
  f23_4 : thr = true → impl_ComparePlates.f kk ha hb1 pn pl = some (y1, true)
  f24_5 : thr = true → laws_aPlates.f kk ls ls = some true
  f24_15 : thr = true → laws_aPlates.f kk ls ls = some true
  f13_2 : ok = true → impl_PlaceOfPlate.f kk lad pn pl = some (at1, true)
  f14_2 : ok = true → impl_DropPlate.f kk lad at1 = some (ls, true)
  f15_1 : ok = true → impl_ArePlates.f kk lad = some true
  f15_22 : ok = true → laws_aPlates.f kk ls ls = some true
  f10_6 : laws_aPlates.f kk lad lad = some true
  f10_27 : laws_aPlates.f kk low low = some true
  f10_33 : laws_aPlates.f kk hig hig = some true
  hxor : ok = true → one = false
  hladd : ok = true → (lad.length : Int) = wrap64 ((ls.length : Int) + 1)
  hplace : one = true → 0 ≤ plc ∧ plc < ls.length ∧ ls[plc.toNat]? = some ⟨pn, pl⟩
  hlow : thr = true → 1 ≤ low.length ∧ low.length ≤ 1000 ∧ low[low.length - 1]? = some ⟨la, lb⟩ ∧ hig[0]? = some ⟨ha, hb1⟩ ∧ x1 < 0 ∧ 0 ≤ y1 ∧ wrap64 ((low.length : Int) + (hig.length : Int)) = (ls.length : Int)
  hfs : fv = true → sv = true
  hns : nn = true → sv = true
  hk1 : fv = true → 0 ≤ k1 ∧ k1 < m1.length ∧ k1 < 1000 ∧ m1[k1.toNat]? = some ⟨ma, mb⟩ ∧ (wi.length : Int) = wrap64 ((m1.length : Int) + 1) ∧ wi[(k1 + 1).toNat]? = some ⟨na, nl⟩
  hrm : sv = true → 0 ≤ rm ∧ rm ≤ 26 ∧ (0 < rm → (m1.length : Int) < 60 → fv = true)
  hnn : nn = true → 0 ≤ k1 ∧ k1 < m1.length ∧ m1[k1.toNat]? = some ⟨ma, mb⟩
  hcnt : tt = true → (lt.size : Int) = cntP nb ln
  hjo : ff = true → (jo.length : Int) = wrap64 ((jc.length : Int) + (jd.length : Int))
variable {w0 : World} {A0 : Option Addr} {c0 : Nat} {l0 : List Int} {A1 : Option Addr} {c1 : Nat} {l1 : List Int} {kk : Nat} {ls : List S26} {pn : Int} {pl : Int} {lad : List S26} {ok : Bool} {plc : Int} {one : Bool} {low : List S26} {hig : List S26} {thr : Bool} {at1 : Int} {la : Int} {lb : Int} {ha : Int} {hb1 : Int} {x1 : Int} {y1 : Int} {m1 : List S26} {k1 : Int} {wi : List S26} {fv : Bool} {rm : Int} {sv : Bool} {le : List S26} {nn : Bool} {oa : Int} {ob : Int} {el : Bool} {ln : List S26} {nb : Int} {lt : ByteArray} {tt : Bool} {jc : List S26} {jd : List S26} {jo : List S26} {ff : Bool} {ma : Int} {mb : Int} {na : Int} {nl : Int} {A79 : Option Addr} {c79 : Nat} {g6 : Nat} {A85 : Option Addr} {c85 : Nat} {A91 : Option Addr} {c91 : Nat} {A109 : Option Addr} {c109 : Nat} {Z109 : Option Addr} {z109 : Nat} {A116 : Option Addr} {c116 : Nat} {Z116 : Option Addr} {z116 : Nat} {A297 : Option Addr} {c297 : Nat} {A303 : Option Addr} {c303 : Nat} {A309 : Option Addr} {c309 : Nat} {A327 : Option Addr} {c327 : Nat} {A333 : Option Addr} {c333 : Nat} {g47 : Nat} {g49 : Nat} {A350 : Option Addr} {c350 : Nat} {A367 : Option Addr} {c367 : Nat} {Z367 : Option Addr} {z367 : Nat} {A373 : Option Addr} {c373 : Nat} {A379 : Option Addr} {c379 : Nat} {A564 : Option Addr} {c564 : Nat} {i : Nat} {ad : Addr} {g71 : Nat} {A531 : Option Addr} {c531 : Nat} {g63 : Nat} {A470 : Option Addr} {c470 : Nat} {A223 : Option Addr} {c223 : Nat} {A229 : Option Addr} {c229 : Nat} {A172 : Option Addr} {c172 : Nat}
def FS0 (l0 l1 : List Int) (c0 c1 : Nat) (A0 A1 : Option Addr) (w0 : World) (w : World) : Prop := Below w0.heap.size w0 w ∧ Kd.C (Kd.int .u8) w A0 l0.length l0 ∧ l0.length ≤ c0 ∧ Kd.C (Kd.int .u8) w A1 l1.length l1 ∧ l1.length ≤ c1
theorem FS0.stays : Stays (FS0 l0 l1 c0 c1 A0 A1 w0) := (stays_below _).and <| sC_.and <| sL_.and <| sC_.and sL_
def FS1 (l0 l1 : List Int) (ls : List S26) (c79 c0 c1 : Nat) (A79 A0 A1 : Option Addr) (w0 : World) (w : World) : Prop := Kd.C k26 w A79 ls.length ls ∧ ls.length ≤ c79 ∧ Below w0.heap.size w0 w ∧ Kd.C (Kd.int .u8) w A0 l0.length l0 ∧ l0.length ≤ c0 ∧ Kd.C (Kd.int .u8) w A1 l1.length l1 ∧ l1.length ≤ c1
theorem FS1.stays : Stays (FS1 l0 l1 ls c79 c0 c1 A79 A0 A1 w0) := sC_.and <| sL_.and <| (stays_below _).and <| sC_.and <| sL_.and <| sC_.and sL_
def FS2 (pn pl : Int) (l0 l1 : List Int) (ls : List S26) (g6 c79 c0 c1 : Nat) (A79 A0 A1 : Option Addr) (w0 : World) (w : World) : Prop := w.heap[g6]? = some (.cells #[(vI pn), (vI pl)] 26 (0, 0)) ∧ Kd.C k26 w A79 ls.length ls ∧ ls.length ≤ c79 ∧ Below w0.heap.size w0 w ∧ Kd.C (Kd.int .u8) w A0 l0.length l0 ∧ l0.length ≤ c0 ∧ Kd.C (Kd.int .u8) w A1 l1.length l1 ∧ l1.length ≤ c1
theorem FS2.stays : Stays (FS2 pn pl l0 l1 ls g6 c79 c0 c1 A79 A0 A1 w0) := (stays_blk _ _).and <| sC_.and <| sL_.and <| (stays_below _).and <| sC_.and <| sL_.and <| sC_.and sL_
def FS3 (pn pl : Int) (l1 : List Int) (ls : List S26) (g6 c79 c1 : Nat) (A79 A1 : Option Addr) (w0 : World) (w : World) : Prop := w.heap[g6]? = some (.cells #[(vI pn), (vI pl)] 26 (0, 0)) ∧ Kd.C k26 w A79 ls.length ls ∧ ls.length ≤ c79 ∧ Below w0.heap.size w0 w ∧ Kd.C (Kd.int .u8) w A1 l1.length l1 ∧ l1.length ≤ c1
theorem FS3.stays : Stays (FS3 pn pl l1 ls g6 c79 c1 A79 A1 w0) := (stays_blk _ _).and <| sC_.and <| sL_.and <| (stays_below _).and <| sC_.and sL_
def FS4 (pn pl : Int) (l1 : List Int) (lad ls : List S26) (c85 g6 c79 c1 : Nat) (A85 A79 A1 : Option Addr) (w0 : World) (w : World) : Prop := Kd.C k26 w A85 lad.length lad ∧ lad.length ≤ c85 ∧ w.heap[g6]? = some (.cells #[(vI pn), (vI pl)] 26 (0, 0)) ∧ Kd.C k26 w A79 ls.length ls ∧ ls.length ≤ c79 ∧ Below w0.heap.size w0 w ∧ Kd.C (Kd.int .u8) w A1 l1.length l1 ∧ l1.length ≤ c1
theorem FS4.stays : Stays (FS4 pn pl l1 lad ls c85 g6 c79 c1 A85 A79 A1 w0) := sC_.and <| sL_.and <| (stays_blk _ _).and <| sC_.and <| sL_.and <| (stays_below _).and <| sC_.and sL_
def FS5 (pn pl : Int) (l1 : List Int) (lad ls : List S26) (c91 c85 g6 c79 c1 : Nat) (A91 A85 A79 A1 : Option Addr) (w0 : World) (w : World) : Prop := Kd.C k26 w A91 lad.length lad ∧ lad.length ≤ c91 ∧ Kd.C k26 w A85 lad.length lad ∧ lad.length ≤ c85 ∧ w.heap[g6]? = some (.cells #[(vI pn), (vI pl)] 26 (0, 0)) ∧ Kd.C k26 w A79 ls.length ls ∧ ls.length ≤ c79 ∧ Below w0.heap.size w0 w ∧ Kd.C (Kd.int .u8) w A1 l1.length l1 ∧ l1.length ≤ c1
theorem FS5.stays : Stays (FS5 pn pl l1 lad ls c91 c85 g6 c79 c1 A91 A85 A79 A1 w0) := sC_.and <| sL_.and <| sC_.and <| sL_.and <| (stays_blk _ _).and <| sC_.and <| sL_.and <| (stays_below _).and <| sC_.and sL_
def FS6 (pn pl : Int) (l1 : List Int) (low hig lad ls : List S26) (c109 z109 c91 c85 g6 c79 c1 : Nat) (A109 Z109 A91 A85 A79 A1 : Option Addr) (w0 : World) (w : World) : Prop := Kd.C k26 w A109 low.length low ∧ low.length ≤ c109 ∧ Kd.C k26 w Z109 hig.length hig ∧ hig.length ≤ z109 ∧ Kd.C k26 w A91 lad.length lad ∧ lad.length ≤ c91 ∧ Kd.C k26 w A85 lad.length lad ∧ lad.length ≤ c85 ∧ w.heap[g6]? = some (.cells #[(vI pn), (vI pl)] 26 (0, 0)) ∧ Kd.C k26 w A79 ls.length ls ∧ ls.length ≤ c79 ∧ Below w0.heap.size w0 w ∧ Kd.C (Kd.int .u8) w A1 l1.length l1 ∧ l1.length ≤ c1
theorem FS6.stays : Stays (FS6 pn pl l1 low hig lad ls c109 z109 c91 c85 g6 c79 c1 A109 Z109 A91 A85 A79 A1 w0) := sC_.and <| sL_.and <| sC_.and <| sL_.and <| sC_.and <| sL_.and <| sC_.and <| sL_.and <| (stays_blk _ _).and <| sC_.and <| sL_.and <| (stays_below _).and <| sC_.and sL_
def FS7 (pn pl : Int) (l1 : List Int) (low hig lad ls : List S26) (c116 z116 c109 z109 c91 c85 g6 c79 c1 : Nat) (A116 Z116 A109 Z109 A91 A85 A79 A1 : Option Addr) (w0 : World) (w : World) : Prop := Kd.C k26 w A116 low.length low ∧ low.length ≤ c116 ∧ Kd.C k26 w Z116 hig.length hig ∧ hig.length ≤ z116 ∧ Kd.C k26 w A109 low.length low ∧ low.length ≤ c109 ∧ Kd.C k26 w Z109 hig.length hig ∧ hig.length ≤ z109 ∧ Kd.C k26 w A91 lad.length lad ∧ lad.length ≤ c91 ∧ Kd.C k26 w A85 lad.length lad ∧ lad.length ≤ c85 ∧ w.heap[g6]? = some (.cells #[(vI pn), (vI pl)] 26 (0, 0)) ∧ Kd.C k26 w A79 ls.length ls ∧ ls.length ≤ c79 ∧ Below w0.heap.size w0 w ∧ Kd.C (Kd.int .u8) w A1 l1.length l1 ∧ l1.length ≤ c1
theorem FS7.stays : Stays (FS7 pn pl l1 low hig lad ls c116 z116 c109 z109 c91 c85 g6 c79 c1 A116 Z116 A109 Z109 A91 A85 A79 A1 w0) := sC_.and <| sL_.and <| sC_.and <| sL_.and <| sC_.and <| sL_.and <| sC_.and <| sL_.and <| sC_.and <| sL_.and <| sC_.and <| sL_.and <| (stays_blk _ _).and <| sC_.and <| sL_.and <| (stays_below _).and <| sC_.and sL_
def FS8 (l1 : List Int) (c1 : Nat) (A1 : Option Addr) (w0 : World) (w : World) : Prop := Below w0.heap.size w0 w ∧ Kd.C (Kd.int .u8) w A1 l1.length l1 ∧ l1.length ≤ c1
theorem FS8.stays : Stays (FS8 l1 c1 A1 w0) := (stays_below _).and <| sC_.and sL_
def FS9 (l1 : List Int) (m1 : List S26) (c297 c1 : Nat) (A297 A1 : Option Addr) (w0 : World) (w : World) : Prop := Kd.C k26 w A297 m1.length m1 ∧ m1.length ≤ c297 ∧ Below w0.heap.size w0 w ∧ Kd.C (Kd.int .u8) w A1 l1.length l1 ∧ l1.length ≤ c1
theorem FS9.stays : Stays (FS9 l1 m1 c297 c1 A297 A1 w0) := sC_.and <| sL_.and <| (stays_below _).and <| sC_.and sL_
def FS10 (l1 : List Int) (wi m1 : List S26) (c303 c297 c1 : Nat) (A303 A297 A1 : Option Addr) (w0 : World) (w : World) : Prop := Kd.C k26 w A303 wi.length wi ∧ wi.length ≤ c303 ∧ Kd.C k26 w A297 m1.length m1 ∧ m1.length ≤ c297 ∧ Below w0.heap.size w0 w ∧ Kd.C (Kd.int .u8) w A1 l1.length l1 ∧ l1.length ≤ c1
theorem FS10.stays : Stays (FS10 l1 wi m1 c303 c297 c1 A303 A297 A1 w0) := sC_.and <| sL_.and <| sC_.and <| sL_.and <| (stays_below _).and <| sC_.and sL_
def FS11 (l1 : List Int) (wi m1 : List S26) (c309 c303 c297 c1 : Nat) (A309 A303 A297 A1 : Option Addr) (w0 : World) (w : World) : Prop := Kd.C k26 w A309 wi.length wi ∧ wi.length ≤ c309 ∧ Kd.C k26 w A303 wi.length wi ∧ wi.length ≤ c303 ∧ Kd.C k26 w A297 m1.length m1 ∧ m1.length ≤ c297 ∧ Below w0.heap.size w0 w ∧ Kd.C (Kd.int .u8) w A1 l1.length l1 ∧ l1.length ≤ c1
theorem FS11.stays : Stays (FS11 l1 wi m1 c309 c303 c297 c1 A309 A303 A297 A1 w0) := sC_.and <| sL_.and <| sC_.and <| sL_.and <| sC_.and <| sL_.and <| (stays_below _).and <| sC_.and sL_
def FS12 (l1 : List Int) (le wi m1 : List S26) (c327 c309 c303 c297 c1 : Nat) (A327 A309 A303 A297 A1 : Option Addr) (w0 : World) (w : World) : Prop := Kd.C k26 w A327 le.length le ∧ le.length ≤ c327 ∧ Kd.C k26 w A309 wi.length wi ∧ wi.length ≤ c309 ∧ Kd.C k26 w A303 wi.length wi ∧ wi.length ≤ c303 ∧ Kd.C k26 w A297 m1.length m1 ∧ m1.length ≤ c297 ∧ Below w0.heap.size w0 w ∧ Kd.C (Kd.int .u8) w A1 l1.length l1 ∧ l1.length ≤ c1
theorem FS12.stays : Stays (FS12 l1 le wi m1 c327 c309 c303 c297 c1 A327 A309 A303 A297 A1 w0) := sC_.and <| sL_.and <| sC_.and <| sL_.and <| sC_.and <| sL_.and <| sC_.and <| sL_.and <| (stays_below _).and <| sC_.and sL_
def FS13 (l1 : List Int) (le wi m1 : List S26) (c333 c327 c309 c303 c297 c1 : Nat) (A333 A327 A309 A303 A297 A1 : Option Addr) (w0 : World) (w : World) : Prop := Kd.C k26 w A333 le.length le ∧ le.length ≤ c333 ∧ Kd.C k26 w A327 le.length le ∧ le.length ≤ c327 ∧ Kd.C k26 w A309 wi.length wi ∧ wi.length ≤ c309 ∧ Kd.C k26 w A303 wi.length wi ∧ wi.length ≤ c303 ∧ Kd.C k26 w A297 m1.length m1 ∧ m1.length ≤ c297 ∧ Below w0.heap.size w0 w ∧ Kd.C (Kd.int .u8) w A1 l1.length l1 ∧ l1.length ≤ c1
theorem FS13.stays : Stays (FS13 l1 le wi m1 c333 c327 c309 c303 c297 c1 A333 A327 A309 A303 A297 A1 w0) := sC_.and <| sL_.and <| sC_.and <| sL_.and <| sC_.and <| sL_.and <| sC_.and <| sL_.and <| sC_.and <| sL_.and <| (stays_below _).and <| sC_.and sL_
def FS14 (oa ob : Int) (l1 : List Int) (le wi m1 : List S26) (g47 c333 c327 c309 c303 c297 c1 : Nat) (A333 A327 A309 A303 A297 A1 : Option Addr) (w0 : World) (w : World) : Prop := w.heap[g47]? = some (.cells #[(vI oa), (vI ob)] 26 (0, 0)) ∧ Kd.C k26 w A333 le.length le ∧ le.length ≤ c333 ∧ Kd.C k26 w A327 le.length le ∧ le.length ≤ c327 ∧ Kd.C k26 w A309 wi.length wi ∧ wi.length ≤ c309 ∧ Kd.C k26 w A303 wi.length wi ∧ wi.length ≤ c303 ∧ Kd.C k26 w A297 m1.length m1 ∧ m1.length ≤ c297 ∧ Below w0.heap.size w0 w ∧ Kd.C (Kd.int .u8) w A1 l1.length l1 ∧ l1.length ≤ c1
theorem FS14.stays : Stays (FS14 oa ob l1 le wi m1 g47 c333 c327 c309 c303 c297 c1 A333 A327 A309 A303 A297 A1 w0) := (stays_blk _ _).and <| sC_.and <| sL_.and <| sC_.and <| sL_.and <| sC_.and <| sL_.and <| sC_.and <| sL_.and <| sC_.and <| sL_.and <| (stays_below _).and <| sC_.and sL_
def FS15 (oa ob : Int) (l1 : List Int) (le wi m1 : List S26) (g49 g47 c333 c327 c309 c303 c297 c1 : Nat) (A333 A327 A309 A303 A297 A1 : Option Addr) (w0 : World) (w : World) : Prop := w.heap[g49]? = some (.cells #[(vI oa), (vI ob)] 26 (0, 0)) ∧ w.heap[g47]? = some (.cells #[(vI oa), (vI ob)] 26 (0, 0)) ∧ Kd.C k26 w A333 le.length le ∧ le.length ≤ c333 ∧ Kd.C k26 w A327 le.length le ∧ le.length ≤ c327 ∧ Kd.C k26 w A309 wi.length wi ∧ wi.length ≤ c309 ∧ Kd.C k26 w A303 wi.length wi ∧ wi.length ≤ c303 ∧ Kd.C k26 w A297 m1.length m1 ∧ m1.length ≤ c297 ∧ Below w0.heap.size w0 w ∧ Kd.C (Kd.int .u8) w A1 l1.length l1 ∧ l1.length ≤ c1
theorem FS15.stays : Stays (FS15 oa ob l1 le wi m1 g49 g47 c333 c327 c309 c303 c297 c1 A333 A327 A309 A303 A297 A1 w0) := (stays_blk _ _).and <| (stays_blk _ _).and <| sC_.and <| sL_.and <| sC_.and <| sL_.and <| sC_.and <| sL_.and <| sC_.and <| sL_.and <| sC_.and <| sL_.and <| (stays_below _).and <| sC_.and sL_
def FS16 (oa ob : Int) (l1 : List Int) (ln le wi m1 : List S26) (c350 g49 g47 c333 c327 c309 c303 c297 c1 : Nat) (A350 A333 A327 A309 A303 A297 A1 : Option Addr) (w0 : World) (w : World) : Prop := Kd.C k26 w A350 ln.length ln ∧ ln.length ≤ c350 ∧ w.heap[g49]? = some (.cells #[(vI oa), (vI ob)] 26 (0, 0)) ∧ w.heap[g47]? = some (.cells #[(vI oa), (vI ob)] 26 (0, 0)) ∧ Kd.C k26 w A333 le.length le ∧ le.length ≤ c333 ∧ Kd.C k26 w A327 le.length le ∧ le.length ≤ c327 ∧ Kd.C k26 w A309 wi.length wi ∧ wi.length ≤ c309 ∧ Kd.C k26 w A303 wi.length wi ∧ wi.length ≤ c303 ∧ Kd.C k26 w A297 m1.length m1 ∧ m1.length ≤ c297 ∧ Below w0.heap.size w0 w ∧ Kd.C (Kd.int .u8) w A1 l1.length l1 ∧ l1.length ≤ c1
theorem FS16.stays : Stays (FS16 oa ob l1 ln le wi m1 c350 g49 g47 c333 c327 c309 c303 c297 c1 A350 A333 A327 A309 A303 A297 A1 w0) := sC_.and <| sL_.and <| (stays_blk _ _).and <| (stays_blk _ _).and <| sC_.and <| sL_.and <| sC_.and <| sL_.and <| sC_.and <| sL_.and <| sC_.and <| sL_.and <| sC_.and <| sL_.and <| (stays_below _).and <| sC_.and sL_
def FS17 (oa ob : Int) (l1 : List Int) (jc jd ln le wi m1 : List S26) (c367 z367 c350 g49 g47 c333 c327 c309 c303 c297 c1 : Nat) (A367 Z367 A350 A333 A327 A309 A303 A297 A1 : Option Addr) (w0 : World) (w : World) : Prop := Kd.C k26 w A367 jc.length jc ∧ jc.length ≤ c367 ∧ Kd.C k26 w Z367 jd.length jd ∧ jd.length ≤ z367 ∧ Kd.C k26 w A350 ln.length ln ∧ ln.length ≤ c350 ∧ w.heap[g49]? = some (.cells #[(vI oa), (vI ob)] 26 (0, 0)) ∧ w.heap[g47]? = some (.cells #[(vI oa), (vI ob)] 26 (0, 0)) ∧ Kd.C k26 w A333 le.length le ∧ le.length ≤ c333 ∧ Kd.C k26 w A327 le.length le ∧ le.length ≤ c327 ∧ Kd.C k26 w A309 wi.length wi ∧ wi.length ≤ c309 ∧ Kd.C k26 w A303 wi.length wi ∧ wi.length ≤ c303 ∧ Kd.C k26 w A297 m1.length m1 ∧ m1.length ≤ c297 ∧ Below w0.heap.size w0 w ∧ Kd.C (Kd.int .u8) w A1 l1.length l1 ∧ l1.length ≤ c1
theorem FS17.stays : Stays (FS17 oa ob l1 jc jd ln le wi m1 c367 z367 c350 g49 g47 c333 c327 c309 c303 c297 c1 A367 Z367 A350 A333 A327 A309 A303 A297 A1 w0) := sC_.and <| sL_.and <| sC_.and <| sL_.and <| sC_.and <| sL_.and <| (stays_blk _ _).and <| (stays_blk _ _).and <| sC_.and <| sL_.and <| sC_.and <| sL_.and <| sC_.and <| sL_.and <| sC_.and <| sL_.and <| sC_.and <| sL_.and <| (stays_below _).and <| sC_.and sL_
def FS18 (oa ob : Int) (jc jd ln le wi m1 : List S26) (c367 z367 c350 g49 g47 c333 c327 c309 c303 c297 : Nat) (A367 Z367 A350 A333 A327 A309 A303 A297 : Option Addr) (w0 : World) (w : World) : Prop := Kd.C k26 w A367 jc.length jc ∧ jc.length ≤ c367 ∧ Kd.C k26 w Z367 jd.length jd ∧ jd.length ≤ z367 ∧ Kd.C k26 w A350 ln.length ln ∧ ln.length ≤ c350 ∧ w.heap[g49]? = some (.cells #[(vI oa), (vI ob)] 26 (0, 0)) ∧ w.heap[g47]? = some (.cells #[(vI oa), (vI ob)] 26 (0, 0)) ∧ Kd.C k26 w A333 le.length le ∧ le.length ≤ c333 ∧ Kd.C k26 w A327 le.length le ∧ le.length ≤ c327 ∧ Kd.C k26 w A309 wi.length wi ∧ wi.length ≤ c309 ∧ Kd.C k26 w A303 wi.length wi ∧ wi.length ≤ c303 ∧ Kd.C k26 w A297 m1.length m1 ∧ m1.length ≤ c297 ∧ Below w0.heap.size w0 w
theorem FS18.stays : Stays (FS18 oa ob jc jd ln le wi m1 c367 z367 c350 g49 g47 c333 c327 c309 c303 c297 A367 Z367 A350 A333 A327 A309 A303 A297 w0) := sC_.and <| sL_.and <| sC_.and <| sL_.and <| sC_.and <| sL_.and <| (stays_blk _ _).and <| (stays_blk _ _).and <| sC_.and <| sL_.and <| sC_.and <| sL_.and <| sC_.and <| sL_.and <| sC_.and <| sL_.and <| sC_.and <| sL_.and (stays_below _)
def FS19 (oa ob : Int) (jo jc jd ln le wi m1 : List S26) (c373 c367 z367 c350 g49 g47 c333 c327 c309 c303 c297 : Nat) (A373 A367 Z367 A350 A333 A327 A309 A303 A297 : Option Addr) (w0 : World) (w : World) : Prop := Kd.C k26 w A373 jo.length jo ∧ jo.length ≤ c373 ∧ Kd.C k26 w A367 jc.length jc ∧ jc.length ≤ c367 ∧ Kd.C k26 w Z367 jd.length jd ∧ jd.length ≤ z367 ∧ Kd.C k26 w A350 ln.length ln ∧ ln.length ≤ c350 ∧ w.heap[g49]? = some (.cells #[(vI oa), (vI ob)] 26 (0, 0)) ∧ w.heap[g47]? = some (.cells #[(vI oa), (vI ob)] 26 (0, 0)) ∧ Kd.C k26 w A333 le.length le ∧ le.length ≤ c333 ∧ Kd.C k26 w A327 le.length le ∧ le.length ≤ c327 ∧ Kd.C k26 w A309 wi.length wi ∧ wi.length ≤ c309 ∧ Kd.C k26 w A303 wi.length wi ∧ wi.length ≤ c303 ∧ Kd.C k26 w A297 m1.length m1 ∧ m1.length ≤ c297 ∧ Below w0.heap.size w0 w
theorem FS19.stays : Stays (FS19 oa ob jo jc jd ln le wi m1 c373 c367 z367 c350 g49 g47 c333 c327 c309 c303 c297 A373 A367 Z367 A350 A333 A327 A309 A303 A297 w0) := sC_.and <| sL_.and <| sC_.and <| sL_.and <| sC_.and <| sL_.and <| sC_.and <| sL_.and <| (stays_blk _ _).and <| (stays_blk _ _).and <| sC_.and <| sL_.and <| sC_.and <| sL_.and <| sC_.and <| sL_.and <| sC_.and <| sL_.and <| sC_.and <| sL_.and (stays_below _)
def FS20 (oa ob : Int) (jo jc jd ln le wi m1 : List S26) (c379 c373 c367 z367 c350 g49 g47 c333 c327 c309 c303 c297 : Nat) (A379 A373 A367 Z367 A350 A333 A327 A309 A303 A297 : Option Addr) (w0 : World) (w : World) : Prop := Kd.C k26 w A379 jo.length jo ∧ jo.length ≤ c379 ∧ Kd.C k26 w A373 jo.length jo ∧ jo.length ≤ c373 ∧ Kd.C k26 w A367 jc.length jc ∧ jc.length ≤ c367 ∧ Kd.C k26 w Z367 jd.length jd ∧ jd.length ≤ z367 ∧ Kd.C k26 w A350 ln.length ln ∧ ln.length ≤ c350 ∧ w.heap[g49]? = some (.cells #[(vI oa), (vI ob)] 26 (0, 0)) ∧ w.heap[g47]? = some (.cells #[(vI oa), (vI ob)] 26 (0, 0)) ∧ Kd.C k26 w A333 le.length le ∧ le.length ≤ c333 ∧ Kd.C k26 w A327 le.length le ∧ le.length ≤ c327 ∧ Kd.C k26 w A309 wi.length wi ∧ wi.length ≤ c309 ∧ Kd.C k26 w A303 wi.length wi ∧ wi.length ≤ c303 ∧ Kd.C k26 w A297 m1.length m1 ∧ m1.length ≤ c297 ∧ Below w0.heap.size w0 w
theorem FS20.stays : Stays (FS20 oa ob jo jc jd ln le wi m1 c379 c373 c367 z367 c350 g49 g47 c333 c327 c309 c303 c297 A379 A373 A367 Z367 A350 A333 A327 A309 A303 A297 w0) := sC_.and <| sL_.and <| sC_.and <| sL_.and <| sC_.and <| sL_.and <| sC_.and <| sL_.and <| sC_.and <| sL_.and <| (stays_blk _ _).and <| (stays_blk _ _).and <| sC_.and <| sL_.and <| sC_.and <| sL_.and <| sC_.and <| sL_.and <| sC_.and <| sL_.and <| sC_.and <| sL_.and (stays_below _)
def FS21 (w0 : World) (w : World) : Prop := Below w0.heap.size w0 w
theorem FS21.stays : Stays (FS21 w0) := (stays_below _)
def FS22 (jo jc jd : List S26) (c373 c367 z367 : Nat) (A373 A367 Z367 : Option Addr) (w0 : World) (w : World) : Prop := Kd.C k26 w A373 jo.length jo ∧ jo.length ≤ c373 ∧ Kd.C k26 w A367 jc.length jc ∧ jc.length ≤ c367 ∧ Kd.C k26 w Z367 jd.length jd ∧ jd.length ≤ z367 ∧ Below w0.heap.size w0 w
theorem FS22.stays : Stays (FS22 jo jc jd c373 c367 z367 A373 A367 Z367 w0) := sC_.and <| sL_.and <| sC_.and <| sL_.and <| sC_.and <| sL_.and (stays_below _)
def FS23 (jo jc jd : List S26) (c564 c373 c367 z367 : Nat) (A564 A373 A367 Z367 : Option Addr) (w0 : World) (w : World) : Prop := Kd.C k26 w A564 jo.length jo ∧ jo.length ≤ c564 ∧ Kd.C k26 w A373 jo.length jo ∧ jo.length ≤ c373 ∧ Kd.C k26 w A367 jc.length jc ∧ jc.length ≤ c367 ∧ Kd.C k26 w Z367 jd.length jd ∧ jd.length ≤ z367 ∧ Below w0.heap.size w0 w
theorem FS23.stays : Stays (FS23 jo jc jd c564 c373 c367 z367 A564 A373 A367 Z367 w0) := sC_.and <| sL_.and <| sC_.and <| sL_.and <| sC_.and <| sL_.and <| sC_.and <| sL_.and (stays_below _)
def FS24 (jo jc jd ln : List S26) (c373 c367 z367 c350 : Nat) (A373 A367 Z367 A350 : Option Addr) (w0 : World) (w : World) : Prop := Kd.C k26 w A373 jo.length jo ∧ jo.length ≤ c373 ∧ Kd.C k26 w A367 jc.length jc ∧ jc.length ≤ c367 ∧ Kd.C k26 w Z367 jd.length jd ∧ jd.length ≤ z367 ∧ Kd.C k26 w A350 ln.length ln ∧ ln.length ≤ c350 ∧ Below w0.heap.size w0 w
theorem FS24.stays : Stays (FS24 jo jc jd ln c373 c367 z367 c350 A373 A367 Z367 A350 w0) := sC_.and <| sL_.and <| sC_.and <| sL_.and <| sC_.and <| sL_.and <| sC_.and <| sL_.and (stays_below _)
def FS25 (ln jo jc jd : List S26) (g71 i c373 c367 z367 c350 : Nat) (A373 A367 Z367 A350 : Option Addr) (w0 : World) (w : World) : Prop := w.heap[g71]? = some (.cells #[(vI ((ln.getD i z26).f0)), (vI ((ln.getD i z26).f1))] 26 (0, 0)) ∧ Kd.C k26 w A373 jo.length jo ∧ jo.length ≤ c373 ∧ Kd.C k26 w A367 jc.length jc ∧ jc.length ≤ c367 ∧ Kd.C k26 w Z367 jd.length jd ∧ jd.length ≤ z367 ∧ Kd.C k26 w A350 ln.length ln ∧ ln.length ≤ c350 ∧ Below w0.heap.size w0 w
theorem FS25.stays : Stays (FS25 ln jo jc jd g71 i c373 c367 z367 c350 A373 A367 Z367 A350 w0) := (stays_blk _ _).and <| sC_.and <| sL_.and <| sC_.and <| sL_.and <| sC_.and <| sL_.and <| sC_.and <| sL_.and (stays_below _)
def FS26 (jo jc jd ln le m1 : List S26) (c373 c367 z367 c350 c327 c297 : Nat) (A373 A367 Z367 A350 A327 A297 : Option Addr) (w0 : World) (w : World) : Prop := Kd.C k26 w A373 jo.length jo ∧ jo.length ≤ c373 ∧ Kd.C k26 w A367 jc.length jc ∧ jc.length ≤ c367 ∧ Kd.C k26 w Z367 jd.length jd ∧ jd.length ≤ z367 ∧ Kd.C k26 w A350 ln.length ln ∧ ln.length ≤ c350 ∧ Kd.C k26 w A327 le.length le ∧ le.length ≤ c327 ∧ Kd.C k26 w A297 m1.length m1 ∧ m1.length ≤ c297 ∧ Below w0.heap.size w0 w
theorem FS26.stays : Stays (FS26 jo jc jd ln le m1 c373 c367 z367 c350 c327 c297 A373 A367 Z367 A350 A327 A297 w0) := sC_.and <| sL_.and <| sC_.and <| sL_.and <| sC_.and <| sL_.and <| sC_.and <| sL_.and <| sC_.and <| sL_.and <| sC_.and <| sL_.and (stays_below _)
def FS27 (m1 jo jc jd ln le : List S26) (c531 c373 c367 z367 c350 c327 c297 : Nat) (A531 A373 A367 Z367 A350 A327 A297 : Option Addr) (w0 : World) (w : World) : Prop := Kd.C k26 w A531 m1.length m1 ∧ m1.length ≤ c531 ∧ Kd.C k26 w A373 jo.length jo ∧ jo.length ≤ c373 ∧ Kd.C k26 w A367 jc.length jc ∧ jc.length ≤ c367 ∧ Kd.C k26 w Z367 jd.length jd ∧ jd.length ≤ z367 ∧ Kd.C k26 w A350 ln.length ln ∧ ln.length ≤ c350 ∧ Kd.C k26 w A327 le.length le ∧ le.length ≤ c327 ∧ Kd.C k26 w A297 m1.length m1 ∧ m1.length ≤ c297 ∧ Below w0.heap.size w0 w
theorem FS27.stays : Stays (FS27 m1 jo jc jd ln le c531 c373 c367 z367 c350 c327 c297 A531 A373 A367 Z367 A350 A327 A297 w0) := sC_.and <| sL_.and <| sC_.and <| sL_.and <| sC_.and <| sL_.and <| sC_.and <| sL_.and <| sC_.and <| sL_.and <| sC_.and <| sL_.and <| sC_.and <| sL_.and (stays_below _)
def FS28 (m1 jo jc jd ln : List S26) (c531 c373 c367 z367 c350 c297 : Nat) (A531 A373 A367 Z367 A350 A297 : Option Addr) (w0 : World) (w : World) : Prop := Kd.C k26 w A531 m1.length m1 ∧ m1.length ≤ c531 ∧ Kd.C k26 w A373 jo.length jo ∧ jo.length ≤ c373 ∧ Kd.C k26 w A367 jc.length jc ∧ jc.length ≤ c367 ∧ Kd.C k26 w Z367 jd.length jd ∧ jd.length ≤ z367 ∧ Kd.C k26 w A350 ln.length ln ∧ ln.length ≤ c350 ∧ Kd.C k26 w A297 m1.length m1 ∧ m1.length ≤ c297 ∧ Below w0.heap.size w0 w
theorem FS28.stays : Stays (FS28 m1 jo jc jd ln c531 c373 c367 z367 c350 c297 A531 A373 A367 Z367 A350 A297 w0) := sC_.and <| sL_.and <| sC_.and <| sL_.and <| sC_.and <| sL_.and <| sC_.and <| sL_.and <| sC_.and <| sL_.and <| sC_.and <| sL_.and (stays_below _)
def FS29 (jo jc jd ln le wi m1 : List S26) (c373 c367 z367 c350 c327 c303 c297 : Nat) (A373 A367 Z367 A350 A327 A303 A297 : Option Addr) (w0 : World) (w : World) : Prop := Kd.C k26 w A373 jo.length jo ∧ jo.length ≤ c373 ∧ Kd.C k26 w A367 jc.length jc ∧ jc.length ≤ c367 ∧ Kd.C k26 w Z367 jd.length jd ∧ jd.length ≤ z367 ∧ Kd.C k26 w A350 ln.length ln ∧ ln.length ≤ c350 ∧ Kd.C k26 w A327 le.length le ∧ le.length ≤ c327 ∧ Kd.C k26 w A303 wi.length wi ∧ wi.length ≤ c303 ∧ Kd.C k26 w A297 m1.length m1 ∧ m1.length ≤ c297 ∧ Below w0.heap.size w0 w
theorem FS29.stays : Stays (FS29 jo jc jd ln le wi m1 c373 c367 z367 c350 c327 c303 c297 A373 A367 Z367 A350 A327 A303 A297 w0) := sC_.and <| sL_.and <| sC_.and <| sL_.and <| sC_.and <| sL_.and <| sC_.and <| sL_.and <| sC_.and <| sL_.and <| sC_.and <| sL_.and <| sC_.and <| sL_.and (stays_below _)
def FS30 (na nl : Int) (jo jc jd ln le wi m1 : List S26) (g63 c373 c367 z367 c350 c327 c303 c297 : Nat) (A373 A367 Z367 A350 A327 A303 A297 : Option Addr) (w0 : World) (w : World) : Prop := w.heap[g63]? = some (.cells #[(vI na), (vI nl)] 26 (0, 0)) ∧ Kd.C k26 w A373 jo.length jo ∧ jo.length ≤ c373 ∧ Kd.C k26 w A367 jc.length jc ∧ jc.length ≤ c367 ∧ Kd.C k26 w Z367 jd.length jd ∧ jd.length ≤ z367 ∧ Kd.C k26 w A350 ln.length ln ∧ ln.length ≤ c350 ∧ Kd.C k26 w A327 le.length le ∧ le.length ≤ c327 ∧ Kd.C k26 w A303 wi.length wi ∧ wi.length ≤ c303 ∧ Kd.C k26 w A297 m1.length m1 ∧ m1.length ≤ c297 ∧ Below w0.heap.size w0 w
theorem FS30.stays : Stays (FS30 na nl jo jc jd ln le wi m1 g63 c373 c367 z367 c350 c327 c303 c297 A373 A367 Z367 A350 A327 A303 A297 w0) := (stays_blk _ _).and <| sC_.and <| sL_.and <| sC_.and <| sL_.and <| sC_.and <| sL_.and <| sC_.and <| sL_.and <| sC_.and <| sL_.and <| sC_.and <| sL_.and <| sC_.and <| sL_.and (stays_below _)
def FS31 (na nl : Int) (m1 jo jc jd ln le wi : List S26) (c470 g63 c373 c367 z367 c350 c327 c303 c297 : Nat) (A470 A373 A367 Z367 A350 A327 A303 A297 : Option Addr) (w0 : World) (w : World) : Prop := Kd.C k26 w A470 m1.length m1 ∧ m1.length ≤ c470 ∧ w.heap[g63]? = some (.cells #[(vI na), (vI nl)] 26 (0, 0)) ∧ Kd.C k26 w A373 jo.length jo ∧ jo.length ≤ c373 ∧ Kd.C k26 w A367 jc.length jc ∧ jc.length ≤ c367 ∧ Kd.C k26 w Z367 jd.length jd ∧ jd.length ≤ z367 ∧ Kd.C k26 w A350 ln.length ln ∧ ln.length ≤ c350 ∧ Kd.C k26 w A327 le.length le ∧ le.length ≤ c327 ∧ Kd.C k26 w A303 wi.length wi ∧ wi.length ≤ c303 ∧ Kd.C k26 w A297 m1.length m1 ∧ m1.length ≤ c297 ∧ Below w0.heap.size w0 w
theorem FS31.stays : Stays (FS31 na nl m1 jo jc jd ln le wi c470 g63 c373 c367 z367 c350 c327 c303 c297 A470 A373 A367 Z367 A350 A327 A303 A297 w0) := sC_.and <| sL_.and <| (stays_blk _ _).and <| sC_.and <| sL_.and <| sC_.and <| sL_.and <| sC_.and <| sL_.and <| sC_.and <| sL_.and <| sC_.and <| sL_.and <| sC_.and <| sL_.and <| sC_.and <| sL_.and (stays_below _)
def FS32 (pn pl : Int) (l1 : List Int) (low hig ls : List S26) (c109 z109 g6 c79 c1 : Nat) (A109 Z109 A79 A1 : Option Addr) (w0 : World) (w : World) : Prop := Kd.C k26 w A109 low.length low ∧ low.length ≤ c109 ∧ Kd.C k26 w Z109 hig.length hig ∧ hig.length ≤ z109 ∧ w.heap[g6]? = some (.cells #[(vI pn), (vI pl)] 26 (0, 0)) ∧ Kd.C k26 w A79 ls.length ls ∧ ls.length ≤ c79 ∧ Below w0.heap.size w0 w ∧ Kd.C (Kd.int .u8) w A1 l1.length l1 ∧ l1.length ≤ c1
theorem FS32.stays : Stays (FS32 pn pl l1 low hig ls c109 z109 g6 c79 c1 A109 Z109 A79 A1 w0) := sC_.and <| sL_.and <| sC_.and <| sL_.and <| (stays_blk _ _).and <| sC_.and <| sL_.and <| (stays_below _).and <| sC_.and sL_
def FS33 (pn pl : Int) (l1 : List Int) (ls low hig : List S26) (c223 c109 z109 g6 c79 c1 : Nat) (A223 A109 Z109 A79 A1 : Option Addr) (w0 : World) (w : World) : Prop := Kd.C k26 w A223 ls.length ls ∧ ls.length ≤ c223 ∧ Kd.C k26 w A109 low.length low ∧ low.length ≤ c109 ∧ Kd.C k26 w Z109 hig.length hig ∧ hig.length ≤ z109 ∧ w.heap[g6]? = some (.cells #[(vI pn), (vI pl)] 26 (0, 0)) ∧ Kd.C k26 w A79 ls.length ls ∧ ls.length ≤ c79 ∧ Below w0.heap.size w0 w ∧ Kd.C (Kd.int .u8) w A1 l1.length l1 ∧ l1.length ≤ c1
theorem FS33.stays : Stays (FS33 pn pl l1 ls low hig c223 c109 z109 g6 c79 c1 A223 A109 Z109 A79 A1 w0) := sC_.and <| sL_.and <| sC_.and <| sL_.and <| sC_.and <| sL_.and <| (stays_blk _ _).and <| sC_.and <| sL_.and <| (stays_below _).and <| sC_.and sL_
def FS34 (pn pl : Int) (l1 : List Int) (ls low hig : List S26) (c229 c223 c109 z109 g6 c79 c1 : Nat) (A229 A223 A109 Z109 A79 A1 : Option Addr) (w0 : World) (w : World) : Prop := Kd.C k26 w A229 ls.length ls ∧ ls.length ≤ c229 ∧ Kd.C k26 w A223 ls.length ls ∧ ls.length ≤ c223 ∧ Kd.C k26 w A109 low.length low ∧ low.length ≤ c109 ∧ Kd.C k26 w Z109 hig.length hig ∧ hig.length ≤ z109 ∧ w.heap[g6]? = some (.cells #[(vI pn), (vI pl)] 26 (0, 0)) ∧ Kd.C k26 w A79 ls.length ls ∧ ls.length ≤ c79 ∧ Below w0.heap.size w0 w ∧ Kd.C (Kd.int .u8) w A1 l1.length l1 ∧ l1.length ≤ c1
theorem FS34.stays : Stays (FS34 pn pl l1 ls low hig c229 c223 c109 z109 g6 c79 c1 A229 A223 A109 Z109 A79 A1 w0) := sC_.and <| sL_.and <| sC_.and <| sL_.and <| sC_.and <| sL_.and <| sC_.and <| sL_.and <| (stays_blk _ _).and <| sC_.and <| sL_.and <| (stays_below _).and <| sC_.and sL_
def FS35 (l1 : List Int) (ls low hig : List S26) (c229 c223 c109 z109 c79 c1 : Nat) (A229 A223 A109 Z109 A79 A1 : Option Addr) (w0 : World) (w : World) : Prop := Kd.C k26 w A229 ls.length ls ∧ ls.length ≤ c229 ∧ Kd.C k26 w A223 ls.length ls ∧ ls.length ≤ c223 ∧ Kd.C k26 w A109 low.length low ∧ low.length ≤ c109 ∧ Kd.C k26 w Z109 hig.length hig ∧ hig.length ≤ z109 ∧ Kd.C k26 w A79 ls.length ls ∧ ls.length ≤ c79 ∧ Below w0.heap.size w0 w ∧ Kd.C (Kd.int .u8) w A1 l1.length l1 ∧ l1.length ≤ c1
theorem FS35.stays : Stays (FS35 l1 ls low hig c229 c223 c109 z109 c79 c1 A229 A223 A109 Z109 A79 A1 w0) := sC_.and <| sL_.and <| sC_.and <| sL_.and <| sC_.and <| sL_.and <| sC_.and <| sL_.and <| sC_.and <| sL_.and <| (stays_below _).and <| sC_.and sL_
def FS36 (pn pl : Int) (l1 : List Int) (low hig lad ls : List S26) (c109 z109 c85 g6 c79 c1 : Nat) (A109 Z109 A85 A79 A1 : Option Addr) (w0 : World) (w : World) : Prop := Kd.C k26 w A109 low.length low ∧ low.length ≤ c109 ∧ Kd.C k26 w Z109 hig.length hig ∧ hig.length ≤ z109 ∧ Kd.C k26 w A85 lad.length lad ∧ lad.length ≤ c85 ∧ w.heap[g6]? = some (.cells #[(vI pn), (vI pl)] 26 (0, 0)) ∧ Kd.C k26 w A79 ls.length ls ∧ ls.length ≤ c79 ∧ Below w0.heap.size w0 w ∧ Kd.C (Kd.int .u8) w A1 l1.length l1 ∧ l1.length ≤ c1
theorem FS36.stays : Stays (FS36 pn pl l1 low hig lad ls c109 z109 c85 g6 c79 c1 A109 Z109 A85 A79 A1 w0) := sC_.and <| sL_.and <| sC_.and <| sL_.and <| sC_.and <| sL_.and <| (stays_blk _ _).and <| sC_.and <| sL_.and <| (stays_below _).and <| sC_.and sL_
def FS37 (pn pl : Int) (l1 : List Int) (ls low hig lad : List S26) (c172 c109 z109 c85 g6 c79 c1 : Nat) (A172 A109 Z109 A85 A79 A1 : Option Addr) (w0 : World) (w : World) : Prop := Kd.C k26 w A172 ls.length ls ∧ ls.length ≤ c172 ∧ Kd.C k26 w A109 low.length low ∧ low.length ≤ c109 ∧ Kd.C k26 w Z109 hig.length hig ∧ hig.length ≤ z109 ∧ Kd.C k26 w A85 lad.length lad ∧ lad.length ≤ c85 ∧ w.heap[g6]? = some (.cells #[(vI pn), (vI pl)] 26 (0, 0)) ∧ Kd.C k26 w A79 ls.length ls ∧ ls.length ≤ c79 ∧ Below w0.heap.size w0 w ∧ Kd.C (Kd.int .u8) w A1 l1.length l1 ∧ l1.length ≤ c1
theorem FS37.stays : Stays (FS37 pn pl l1 ls low hig lad c172 c109 z109 c85 g6 c79 c1 A172 A109 Z109 A85 A79 A1 w0) := sC_.and <| sL_.and <| sC_.and <| sL_.and <| sC_.and <| sL_.and <| sC_.and <| sL_.and <| (stays_blk _ _).and <| sC_.and <| sL_.and <| (stays_below _).and <| sC_.and sL_
theorem t46 {a : Act} {w : World} (h : Has 590 a []) (hw : FS21 w0 w) : B46.wp Try.prog (Ql w0) a w := by
  refine wp_seq ?_
  refine region_ (K := [(4, (vB true))]) (obs := []) (by kernel_rfl) mix rfl FS21.stays trivial h hw ?_
  clear h hw
  intro a w h hw
  show Code.wp _ Code.ret _ _ _
  refine wp_ret ?_
  exact post_ h rfl (hw)
theorem t43 (H : Facts kk l0 l1 ls pn pl lad ok plc one low hig thr at1 la lb ha hb1 x1 y1 m1 k1 wi fv rm sv le nn oa ob el ln nb lt tt jc jd jo true ma mb na nl) {a : Act} {w : World} (h : Has 590 a [(57, (vS A367 jc c367)), (58, (vS Z367 jd z367)), (59, (vS A373 jo c373)), (72, (vS A564 jo c564)), (73, (vB true))]) (hw : FS23 jo jc jd c564 c373 c367 z367 A564 A373 A367 Z367 w0 w) : B43.wp Try.prog (Exit.then (fun a w => Code.wp Try.prog B46 (Ql w0) a w) (Ql w0)) a w := by
  refine wp_seq ?_
  refine region_ (K := [(589, (vB false))]) (obs := [.call 12 [(vS A564 jo c564), (vS A373 jo c373)] (vB true), lN 24 576 A373 jo c373, lN 24 578 A367 jc c367, lN 24 580 Z367 jd z367, bO .add (tm 579) (tm 581) (jc.length : Int) (jd.length : Int) (wrap64 ((jc.length : Int) + (jd.length : Int))), cI .neq 577 582 (jo.length : Int) (wrap64 ((jc.length : Int) + (jd.length : Int))) false, .call 14 [(vS A373 jo c373)] (vB true)]) (by kernel_rfl) mix rfl FS23.stays ⟨⟨⟨_, Try.func12, by kernel_rfl, by kernel_rfl⟩, fun w hw => FS23.stays.callsD hw (laws_aPlates.calls _ _ _ _ _ _ _ _ _ (hw.1) (hw.2.1) (hw.2.2.1) (hw.2.2.2.1) (H.f66_5 rfl))⟩, (ok_len Try.underlying24), (ok_len Try.underlying24), (ok_len Try.underlying24), (ok_add_int rfl), (ok_neq_int (bne_eq_false_iff_eq.mpr (H.hjo rfl))), ⟨⟨_, Try.func14, by kernel_rfl, by kernel_rfl⟩, fun w hw => FS23.stays.calls hw (impl_ArePlates.calls _ _ _ _ _ _ (hw.2.2.1) (hw.2.2.2.1) (H.f66_20 rfl))⟩, trivial⟩ h hw ?_
  clear h hw
  intro a w h hw
  show Code.wp _ (Code.cond (tm 589) B42 Code.skip) _ _ _
  refine wp_cond_false (h.opd (by kernel_rfl)) ?_
  refine wp_skip ?_
  exact t46 (h.cut (by kernel_rfl)) hw.2.2.2.2.2.2.2.2
theorem t44 (H : Facts kk l0 l1 ls pn pl lad ok plc one low hig thr at1 la lb ha hb1 x1 y1 m1 k1 wi fv rm sv le nn oa ob el ln nb lt tt jc jd jo true ma mb na nl) {a : Act} {w : World} (h : Has 590 a [(57, (vS A367 jc c367)), (58, (vS Z367 jd z367)), (59, (vS A373 jo c373))]) (hw : FS22 jo jc jd c373 c367 z367 A373 A367 Z367 w0 w) : B44.wp Try.prog (Exit.then (fun a w => Code.wp Try.prog B46 (Ql w0) a w) (Ql w0)) a w := by
  refine wp_seq ?_
  refine region_list ?_
  refine quiet_ 0 2 2 (K := [(57, (vS A367 jc c367)), (58, (vS Z367 jd z367)), (59, (vS A373 jo c373)), (562, (vS Z367 jd z367)), (563, (vS A367 jc c367))]) (obs := []) (by kernel_rfl) rfl trivial h hw ?_
  clear h hw
  intro a w h hw
  refine made_ (σ := Option Addr × Nat) (F := FS22 jo jc jd c373 c367 z367 A373 A367 Z367 w0) 2 3 (f := 15) (d := 564) (vs := [(vS Z367 jd z367), (vS A367 jc c367)]) (by kernel_rfl) rfl h hw Try.func15 (by kernel_rfl) (by kernel_rfl) (fun s => (.tuple #[(.slice s.1 jo.length s.2), (vB true)])) (fun s w => FS23 jo jc jd s.2 c373 c367 z367 s.1 A373 A367 Z367 w0 w) ?_ ?_
  · intro w hw
    refine (impl_JoinPlates.calls _ _ _ _ _ _ _ _ _ _ (hw.2.2.2.2.1) (hw.2.2.2.2.2.1) (hw.2.2.1) (hw.2.2.2.1) (H.f65_2 rfl)).mono ?_
    rintro e w' ⟨v0_, he, hR0, hb⟩
    obtain ⟨A0_, c0_, rfl, hc0_, hC0_⟩ := Kd.R_reads hR0
    have hw' := FS22.stays w w' hw hb
    exact ⟨(A0_, c0_), he, ⟨hC0_, hc0_, hw'⟩⟩
  clear h hw
  rintro ⟨A564, c564⟩ a w h hw
  exact quiet_ 3 5 8 (obs := []) (by kernel_rfl) rfl trivial h hw fun a w h hw => end_ (by kernel_rfl) (t43 H h hw)
theorem t47 (H : Facts kk l0 l1 ls pn pl lad ok plc one low hig thr at1 la lb ha hb1 x1 y1 m1 k1 wi fv rm sv le nn oa ob el ln nb lt tt jc jd jo ff ma mb na nl) {a : Act} {w : World} (h : Has 590 a [(57, (vS A367 jc c367)), (58, (vS Z367 jd z367)), (59, (vS A373 jo c373)), (60, (vB ff))]) (hw : FS22 jo jc jd c373 c367 z367 A373 A367 Z367 w0 w) : B47.wp Try.prog (Ql w0) a w := by
  refine wp_seq ?_
  refine wp_seq ?_
  refine region_ (K := [(57, (vS A367 jc c367)), (58, (vS Z367 jd z367)), (59, (vS A373 jo c373)), (560, (vB ff))]) (obs := []) (by kernel_rfl) mix rfl FS22.stays trivial h hw ?_
  clear h hw
  intro a w h hw
  show Code.wp _ (Code.cond (tm 560) B44 Code.skip) _ _ _
  cases ff with
  | true =>
    refine wp_cond_true (h.opd (by kernel_rfl)) ?_
    exact t44 H (h.cut (by kernel_rfl)) hw
  | false =>
    refine wp_cond_false (h.opd (by kernel_rfl)) ?_
    refine wp_skip ?_
    exact t46 (h.cut (by kernel_rfl)) hw.2.2.2.2.2.2
theorem t31 (hlt : i < ln.length) (hmax_ : ln.length ≤ 9223372036854775807) {a : Act} {w : World} (h : Has 590 a [(52, (vI nb)), (53, (.string lt)), (57, (vS A367 jc c367)), (58, (vS Z367 jd z367)), (59, (vS A373 jo c373)), (60, (vB ff)), (69, (vI ((cntP nb (ln.take i))))), (71, (vP g71)), (543, (vS A350 ln c350)), (544, (vI (ln.length : Int))), (545, (vI (i : Int)))]) (hw : FS25 ln jo jc jd g71 i c373 c367 z367 c350 A373 A367 Z367 A350 w0 w) : B31.wp Try.prog (Exit.inBlock 1 (Exit.then (fun a w => Code.wp Try.prog (Code.region 61 R61.toArray false) (Exit.then (fun a' w' => ∃ d', d' < ln.length - i ∧ (∃ i : Nat, i ≤ ln.length ∧ d' = ln.length - i ∧ Has 590 a' [(52, (vI nb)), (53, (.string lt)), (57, (vS A367 jc c367)), (58, (vS Z367 jd z367)), (59, (vS A373 jo c373)), (60, (vB ff)), (69, (vI ((cntP nb (ln.take i))))), (543, (vS A350 ln c350)), (544, (vI (ln.length : Int))), (545, (vI (i : Int)))] ∧ FS24 jo jc jd ln c373 c367 z367 c350 A373 A367 Z367 A350 w0 w')) (Exit.inBlock 0 (Exit.then (fun a w => Code.wp Try.prog B38 (Exit.then (fun a w => Code.wp Try.prog B47 (Ql w0) a w) (Ql w0)) a w) (Exit.then (fun a w => Code.wp Try.prog B47 (Ql w0) a w) (Ql w0))))) a w) (Exit.then (fun a' w' => ∃ d', d' < ln.length - i ∧ (∃ i : Nat, i ≤ ln.length ∧ d' = ln.length - i ∧ Has 590 a' [(52, (vI nb)), (53, (.string lt)), (57, (vS A367 jc c367)), (58, (vS Z367 jd z367)), (59, (vS A373 jo c373)), (60, (vB ff)), (69, (vI ((cntP nb (ln.take i))))), (543, (vS A350 ln c350)), (544, (vI (ln.length : Int))), (545, (vI (i : Int)))] ∧ FS24 jo jc jd ln c373 c367 z367 c350 A373 A367 Z367 A350 w0 w')) (Exit.inBlock 0 (Exit.then (fun a w => Code.wp Try.prog B38 (Exit.then (fun a w => Code.wp Try.prog B47 (Ql w0) a w) (Ql w0)) a w) (Exit.then (fun a w => Code.wp Try.prog B47 (Ql w0) a w) (Ql w0))))))) a w := by
  refine wp_seq ?_
  by_cases hx1 : (ln.getD i z26).f0 = nb
  · refine region_ (F := FS25 ln jo jc jd g71 i c373 c367 z367 c350 A373 A367 Z367 A350 w0) (K := [(52, (vI nb)), (53, (.string lt)), (57, (vS A367 jc c367)), (58, (vS Z367 jd z367)), (59, (vS A373 jo c373)), (60, (vB ff)), (69, (vI ((cntP nb (ln.take i))))), (543, (vS A350 ln c350)), (544, (vI (ln.length : Int))), (545, (vI (i : Int))), (552, (vB true))]) (obs := [.op (Op.fieldAddr 26 (tm 71) 0) 0 [((tm 71), (vP g71))] (vP g71), .op (Op.load 3 (tm 549)) 3 [((tm 549), (vP g71))] (vI ((ln.getD i z26).f0)), cI .eql 550 551 ((ln.getD i z26).f0) nb true]) (by kernel_rfl) mix rfl FS25.stays ⟨ok_fa26_0, (ok_load3 (fun w hw => blk_cell (hw.1) 0)), (ok_eql_int (beq_iff_eq.mpr hx1)), trivial⟩ h hw ?_
    clear h hw
    intro a w h hw
    show Code.wp _ (Code.cond (tm 552) (Code.region 60 R60.toArray false) Code.skip) _ _ _
    refine wp_cond_true (h.opd (by kernel_rfl)) ?_
    refine region_ (K := [(52, (vI nb)), (53, (.string lt)), (57, (vS A367 jc c367)), (58, (vS Z367 jd z367)), (59, (vS A373 jo c373)), (60, (vB ff)), (69, (vI ((cntP nb (ln.take (i + 1)))))), (543, (vS A350 ln c350)), (544, (vI (ln.length : Int))), (545, (vI (i : Int)))]) (obs := [bO .add (tm 553) (Operand.const (Value.int IntKind.i64 1)) ((cntP nb (ln.take i))) 1 ((cntP nb (ln.take (i + 1))))]) (by kernel_rfl) mix rfl FS25.stays ⟨(ok_add_int (cnt_t_ hlt hmax_ hx1)), trivial⟩ h hw ?_
    clear h hw
    intro a w h hw
    show Code.wp _ (Code.region 61 R61.toArray false) _ _ _
    refine region_ (K := [(52, (vI nb)), (53, (.string lt)), (57, (vS A367 jc c367)), (58, (vS Z367 jd z367)), (59, (vS A373 jo c373)), (60, (vB ff)), (69, (vI ((cntP nb (ln.take (i + 1)))))), (543, (vS A350 ln c350)), (544, (vI (ln.length : Int))), (545, (vI (((i + 1 : Nat) : Int))))]) (obs := [bO .add (tm 545) (Operand.const (Value.int IntKind.i64 1)) (i : Int) 1 (((i + 1 : Nat) : Int))]) (by kernel_rfl) mix rfl FS25.stays ⟨(ok_add_int (wadd_ (by omega))), trivial⟩ h hw ?_
    clear h hw
    intro a w h hw
    refine ⟨ln.length - (i + 1), by omega, i + 1, by omega, rfl, ?_, ?_⟩
    · exact h.cut (by kernel_rfl)
    · exact ⟨hw.2.1, hw.2.2.1, hw.2.2.2.1, hw.2.2.2.2.1, hw.2.2.2.2.2.1, hw.2.2.2.2.2.2.1, hw.2.2.2.2.2.2.2.1, hw.2.2.2.2.2.2.2.2.1, hw.2.2.2.2.2.2.2.2.2⟩
  · refine region_ (F := FS25 ln jo jc jd g71 i c373 c367 z367 c350 A373 A367 Z367 A350 w0) (K := [(52, (vI nb)), (53, (.string lt)), (57, (vS A367 jc c367)), (58, (vS Z367 jd z367)), (59, (vS A373 jo c373)), (60, (vB ff)), (69, (vI ((cntP nb (ln.take i))))), (543, (vS A350 ln c350)), (544, (vI (ln.length : Int))), (545, (vI (i : Int))), (552, (vB false))]) (obs := [.op (Op.fieldAddr 26 (tm 71) 0) 0 [((tm 71), (vP g71))] (vP g71), .op (Op.load 3 (tm 549)) 3 [((tm 549), (vP g71))] (vI ((ln.getD i z26).f0)), cI .eql 550 551 ((ln.getD i z26).f0) nb false]) (by kernel_rfl) mix rfl FS25.stays ⟨ok_fa26_0, (ok_load3 (fun w hw => blk_cell (hw.1) 0)), (ok_eql_int (beq_eq_false_iff_ne.mpr hx1)), trivial⟩ h hw ?_
    clear h hw
    intro a w h hw
    show Code.wp _ (Code.cond (tm 552) (Code.region 60 R60.toArray false) Code.skip) _ _ _
    refine wp_cond_false (h.opd (by kernel_rfl)) ?_
    refine wp_skip ?_
    show Code.wp _ (Code.region 61 R61.toArray false) _ _ _
    refine region_ (K := [(52, (vI nb)), (53, (.string lt)), (57, (vS A367 jc c367)), (58, (vS Z367 jd z367)), (59, (vS A373 jo c373)), (60, (vB ff)), (69, (vI ((cntP nb (ln.take i))))), (543, (vS A350 ln c350)), (544, (vI (ln.length : Int))), (545, (vI (((i + 1 : Nat) : Int))))]) (obs := [bO .add (tm 545) (Operand.const (Value.int IntKind.i64 1)) (i : Int) 1 (((i + 1 : Nat) : Int))]) (by kernel_rfl) mix rfl FS25.stays ⟨(ok_add_int (wadd_ (by omega))), trivial⟩ h hw ?_
    clear h hw
    intro a w h hw
    rw [cnt_f_ hlt hx1] at h
    refine ⟨ln.length - (i + 1), by omega, i + 1, by omega, rfl, ?_, ?_⟩
    · exact h.cut (by kernel_rfl)
    · exact ⟨hw.2.1, hw.2.2.1, hw.2.2.2.1, hw.2.2.2.2.1, hw.2.2.2.2.2.1, hw.2.2.2.2.2.2.1, hw.2.2.2.2.2.2.2.1, hw.2.2.2.2.2.2.2.2.1, hw.2.2.2.2.2.2.2.2.2⟩
theorem t32 (hlt : i < ln.length) (hmax_ : ln.length ≤ 9223372036854775807) {a : Act} {w : World} (h : Has 590 a [(52, (vI nb)), (53, (.string lt)), (57, (vS A367 jc c367)), (58, (vS Z367 jd z367)), (59, (vS A373 jo c373)), (60, (vB ff)), (69, (vI ((cntP nb (ln.take i))))), (543, (vS A350 ln c350)), (544, (vI (ln.length : Int))), (545, (vI (i : Int)))]) (hw : FS24 jo jc jd ln c373 c367 z367 c350 A373 A367 Z367 A350 w0 w) : B32.wp Try.prog (Exit.inBlock 1 (Exit.then (fun a w => Code.wp Try.prog (Code.region 61 R61.toArray false) (Exit.then (fun a' w' => ∃ d', d' < ln.length - i ∧ (∃ i : Nat, i ≤ ln.length ∧ d' = ln.length - i ∧ Has 590 a' [(52, (vI nb)), (53, (.string lt)), (57, (vS A367 jc c367)), (58, (vS Z367 jd z367)), (59, (vS A373 jo c373)), (60, (vB ff)), (69, (vI ((cntP nb (ln.take i))))), (543, (vS A350 ln c350)), (544, (vI (ln.length : Int))), (545, (vI (i : Int)))] ∧ FS24 jo jc jd ln c373 c367 z367 c350 A373 A367 Z367 A350 w0 w')) (Exit.inBlock 0 (Exit.then (fun a w => Code.wp Try.prog B38 (Exit.then (fun a w => Code.wp Try.prog B47 (Ql w0) a w) (Ql w0)) a w) (Exit.then (fun a w => Code.wp Try.prog B47 (Ql w0) a w) (Ql w0))))) a w) (Exit.then (fun a' w' => ∃ d', d' < ln.length - i ∧ (∃ i : Nat, i ≤ ln.length ∧ d' = ln.length - i ∧ Has 590 a' [(52, (vI nb)), (53, (.string lt)), (57, (vS A367 jc c367)), (58, (vS Z367 jd z367)), (59, (vS A373 jo c373)), (60, (vB ff)), (69, (vI ((cntP nb (ln.take i))))), (543, (vS A350 ln c350)), (544, (vI (ln.length : Int))), (545, (vI (i : Int)))] ∧ FS24 jo jc jd ln c373 c367 z367 c350 A373 A367 Z367 A350 w0 w')) (Exit.inBlock 0 (Exit.then (fun a w => Code.wp Try.prog B38 (Exit.then (fun a w => Code.wp Try.prog B47 (Ql w0) a w) (Ql w0)) a w) (Exit.then (fun a w => Code.wp Try.prog B47 (Ql w0) a w) (Ql w0))))))) a w := by
  refine wp_seq ?_
  obtain ⟨ad, hA⟩ := P_some (hw.2.2.2.2.2.2.1) (i := i) hlt
  refine region_list ?_
  refine quiet_ 0 2 2 (K := [(52, (vI nb)), (53, (.string lt)), (57, (vS A367 jc c367)), (58, (vS Z367 jd z367)), (59, (vS A373 jo c373)), (60, (vB ff)), (69, (vI ((cntP nb (ln.take i))))), (543, (vS A350 ln c350)), (544, (vI (ln.length : Int))), (545, (vI (i : Int))), (548, (vA ((ln.getD i z26).f0) ((ln.getD i z26).f1)))]) (obs := [.op (Op.indexAddr 24 (tm 543) (tm 545)) 0 [((tm 543), (vS A350 ln c350)), ((tm 545), (vI (i : Int)))] (.pointer (some ((ad.add (i * 2))))), .op (Op.load 26 (tm 547)) 26 [((tm 547), (.pointer (some ((ad.add (i * 2))))))] (vA ((ln.getD i z26).f0) ((ln.getD i z26).f1))]) (by kernel_rfl) rfl ⟨(ok_idxe24 hA rfl hlt), (ok_load26p (fun w hw => P_cells (hw.2.2.2.2.2.2.1) hA (getD_eta_ hlt))), trivial⟩ h hw ?_
  clear h hw
  intro a w h hw
  replace hw : Pend (FS24 jo jc jd ln c373 c367 z367 c350 A373 A367 Z367 A350 w0) [] w := Pend.start hw
  refine alloc26 (F := FS24 jo jc jd ln c373 c367 z367 c350 A373 A367 Z367 A350 w0) (bs := []) 2 3 (d := 71) (by kernel_rfl) rfl h hw ?_
  clear h hw
  intro g71 a w h hw
  refine store26 (F := FS24 jo jc jd ln c373 c367 z367 c350 A373 A367 Z367 A350 w0) (bs := [(g71, .cells #[(vI 0), (vI 0)] 26 (0, 0))]) 3 4 0 (g := g71) (y := ((ln.getD i z26).f0)) (z := ((ln.getD i z26).f1)) (u := 0) (v := 0) (by kernel_rfl) rfl rfl h hw ?_
  clear h hw
  intro a w h hw
  replace hw : Pend (FS24 jo jc jd ln c373 c367 z367 c350 A373 A367 Z367 A350 w0) [(g71, .cells #[(vI ((ln.getD i z26).f0)), (vI ((ln.getD i z26).f1))] 26 (0, 0))] w := hw
  have hp_ := Pend.out FS24.stays hw
  replace hw : FS25 ln jo jc jd g71 i c373 c367 z367 c350 A373 A367 Z367 A350 w0 w := ⟨hp_.2 0 _ rfl, hp_.1⟩
  clear hp_
  refine end_ (by kernel_rfl) ?_
  exact t31 hlt hmax_ (h.cut (by kernel_rfl)) hw
theorem t33 (hlt : i < ln.length) (hmax_ : ln.length ≤ 9223372036854775807) {a : Act} {w : World} (h : Has 590 a [(52, (vI nb)), (53, (.string lt)), (57, (vS A367 jc c367)), (58, (vS Z367 jd z367)), (59, (vS A373 jo c373)), (60, (vB ff)), (69, (vI ((cntP nb (ln.take i))))), (543, (vS A350 ln c350)), (544, (vI (ln.length : Int))), (545, (vI (i : Int)))]) (hw : FS24 jo jc jd ln c373 c367 z367 c350 A373 A367 Z367 A350 w0 w) : B33.wp Try.prog (Exit.then (fun a' w' => ∃ d', d' < ln.length - i ∧ (∃ i : Nat, i ≤ ln.length ∧ d' = ln.length - i ∧ Has 590 a' [(52, (vI nb)), (53, (.string lt)), (57, (vS A367 jc c367)), (58, (vS Z367 jd z367)), (59, (vS A373 jo c373)), (60, (vB ff)), (69, (vI ((cntP nb (ln.take i))))), (543, (vS A350 ln c350)), (544, (vI (ln.length : Int))), (545, (vI (i : Int)))] ∧ FS24 jo jc jd ln c373 c367 z367 c350 A373 A367 Z367 A350 w0 w')) (Exit.inBlock 0 (Exit.then (fun a w => Code.wp Try.prog B38 (Exit.then (fun a w => Code.wp Try.prog B47 (Ql w0) a w) (Ql w0)) a w) (Exit.then (fun a w => Code.wp Try.prog B47 (Ql w0) a w) (Ql w0))))) a w := by
  refine wp_seq ?_
  refine wp_block ?_
  exact t32 hlt hmax_ h hw
theorem t34 (hlt : i < ln.length) (hmax_ : ln.length ≤ 9223372036854775807) {a : Act} {w : World} (h : Has 590 a [(52, (vI nb)), (53, (.string lt)), (57, (vS A367 jc c367)), (58, (vS Z367 jd z367)), (59, (vS A373 jo c373)), (60, (vB ff)), (69, (vI ((cntP nb (ln.take i))))), (543, (vS A350 ln c350)), (544, (vI (ln.length : Int))), (545, (vI (i : Int))), (546, (vB true))]) (hw : FS24 jo jc jd ln c373 c367 z367 c350 A373 A367 Z367 A350 w0 w) : B34.wp Try.prog (Exit.then (fun a' w' => ∃ d', d' < ln.length - i ∧ (∃ i : Nat, i ≤ ln.length ∧ d' = ln.length - i ∧ Has 590 a' [(52, (vI nb)), (53, (.string lt)), (57, (vS A367 jc c367)), (58, (vS Z367 jd z367)), (59, (vS A373 jo c373)), (60, (vB ff)), (69, (vI ((cntP nb (ln.take i))))), (543, (vS A350 ln c350)), (544, (vI (ln.length : Int))), (545, (vI (i : Int)))] ∧ FS24 jo jc jd ln c373 c367 z367 c350 A373 A367 Z367 A350 w0 w')) (Exit.inBlock 0 (Exit.then (fun a w => Code.wp Try.prog B38 (Exit.then (fun a w => Code.wp Try.prog B47 (Ql w0) a w) (Ql w0)) a w) (Exit.then (fun a w => Code.wp Try.prog B47 (Ql w0) a w) (Ql w0))))) a w := by
  refine wp_seq ?_
  refine wp_cond_true (h.opd (by kernel_rfl)) ?_
  refine wp_skip ?_
  exact t33 hlt hmax_ (h.cut (by kernel_rfl)) hw
theorem t35 (hlt : i < ln.length) (hmax_ : ln.length ≤ 9223372036854775807) {a : Act} {w : World} (h : Has 590 a [(52, (vI nb)), (53, (.string lt)), (57, (vS A367 jc c367)), (58, (vS Z367 jd z367)), (59, (vS A373 jo c373)), (60, (vB ff)), (69, (vI ((cntP nb (ln.take i))))), (543, (vS A350 ln c350)), (544, (vI (ln.length : Int))), (545, (vI (i : Int)))]) (hw : FS24 jo jc jd ln c373 c367 z367 c350 A373 A367 Z367 A350 w0 w) : B35.wp Try.prog (Exit.then (fun a' w' => ∃ d', d' < ln.length - i ∧ (∃ i : Nat, i ≤ ln.length ∧ d' = ln.length - i ∧ Has 590 a' [(52, (vI nb)), (53, (.string lt)), (57, (vS A367 jc c367)), (58, (vS Z367 jd z367)), (59, (vS A373 jo c373)), (60, (vB ff)), (69, (vI ((cntP nb (ln.take i))))), (543, (vS A350 ln c350)), (544, (vI (ln.length : Int))), (545, (vI (i : Int)))] ∧ FS24 jo jc jd ln c373 c367 z367 c350 A373 A367 Z367 A350 w0 w')) (Exit.inBlock 0 (Exit.then (fun a w => Code.wp Try.prog B38 (Exit.then (fun a w => Code.wp Try.prog B47 (Ql w0) a w) (Ql w0)) a w) (Exit.then (fun a w => Code.wp Try.prog B47 (Ql w0) a w) (Ql w0))))) a w := by
  refine wp_seq ?_
  exact region_ (K := [(52, (vI nb)), (53, (.string lt)), (57, (vS A367 jc c367)), (58, (vS Z367 jd z367)), (59, (vS A373 jo c373)), (60, (vB ff)), (69, (vI ((cntP nb (ln.take i))))), (543, (vS A350 ln c350)), (544, (vI (ln.length : Int))), (545, (vI (i : Int))), (546, (vB true))]) (obs := [.op (Op.binOp BinOp.lss 3 (tm 545) (tm 544) 3) 0 [((tm 545), (vI (i : Int))), ((tm 544), (vI (ln.length : Int)))] (vB true)]) (by kernel_rfl) mix rfl FS24.stays ⟨(ok_lss_int (decide_eq_true (by omega))), trivial⟩ h hw fun a w h hw => t34 hlt hmax_ h hw
theorem t38 (H : Facts kk l0 l1 ls pn pl lad ok plc one low hig thr at1 la lb ha hb1 x1 y1 m1 k1 wi fv rm sv le nn oa ob el ln nb lt true jc jd jo ff ma mb na nl) {a : Act} {w : World} (h : Has 590 a [(53, (.string lt)), (57, (vS A367 jc c367)), (58, (vS Z367 jd z367)), (59, (vS A373 jo c373)), (60, (vB ff)), (69, (vI (cntP nb ln)))]) (hw : FS22 jo jc jd c373 c367 z367 A373 A367 Z367 w0 w) : B38.wp Try.prog (Exit.then (fun a w => Code.wp Try.prog B47 (Ql w0) a w) (Ql w0)) a w := by
  refine wp_seq ?_
  refine region_ (K := [(57, (vS A367 jc c367)), (58, (vS Z367 jd z367)), (59, (vS A373 jo c373)), (60, (vB ff)), (559, (vB false))]) (obs := [.op (Op.call { callee := (Callee.builtin Builtin.len), args := #[(tm 556)], argTypes := #[9] }) 3 [((tm 556), (.string lt))] (vI (lt.size : Int)), cI .neq 557 558 (lt.size : Int) (cntP nb ln) false]) (by kernel_rfl) mix rfl FS22.stays ⟨(ok_len_str Try.underlying9), (ok_neq_int (bne_eq_false_iff_eq.mpr (H.hcnt rfl))), trivial⟩ h hw ?_
  clear h hw
  intro a w h hw
  show Code.wp _ (Code.cond (tm 559) B37 Code.skip) _ _ _
  refine wp_cond_false (h.opd (by kernel_rfl)) ?_
  refine wp_skip ?_
  exact t47 H (h.cut (by kernel_rfl)) hw
theorem t39 (H : Facts kk l0 l1 ls pn pl lad ok plc one low hig thr at1 la lb ha hb1 x1 y1 m1 k1 wi fv rm sv le nn oa ob el ln nb lt true jc jd jo ff ma mb na nl) {a : Act} {w : World} (h : Has 590 a [(51, (vS A350 ln c350)), (52, (vI nb)), (53, (.string lt)), (57, (vS A367 jc c367)), (58, (vS Z367 jd z367)), (59, (vS A373 jo c373)), (60, (vB ff)), (69, (vI 0))]) (hw : FS24 jo jc jd ln c373 c367 z367 c350 A373 A367 Z367 A350 w0 w) : B39.wp Try.prog (Exit.then (fun a w => Code.wp Try.prog B47 (Ql w0) a w) (Ql w0)) a w := by
  refine wp_seq ?_
  refine wp_seq ?_
  refine region_ (K := [(52, (vI nb)), (53, (.string lt)), (57, (vS A367 jc c367)), (58, (vS Z367 jd z367)), (59, (vS A373 jo c373)), (60, (vB ff)), (69, (vI 0)), (543, (vS A350 ln c350)), (544, (vI (ln.length : Int))), (545, (vI 0))]) (obs := [lN 24 543 A350 ln c350]) (by kernel_rfl) mix rfl FS24.stays ⟨(ok_len Try.underlying24), trivial⟩ h hw ?_
  clear h hw
  intro a w h hw
  show Code.wp _ (Code.block 0 (Code.loop B35)) _ _ _
  refine wp_block ?_
  replace h : Has 590 a [(52, (vI nb)), (53, (.string lt)), (57, (vS A367 jc c367)), (58, (vS Z367 jd z367)), (59, (vS A373 jo c373)), (60, (vB ff)), (69, (vI ((cntP nb (ln.take 0))))), (543, (vS A350 ln c350)), (544, (vI (ln.length : Int))), (545, (vI (((0 : Nat) : Int))))] := h.cut (by kernel_rfl)
  replace hw : FS24 jo jc jd ln c373 c367 z367 c350 A373 A367 Z367 A350 w0 w := ⟨hw.1, hw.2.1, hw.2.2.1, hw.2.2.2.1, hw.2.2.2.2.1, hw.2.2.2.2.2.1, hw.2.2.2.2.2.2.1, hw.2.2.2.2.2.2.2.1, hw.2.2.2.2.2.2.2.2⟩
  refine loop_nat (fun d a w => ∃ i : Nat, i ≤ ln.length ∧ d = ln.length - i ∧ Has 590 a [(52, (vI nb)), (53, (.string lt)), (57, (vS A367 jc c367)), (58, (vS Z367 jd z367)), (59, (vS A373 jo c373)), (60, (vB ff)), (69, (vI ((cntP nb (ln.take i))))), (543, (vS A350 ln c350)), (544, (vI (ln.length : Int))), (545, (vI (i : Int)))] ∧ FS24 jo jc jd ln c373 c367 z367 c350 A373 A367 Z367 A350 w0 w) ?_ ln.length a w ⟨0, Nat.zero_le _, rfl, h, hw⟩
  clear h hw a w
  rintro d a w ⟨i, hi_, rfl, h, hw⟩
  by_cases hlt : i < ln.length
  · have hmax_ : ln.length ≤ 9223372036854775807 := Kd.C_max (hw.2.2.2.2.2.2.1)
    exact t35 hlt hmax_ h hw
  · show Code.wp _ (Code.seq (Code.region 57 R57.toArray false) B34) _ _ _
    refine wp_seq ?_
    refine region_ (K := [(53, (.string lt)), (57, (vS A367 jc c367)), (58, (vS Z367 jd z367)), (59, (vS A373 jo c373)), (60, (vB ff)), (69, (vI ((cntP nb (ln.take i))))), (546, (vB false))]) (obs := [.op (Op.binOp BinOp.lss 3 (tm 545) (tm 544) 3) 0 [((tm 545), (vI (i : Int))), ((tm 544), (vI (ln.length : Int)))] (vB false)]) (by kernel_rfl) mix rfl FS24.stays ⟨(ok_lss_int (decide_eq_false (by omega))), trivial⟩ h hw ?_
    clear h hw
    intro a w h hw
    refine wp_seq ?_
    refine wp_cond_false (h.opd (by kernel_rfl)) ?_
    refine wp_exit ?_
    show Exit.inBlock 0 (Exit.then (fun a w => Code.wp Try.prog B38 (Exit.then (fun a w => Code.wp Try.prog B47 (Ql w0) a w) (Ql w0)) a w) (Exit.then (fun a w => Code.wp Try.prog B47 (Ql w0) a w) (Ql w0))) (.exit 0) a w
    refine inBlock_exit ?_
    obtain rfl : i = ln.length := by omega
    rw [List.take_length] at h
    exact t38 H (h.cut (by kernel_rfl)) (let ⟨p,q,r,s,t,u,_,_,v⟩ := hw; ⟨p,q,r,s,t,u,v⟩)
theorem t40 (H : Facts kk l0 l1 ls pn pl lad ok plc one low hig thr at1 la lb ha hb1 x1 y1 m1 k1 wi fv rm sv le nn oa ob el ln nb lt true jc jd jo ff ma mb na nl) {a : Act} {w : World} (h : Has 590 a [(51, (vS A350 ln c350)), (52, (vI nb)), (53, (.string lt)), (57, (vS A367 jc c367)), (58, (vS Z367 jd z367)), (59, (vS A373 jo c373)), (60, (vB ff))]) (hw : FS24 jo jc jd ln c373 c367 z367 c350 A373 A367 Z367 A350 w0 w) : B40.wp Try.prog (Exit.then (fun a w => Code.wp Try.prog B47 (Ql w0) a w) (Ql w0)) a w := by
  refine wp_seq ?_
  exact region_ (obs := []) (by kernel_rfl) mix rfl FS24.stays trivial h hw fun a w h hw => t39 H h hw
theorem t48 (H : Facts kk l0 l1 ls pn pl lad ok plc one low hig thr at1 la lb ha hb1 x1 y1 m1 k1 wi fv rm sv le nn oa ob el ln nb lt tt jc jd jo ff ma mb na nl) {a : Act} {w : World} (h : Has 590 a [(51, (vS A350 ln c350)), (52, (vI nb)), (53, (.string lt)), (54, (vB tt)), (57, (vS A367 jc c367)), (58, (vS Z367 jd z367)), (59, (vS A373 jo c373)), (60, (vB ff))]) (hw : FS24 jo jc jd ln c373 c367 z367 c350 A373 A367 Z367 A350 w0 w) : B48.wp Try.prog (Ql w0) a w := by
  refine wp_seq ?_
  refine wp_seq ?_
  refine region_ (K := [(51, (vS A350 ln c350)), (52, (vI nb)), (53, (.string lt)), (57, (vS A367 jc c367)), (58, (vS Z367 jd z367)), (59, (vS A373 jo c373)), (60, (vB ff)), (542, (vB tt))]) (obs := []) (by kernel_rfl) mix rfl FS24.stays trivial h hw ?_
  clear h hw
  intro a w h hw
  show Code.wp _ (Code.cond (tm 542) B40 Code.skip) _ _ _
  cases tt with
  | true =>
    refine wp_cond_true (h.opd (by kernel_rfl)) ?_
    exact t40 H (h.cut (by kernel_rfl)) hw
  | false =>
    refine wp_cond_false (h.opd (by kernel_rfl)) ?_
    refine wp_skip ?_
    exact t47 H (h.cut (by kernel_rfl)) (let ⟨p,q,r,s,t,u,_,_,v⟩ := hw; ⟨p,q,r,s,t,u,v⟩)
theorem t28 (H : Facts kk l0 l1 ls pn pl lad ok plc one low hig thr at1 la lb ha hb1 x1 y1 m1 k1 wi fv rm sv le true oa ob el ln nb lt tt jc jd jo ff ma mb na nl) {a : Act} {w : World} (h : Has 590 a [(33, (vS A297 m1 c297)), (51, (vS A350 ln c350)), (52, (vI nb)), (53, (.string lt)), (54, (vB tt)), (57, (vS A367 jc c367)), (58, (vS Z367 jd z367)), (59, (vS A373 jo c373)), (60, (vB ff)), (67, (vS A531 m1 c531)), (68, (vB true))]) (hw : FS28 m1 jo jc jd ln c531 c373 c367 z367 c350 c297 A531 A373 A367 Z367 A350 A297 w0 w) : B28.wp Try.prog (Exit.then (fun a w => Code.wp Try.prog B48 (Ql w0) a w) (Ql w0)) a w := by
  refine wp_seq ?_
  refine region_ (K := [(51, (vS A350 ln c350)), (52, (vI nb)), (53, (.string lt)), (54, (vB tt)), (57, (vS A367 jc c367)), (58, (vS Z367 jd z367)), (59, (vS A373 jo c373)), (60, (vB ff)), (541, (vB false))]) (obs := [.call 12 [(vS A531 m1 c531), (vS A297 m1 c297)] (vB true)]) (by kernel_rfl) mix rfl FS28.stays ⟨⟨⟨_, Try.func12, by kernel_rfl, by kernel_rfl⟩, fun w hw => FS28.stays.callsD hw (laws_aPlates.calls _ _ _ _ _ _ _ _ _ (hw.1) (hw.2.1) (hw.2.2.2.2.2.2.2.2.2.2.1) (hw.2.2.2.2.2.2.2.2.2.2.2.1) (H.f52_5 rfl))⟩, trivial⟩ h hw ?_
  clear h hw
  intro a w h hw
  show Code.wp _ (Code.cond (tm 541) B27 Code.skip) _ _ _
  refine wp_cond_false (h.opd (by kernel_rfl)) ?_
  refine wp_skip ?_
  exact t48 H (h.cut (by kernel_rfl)) (let ⟨_,_,p,q,r,s,t,u,v,x,_,_,y⟩ := hw; ⟨p,q,r,s,t,u,v,x,y⟩)
theorem t29 (H : Facts kk l0 l1 ls pn pl lad ok plc one low hig thr at1 la lb ha hb1 x1 y1 m1 k1 wi fv rm sv le true oa ob el ln nb lt tt jc jd jo ff ma mb na nl) {a : Act} {w : World} (h : Has 590 a [(33, (vS A297 m1 c297)), (34, (vI k1)), (43, (vS A327 le c327)), (51, (vS A350 ln c350)), (52, (vI nb)), (53, (.string lt)), (54, (vB tt)), (57, (vS A367 jc c367)), (58, (vS Z367 jd z367)), (59, (vS A373 jo c373)), (60, (vB ff))]) (hw : FS26 jo jc jd ln le m1 c373 c367 z367 c350 c327 c297 A373 A367 Z367 A350 A327 A297 w0 w) : B29.wp Try.prog (Exit.then (fun a w => Code.wp Try.prog B48 (Ql w0) a w) (Ql w0)) a w := by
  refine wp_seq ?_
  obtain ⟨hp0, hp1, hp2⟩ := H.hnn rfl
  obtain ⟨ad, hA⟩ := P_some (hw.2.2.2.2.2.2.2.2.2.2.1) (i := k1.toNat) (by omega)
  refine region_list ?_
  refine quiet_ 0 5 5 (K := [(33, (vS A297 m1 c297)), (51, (vS A350 ln c350)), (52, (vI nb)), (53, (.string lt)), (54, (vB tt)), (57, (vS A367 jc c367)), (58, (vS Z367 jd z367)), (59, (vS A373 jo c373)), (60, (vB ff)), (526, (vS A327 le c327)), (530, (vA ma mb))]) (obs := [.op (Op.indexAddr 24 (tm 527) (tm 528)) 0 [((tm 527), (vS A297 m1 c297)), ((tm 528), (vI k1))] (.pointer (some ((ad.add ((k1.toNat) * 2))))), .op (Op.load 26 (tm 529)) 26 [((tm 529), (.pointer (some ((ad.add ((k1.toNat) * 2))))))] (vA ma mb)]) (by kernel_rfl) rfl ⟨(ok_idxe24 hA (by omega) (by omega)), (ok_load26p (fun w hw => P_cells (hw.2.2.2.2.2.2.2.2.2.2.1) hA hp2)), trivial⟩ h hw ?_
  clear h hw
  intro a w h hw
  refine made_ (σ := Option Addr × Nat) (F := FS26 jo jc jd ln le m1 c373 c367 z367 c350 c327 c297 A373 A367 Z367 A350 A327 A297 w0) 5 6 (f := 6) (d := 531) (vs := [(vS A327 le c327), (vA ma mb)]) (by kernel_rfl) rfl h hw Try.func6 (by kernel_rfl) (by kernel_rfl) (fun s => (.tuple #[(.slice s.1 m1.length s.2), (vB true)])) (fun s w => FS27 m1 jo jc jd ln le s.2 c373 c367 z367 c350 c327 c297 s.1 A373 A367 Z367 A350 A327 A297 w0 w) ?_ ?_
  · intro w hw
    refine (impl_AddPlate.calls _ _ _ _ _ _ _ _ _ (hw.2.2.2.2.2.2.2.2.1) (hw.2.2.2.2.2.2.2.2.2.1) (H.f51_5 rfl)).mono ?_
    rintro e w' ⟨v0_, he, hR0, hb⟩
    obtain ⟨A0_, c0_, rfl, hc0_, hC0_⟩ := Kd.R_reads hR0
    have hw' := FS26.stays w w' hw hb
    exact ⟨(A0_, c0_), he, ⟨hC0_, hc0_, hw'⟩⟩
  clear h hw
  rintro ⟨A531, c531⟩ a w h hw
  exact quiet_ 6 5 11 (obs := []) (by kernel_rfl) rfl trivial h hw fun a w h hw => end_ (by kernel_rfl) (t28 H h (let ⟨p,q,r,s,t,u,v,x,y,z,_,_,b⟩ := hw; ⟨p,q,r,s,t,u,v,x,y,z,b⟩))
theorem t49 (H : Facts kk l0 l1 ls pn pl lad ok plc one low hig thr at1 la lb ha hb1 x1 y1 m1 k1 wi fv rm sv le nn oa ob el ln nb lt tt jc jd jo ff ma mb na nl) {a : Act} {w : World} (h : Has 590 a [(33, (vS A297 m1 c297)), (34, (vI k1)), (43, (vS A327 le c327)), (44, (vB nn)), (51, (vS A350 ln c350)), (52, (vI nb)), (53, (.string lt)), (54, (vB tt)), (57, (vS A367 jc c367)), (58, (vS Z367 jd z367)), (59, (vS A373 jo c373)), (60, (vB ff))]) (hw : FS26 jo jc jd ln le m1 c373 c367 z367 c350 c327 c297 A373 A367 Z367 A350 A327 A297 w0 w) : B49.wp Try.prog (Ql w0) a w := by
  refine wp_seq ?_
  refine wp_seq ?_
  refine region_ (K := [(33, (vS A297 m1 c297)), (34, (vI k1)), (43, (vS A327 le c327)), (51, (vS A350 ln c350)), (52, (vI nb)), (53, (.string lt)), (54, (vB tt)), (57, (vS A367 jc c367)), (58, (vS Z367 jd z367)), (59, (vS A373 jo c373)), (60, (vB ff)), (524, (vB nn))]) (obs := []) (by kernel_rfl) mix rfl FS26.stays trivial h hw ?_
  clear h hw
  intro a w h hw
  show Code.wp _ (Code.cond (tm 524) B29 Code.skip) _ _ _
  cases nn with
  | true =>
    refine wp_cond_true (h.opd (by kernel_rfl)) ?_
    exact t29 H (h.cut (by kernel_rfl)) hw
  | false =>
    refine wp_cond_false (h.opd (by kernel_rfl)) ?_
    refine wp_skip ?_
    exact t48 H (h.cut (by kernel_rfl)) (let ⟨p,q,r,s,t,u,v,x,_,_,_,_,y⟩ := hw; ⟨p,q,r,s,t,u,v,x,y⟩)
theorem t50 (H : Facts kk l0 l1 ls pn pl lad ok plc one low hig thr at1 la lb ha hb1 x1 y1 m1 k1 wi fv rm sv le nn oa ob el ln nb lt tt jc jd jo ff ma mb na nl) {a : Act} {w : World} (h : Has 590 a [(33, (vS A297 m1 c297)), (34, (vI k1)), (36, (vB fv)), (39, (vI rm)), (40, (vB sv)), (43, (vS A327 le c327)), (44, (vB nn)), (51, (vS A350 ln c350)), (52, (vI nb)), (53, (.string lt)), (54, (vB tt)), (57, (vS A367 jc c367)), (58, (vS Z367 jd z367)), (59, (vS A373 jo c373)), (60, (vB ff))]) (hw : FS26 jo jc jd ln le m1 c373 c367 z367 c350 c327 c297 A373 A367 Z367 A350 A327 A297 w0 w) : B50.wp Try.prog (Ql w0) a w := by
  refine wp_seq ?_
  refine wp_seq ?_
  cases sv with
  | true =>
    obtain ⟨hp0, hp1, hp2⟩ := H.hrm rfl
    by_cases hx1 : rm > 0
    · by_cases hx2 : (m1.length : Int) < 60
      · obtain rfl : fv = true := hp2 hx1 hx2
        refine region_ (K := [(33, (vS A297 m1 c297)), (34, (vI k1)), (43, (vS A327 le c327)), (44, (vB nn)), (51, (vS A350 ln c350)), (52, (vI nb)), (53, (.string lt)), (54, (vB tt)), (57, (vS A367 jc c367)), (58, (vS Z367 jd z367)), (59, (vS A373 jo c373)), (60, (vB ff)), (523, (vB false))]) (obs := [cK .lss 504 rm 0 false, cK .gtr 507 rm 26 false, cK .gtr 511 rm 0 true, lN 24 514 A297 m1 c297, cK .lss 515 (m1.length : Int) 60 true]) (by kernel_rfl) mix rfl FS26.stays ⟨(ok_lss_int (decide_eq_false (by omega))), (ok_gtr_int (decide_eq_false (by omega))), (ok_gtr_int (decide_eq_true hx1)), (ok_len Try.underlying24), (ok_lss_int (decide_eq_true hx2)), trivial⟩ h hw ?_
        clear h hw
        intro a w h hw
        show Code.wp _ (Code.cond (tm 523) B25 Code.skip) _ _ _
        refine wp_cond_false (h.opd (by kernel_rfl)) ?_
        refine wp_skip ?_
        exact t49 H (h.cut (by kernel_rfl)) hw
      · refine region_ (F := FS26 jo jc jd ln le m1 c373 c367 z367 c350 c327 c297 A373 A367 Z367 A350 A327 A297 w0) (K := [(33, (vS A297 m1 c297)), (34, (vI k1)), (43, (vS A327 le c327)), (44, (vB nn)), (51, (vS A350 ln c350)), (52, (vI nb)), (53, (.string lt)), (54, (vB tt)), (57, (vS A367 jc c367)), (58, (vS Z367 jd z367)), (59, (vS A373 jo c373)), (60, (vB ff)), (523, (vB false))]) (obs := [cK .lss 504 rm 0 false, cK .gtr 507 rm 26 false, cK .gtr 511 rm 0 true, lN 24 514 A297 m1 c297, cK .lss 515 (m1.length : Int) 60 false]) (by kernel_rfl) mix rfl FS26.stays ⟨(ok_lss_int (decide_eq_false (by omega))), (ok_gtr_int (decide_eq_false (by omega))), (ok_gtr_int (decide_eq_true hx1)), (ok_len Try.underlying24), (ok_lss_int (decide_eq_false hx2)), trivial⟩ h hw ?_
        clear h hw
        intro a w h hw
        show Code.wp _ (Code.cond (tm 523) B25 Code.skip) _ _ _
        refine wp_cond_false (h.opd (by kernel_rfl)) ?_
        refine wp_skip ?_
        exact t49 H (h.cut (by kernel_rfl)) hw
    · refine region_ (F := FS26 jo jc jd ln le m1 c373 c367 z367 c350 c327 c297 A373 A367 Z367 A350 A327 A297 w0) (K := [(33, (vS A297 m1 c297)), (34, (vI k1)), (43, (vS A327 le c327)), (44, (vB nn)), (51, (vS A350 ln c350)), (52, (vI nb)), (53, (.string lt)), (54, (vB tt)), (57, (vS A367 jc c367)), (58, (vS Z367 jd z367)), (59, (vS A373 jo c373)), (60, (vB ff)), (523, (vB false))]) (obs := [cK .lss 504 rm 0 false, cK .gtr 507 rm 26 false, cK .gtr 511 rm 0 false]) (by kernel_rfl) mix rfl FS26.stays ⟨(ok_lss_int (decide_eq_false (by omega))), (ok_gtr_int (decide_eq_false (by omega))), (ok_gtr_int (decide_eq_false hx1)), trivial⟩ h hw ?_
      clear h hw
      intro a w h hw
      show Code.wp _ (Code.cond (tm 523) B25 Code.skip) _ _ _
      refine wp_cond_false (h.opd (by kernel_rfl)) ?_
      refine wp_skip ?_
      exact t49 H (h.cut (by kernel_rfl)) hw
  | false =>
    refine region_ (K := [(33, (vS A297 m1 c297)), (34, (vI k1)), (43, (vS A327 le c327)), (44, (vB nn)), (51, (vS A350 ln c350)), (52, (vI nb)), (53, (.string lt)), (54, (vB tt)), (57, (vS A367 jc c367)), (58, (vS Z367 jd z367)), (59, (vS A373 jo c373)), (60, (vB ff)), (523, (vB false))]) (obs := []) (by kernel_rfl) mix rfl FS26.stays trivial h hw ?_
    clear h hw
    intro a w h hw
    show Code.wp _ (Code.cond (tm 523) B25 Code.skip) _ _ _
    refine wp_cond_false (h.opd (by kernel_rfl)) ?_
    refine wp_skip ?_
    exact t49 H (h.cut (by kernel_rfl)) hw
theorem t21 (H : Facts kk l0 l1 ls pn pl lad ok plc one low hig thr at1 la lb ha hb1 x1 y1 m1 k1 wi true rm sv le nn oa ob el ln nb lt tt jc jd jo ff ma mb na nl) {a : Act} {w : World} (h : Has 590 a [(33, (vS A297 m1 c297)), (34, (vI k1)), (35, (vS A303 wi c303)), (36, (vB true)), (39, (vI rm)), (40, (vB sv)), (43, (vS A327 le c327)), (44, (vB nn)), (51, (vS A350 ln c350)), (52, (vI nb)), (53, (.string lt)), (54, (vB tt)), (57, (vS A367 jc c367)), (58, (vS Z367 jd z367)), (59, (vS A373 jo c373)), (60, (vB ff)), (63, (vP g63)), (64, (vB true)), (65, (vS A470 m1 c470)), (66, (vB true))]) (hw : FS31 na nl m1 jo jc jd ln le wi c470 g63 c373 c367 z367 c350 c327 c303 c297 A470 A373 A367 Z367 A350 A327 A303 A297 w0 w) : B21.wp Try.prog (Exit.then (fun a w => Code.wp Try.prog B50 (Ql w0) a w) (Ql w0)) a w := by
  refine wp_seq ?_
  obtain ⟨hp0, hp1, hp3, hp2, hp4, hp5⟩ := H.hk1 rfl
  obtain ⟨ad, hA⟩ := P_some (hw.2.2.2.2.2.2.2.2.2.2.2.2.2.1) (i := (k1 + 1).toNat) (List.getElem?_eq_some_iff.1 hp5).1
  refine region_ (K := [(33, (vS A297 m1 c297)), (34, (vI k1)), (36, (vB true)), (39, (vI rm)), (40, (vB sv)), (43, (vS A327 le c327)), (44, (vB nn)), (51, (vS A350 ln c350)), (52, (vI nb)), (53, (.string lt)), (54, (vB tt)), (57, (vS A367 jc c367)), (58, (vS Z367 jd z367)), (59, (vS A373 jo c373)), (60, (vB ff)), (501, (vB false))]) (obs := [lN 24 476 A303 wi c303, lN 24 478 A297 m1 c297, bO .add (tm 479) (Operand.const (Value.int IntKind.i64 1)) (m1.length : Int) 1 (wrap64 ((m1.length : Int) + 1)), cI .neq 477 480 (wi.length : Int) (wrap64 ((m1.length : Int) + 1)) false, bO .add (tm 485) (Operand.const (Value.int IntKind.i64 1)) k1 1 (k1 + 1), .op (Op.indexAddr 24 (tm 484) (tm 486)) 0 [((tm 484), (vS A303 wi c303)), ((tm 486), (vI (k1 + 1)))] (.pointer (some ((ad.add (((k1 + 1).toNat) * 2))))), .op (Op.load 26 (tm 487)) 26 [((tm 487), (.pointer (some ((ad.add (((k1 + 1).toNat) * 2))))))] (vA na nl), lS 26 63 g63 na nl, .op (Op.binOp BinOp.neq 26 (tm 488) (tm 489) 26) 4 [((tm 488), (vA na nl)), ((tm 489), (vA na nl))] (vB false), .call 12 [(vS A470 m1 c470), (vS A297 m1 c297)] (vB true)]) (by kernel_rfl) mix lex46 FS31.stays ⟨(ok_len Try.underlying24), (ok_len Try.underlying24), (ok_add_int rfl), (ok_neq_int (bne_eq_false_iff_eq.mpr hp4)), (ok_add_int (wadd1_ (H.hk1 rfl).1 (H.hk1 rfl).2.2.1)), (ok_idxe24 hA (by omega) (List.getElem?_eq_some_iff.1 hp5).1), (ok_load26p (fun w hw => P_cells (hw.2.2.2.2.2.2.2.2.2.2.2.2.2.1) hA hp5)), (ok_load26 (fun w hw => (hw.2.2.1))), (ok_neq26 (by simp)), ⟨⟨_, Try.func12, by kernel_rfl, by kernel_rfl⟩, fun w hw => FS31.stays.callsD hw (laws_aPlates.calls _ _ _ _ _ _ _ _ _ (hw.1) (hw.2.1) (hw.2.2.2.2.2.2.2.2.2.2.2.2.2.2.2.1) (hw.2.2.2.2.2.2.2.2.2.2.2.2.2.2.2.2.1) (H.f46_26 rfl))⟩, trivial⟩ h hw ?_
  clear h hw
  intro a w h hw
  show Code.wp _ (Code.cond (tm 501) B20 Code.skip) _ _ _
  refine wp_cond_false (h.opd (by kernel_rfl)) ?_
  refine wp_skip ?_
  exact t50 H (h.cut (by kernel_rfl)) (let ⟨_,_,_,p,q,r,s,t,u,v,x,y,z,_,_,b⟩ := hw; ⟨p,q,r,s,t,u,v,x,y,z,b⟩)
theorem t22 (H : Facts kk l0 l1 ls pn pl lad ok plc one low hig thr at1 la lb ha hb1 x1 y1 m1 k1 wi true rm sv le nn oa ob el ln nb lt tt jc jd jo ff ma mb na nl) {a : Act} {w : World} (h : Has 590 a [(33, (vS A297 m1 c297)), (34, (vI k1)), (35, (vS A303 wi c303)), (36, (vB true)), (39, (vI rm)), (40, (vB sv)), (43, (vS A327 le c327)), (44, (vB nn)), (51, (vS A350 ln c350)), (52, (vI nb)), (53, (.string lt)), (54, (vB tt)), (57, (vS A367 jc c367)), (58, (vS Z367 jd z367)), (59, (vS A373 jo c373)), (60, (vB ff)), (63, (vP g63)), (64, (vB true))]) (hw : FS30 na nl jo jc jd ln le wi m1 g63 c373 c367 z367 c350 c327 c303 c297 A373 A367 Z367 A350 A327 A303 A297 w0 w) : B22.wp Try.prog (Exit.then (fun a w => Code.wp Try.prog B50 (Ql w0) a w) (Ql w0)) a w := by
  refine wp_seq ?_
  refine region_list ?_
  refine quiet_ 0 3 3 (K := [(33, (vS A297 m1 c297)), (34, (vI k1)), (35, (vS A303 wi c303)), (36, (vB true)), (39, (vI rm)), (40, (vB sv)), (43, (vS A327 le c327)), (44, (vB nn)), (51, (vS A350 ln c350)), (52, (vI nb)), (53, (.string lt)), (54, (vB tt)), (57, (vS A367 jc c367)), (58, (vS Z367 jd z367)), (59, (vS A373 jo c373)), (60, (vB ff)), (63, (vP g63)), (64, (vB true)), (467, (vS A303 wi c303)), (469, (vI (k1 + 1)))]) (obs := [bO .add (tm 468) (Operand.const (Value.int IntKind.i64 1)) k1 1 (k1 + 1)]) (by kernel_rfl) rfl ⟨(ok_add_int (wadd1_ (H.hk1 rfl).1 (H.hk1 rfl).2.2.1)), trivial⟩ h hw ?_
  clear h hw
  intro a w h hw
  refine made_ (σ := Option Addr × Nat) (F := FS30 na nl jo jc jd ln le wi m1 g63 c373 c367 z367 c350 c327 c303 c297 A373 A367 Z367 A350 A327 A303 A297 w0) 3 4 (f := 13) (d := 470) (vs := [(vS A303 wi c303), (vI (k1 + 1))]) (by kernel_rfl) rfl h hw Try.func13 (by kernel_rfl) (by kernel_rfl) (fun s => (.tuple #[(.slice s.1 m1.length s.2), (vB true)])) (fun s w => FS31 na nl m1 jo jc jd ln le wi s.2 g63 c373 c367 z367 c350 c327 c303 c297 s.1 A373 A367 Z367 A350 A327 A303 A297 w0 w) ?_ ?_
  · intro w hw
    refine (impl_DropPlate.calls _ _ _ _ _ _ _ _ (hw.2.2.2.2.2.2.2.2.2.2.2.1) (hw.2.2.2.2.2.2.2.2.2.2.2.2.1) (H.f45_3 rfl)).mono ?_
    rintro e w' ⟨v0_, he, hR0, hb⟩
    obtain ⟨A0_, c0_, rfl, hc0_, hC0_⟩ := Kd.R_reads hR0
    have hw' := FS30.stays w w' hw hb
    exact ⟨(A0_, c0_), he, ⟨hC0_, hc0_, hw'⟩⟩
  clear h hw
  rintro ⟨A470, c470⟩ a w h hw
  exact quiet_ 4 5 9 (obs := []) (by kernel_rfl) rfl trivial h hw fun a w h hw => end_ (by kernel_rfl) (t21 H h hw)
theorem t23 (H : Facts kk l0 l1 ls pn pl lad ok plc one low hig thr at1 la lb ha hb1 x1 y1 m1 k1 wi true rm sv le nn oa ob el ln nb lt tt jc jd jo ff ma mb na nl) {a : Act} {w : World} (h : Has 590 a [(33, (vS A297 m1 c297)), (34, (vI k1)), (35, (vS A303 wi c303)), (36, (vB true)), (39, (vI rm)), (40, (vB sv)), (43, (vS A327 le c327)), (44, (vB nn)), (51, (vS A350 ln c350)), (52, (vI nb)), (53, (.string lt)), (54, (vB tt)), (57, (vS A367 jc c367)), (58, (vS Z367 jd z367)), (59, (vS A373 jo c373)), (60, (vB ff))]) (hw : FS29 jo jc jd ln le wi m1 c373 c367 z367 c350 c327 c303 c297 A373 A367 Z367 A350 A327 A303 A297 w0 w) : B23.wp Try.prog (Exit.then (fun a w => Code.wp Try.prog B50 (Ql w0) a w) (Ql w0)) a w := by
  refine wp_seq ?_
  obtain ⟨hp0, hp1, -, hp2, -⟩ := H.hk1 rfl
  obtain ⟨ad, hA⟩ := P_some (hw.2.2.2.2.2.2.2.2.2.2.2.2.1) (i := k1.toNat) (by omega)
  refine region_list ?_
  refine quiet_ 0 8 8 (K := [(33, (vS A297 m1 c297)), (34, (vI k1)), (35, (vS A303 wi c303)), (36, (vB true)), (39, (vI rm)), (40, (vB sv)), (43, (vS A327 le c327)), (44, (vB nn)), (51, (vS A350 ln c350)), (52, (vI nb)), (53, (.string lt)), (54, (vB tt)), (57, (vS A367 jc c367)), (58, (vS Z367 jd z367)), (59, (vS A373 jo c373)), (60, (vB ff)), (464, (vA na nl)), (465, (vB true))]) (obs := [.op (Op.indexAddr 24 (tm 459) (tm 460)) 0 [((tm 459), (vS A297 m1 c297)), ((tm 460), (vI k1))] (.pointer (some ((ad.add ((k1.toNat) * 2))))), .op (Op.load 26 (tm 461)) 26 [((tm 461), (.pointer (some ((ad.add ((k1.toNat) * 2))))))] (vA ma mb), .call 30 [(vA ma mb)] (.tuple #[(vA na nl), (vB true)])]) (by kernel_rfl) rfl ⟨(ok_idxe24 hA (by omega) (by omega)), (ok_load26p (fun w hw => P_cells (hw.2.2.2.2.2.2.2.2.2.2.2.2.1) hA hp2)), ⟨⟨_, Try.func30, by kernel_rfl, by kernel_rfl⟩, fun w hw => FS29.stays.calls hw (impl_NextPlate.calls _ _ _ _ _ _ _ (H.f44_4 rfl))⟩, trivial⟩ h hw ?_
  clear h hw
  intro a w h hw
  replace hw : Pend (FS29 jo jc jd ln le wi m1 c373 c367 z367 c350 c327 c303 c297 A373 A367 Z367 A350 A327 A303 A297 w0) [] w := Pend.start hw
  refine alloc26 (F := FS29 jo jc jd ln le wi m1 c373 c367 z367 c350 c327 c303 c297 A373 A367 Z367 A350 A327 A303 A297 w0) (bs := []) 8 9 (d := 63) (by kernel_rfl) rfl h hw ?_
  clear h hw
  intro g63 a w h hw
  refine store26 (F := FS29 jo jc jd ln le wi m1 c373 c367 z367 c350 c327 c303 c297 A373 A367 Z367 A350 A327 A303 A297 w0) (bs := [(g63, .cells #[(vI 0), (vI 0)] 26 (0, 0))]) 9 10 0 (g := g63) (y := na) (z := nl) (u := 0) (v := 0) (by kernel_rfl) rfl rfl h hw ?_
  clear h hw
  intro a w h hw
  replace hw : Pend (FS29 jo jc jd ln le wi m1 c373 c367 z367 c350 c327 c303 c297 A373 A367 Z367 A350 A327 A303 A297 w0) [(g63, .cells #[(vI na), (vI nl)] 26 (0, 0))] w := hw
  have hp_ := Pend.out FS29.stays hw
  replace hw : FS30 na nl jo jc jd ln le wi m1 g63 c373 c367 z367 c350 c327 c303 c297 A373 A367 Z367 A350 A327 A303 A297 w0 w := ⟨hp_.2 0 _ rfl, hp_.1⟩
  clear hp_
  exact quiet_ 10 1 11 (obs := []) (by kernel_rfl) rfl trivial h hw fun a w h hw => end_ (by kernel_rfl) (t22 H h hw)
theorem t51 (H : Facts kk l0 l1 ls pn pl lad ok plc one low hig thr at1 la lb ha hb1 x1 y1 m1 k1 wi fv rm sv le nn oa ob el ln nb lt tt jc jd jo ff ma mb na nl) {a : Act} {w : World} (h : Has 590 a [(33, (vS A297 m1 c297)), (34, (vI k1)), (35, (vS A303 wi c303)), (36, (vB fv)), (39, (vI rm)), (40, (vB sv)), (43, (vS A327 le c327)), (44, (vB nn)), (51, (vS A350 ln c350)), (52, (vI nb)), (53, (.string lt)), (54, (vB tt)), (57, (vS A367 jc c367)), (58, (vS Z367 jd z367)), (59, (vS A373 jo c373)), (60, (vB ff))]) (hw : FS29 jo jc jd ln le wi m1 c373 c367 z367 c350 c327 c303 c297 A373 A367 Z367 A350 A327 A303 A297 w0 w) : B51.wp Try.prog (Ql w0) a w := by
  refine wp_seq ?_
  refine wp_seq ?_
  refine region_ (K := [(33, (vS A297 m1 c297)), (34, (vI k1)), (35, (vS A303 wi c303)), (36, (vB fv)), (39, (vI rm)), (40, (vB sv)), (43, (vS A327 le c327)), (44, (vB nn)), (51, (vS A350 ln c350)), (52, (vI nb)), (53, (.string lt)), (54, (vB tt)), (57, (vS A367 jc c367)), (58, (vS Z367 jd z367)), (59, (vS A373 jo c373)), (60, (vB ff)), (457, (vB fv))]) (obs := []) (by kernel_rfl) mix rfl FS29.stays trivial h hw ?_
  clear h hw
  intro a w h hw
  show Code.wp _ (Code.cond (tm 457) B23 Code.skip) _ _ _
  cases fv with
  | true =>
    refine wp_cond_true (h.opd (by kernel_rfl)) ?_
    exact t23 H (h.cut (by kernel_rfl)) hw
  | false =>
    refine wp_cond_false (h.opd (by kernel_rfl)) ?_
    refine wp_skip ?_
    exact t50 H (h.cut (by kernel_rfl)) (let ⟨p,q,r,s,t,u,v,x,y,z,_,_,b⟩ := hw; ⟨p,q,r,s,t,u,v,x,y,z,b⟩)
theorem t52 (H : Facts kk l0 l1 ls pn pl lad ok plc one low hig thr at1 la lb ha hb1 x1 y1 m1 k1 wi fv rm sv le nn oa ob el ln nb lt tt jc jd jo ff ma mb na nl) {a : Act} {w : World} (h : Has 590 a [(33, (vS A297 m1 c297)), (34, (vI k1)), (35, (vS A303 wi c303)), (36, (vB fv)), (37, (vS A309 wi c309)), (38, (vB fv)), (39, (vI rm)), (40, (vB sv)), (41, (vI rm)), (42, (vB sv)), (43, (vS A327 le c327)), (44, (vB nn)), (45, (vS A333 le c333)), (46, (vB nn)), (47, (vP g47)), (48, (vB el)), (49, (vP g49)), (50, (vB el)), (51, (vS A350 ln c350)), (52, (vI nb)), (53, (.string lt)), (54, (vB tt)), (55, (.string lt)), (56, (vB tt)), (57, (vS A367 jc c367)), (58, (vS Z367 jd z367)), (59, (vS A373 jo c373)), (60, (vB ff)), (61, (vS A379 jo c379)), (62, (vB ff))]) (hw : FS20 oa ob jo jc jd ln le wi m1 c379 c373 c367 z367 c350 g49 g47 c333 c327 c309 c303 c297 A379 A373 A367 Z367 A350 A333 A327 A309 A303 A297 w0 w) : B52.wp Try.prog (Ql w0) a w := by
  refine wp_seq ?_
  refine wp_seq ?_
  cases fv with
  | true =>
    obtain rfl : sv = true := H.hfs rfl
    cases nn with
    | true =>
      refine region_ (K := [(33, (vS A297 m1 c297)), (34, (vI k1)), (35, (vS A303 wi c303)), (36, (vB true)), (39, (vI rm)), (40, (vB true)), (43, (vS A327 le c327)), (44, (vB true)), (51, (vS A350 ln c350)), (52, (vI nb)), (53, (.string lt)), (54, (vB tt)), (57, (vS A367 jc c367)), (58, (vS Z367 jd z367)), (59, (vS A373 jo c373)), (60, (vB ff)), (456, (vB false))]) (obs := [cB .neq 382 383 true true false, .call 12 [(vS A303 wi c303), (vS A309 wi c309)] (vB true), cB .neq 392 393 true true false, cI .neq 397 398 rm rm false, cB .neq 402 403 true true false, .call 12 [(vS A327 le c327), (vS A333 le c333)] (vB true), cB .neq 413 414 el el false, lS 26 47 g47 oa ob, lS 26 49 g49 oa ob, .op (Op.binOp BinOp.neq 26 (tm 418) (tm 419) 26) 4 [((tm 418), (vA oa ob)), ((tm 419), (vA oa ob))] (vB false), cB .neq 423 424 tt tt false, .op (Op.binOp BinOp.neq 9 (tm 428) (tm 429) 9) 4 [((tm 428), (.string lt)), ((tm 429), (.string lt))] (vB false), cB .neq 433 434 ff ff false, .call 12 [(vS A373 jo c373), (vS A379 jo c379)] (vB true)]) (by kernel_rfl) mix rfl FS20.stays ⟨(ok_neq_bool Try.underlying4 (bne_self_eq_false _)), ⟨⟨_, Try.func12, by kernel_rfl, by kernel_rfl⟩, fun w hw => FS20.stays.callsD hw (laws_aPlates.calls _ _ _ _ _ _ _ _ _ (hw.2.2.2.2.2.2.2.2.2.2.2.2.2.2.2.2.2.2.1) (hw.2.2.2.2.2.2.2.2.2.2.2.2.2.2.2.2.2.2.2.1) (hw.2.2.2.2.2.2.2.2.2.2.2.2.2.2.2.2.1) (hw.2.2.2.2.2.2.2.2.2.2.2.2.2.2.2.2.2.1) (H.f41_6))⟩, (ok_neq_bool Try.underlying4 (bne_self_eq_false _)), (ok_neq_int (bne_self_eq_false _)), (ok_neq_bool Try.underlying4 (bne_self_eq_false _)), ⟨⟨_, Try.func12, by kernel_rfl, by kernel_rfl⟩, fun w hw => FS20.stays.callsD hw (laws_aPlates.calls _ _ _ _ _ _ _ _ _ (hw.2.2.2.2.2.2.2.2.2.2.2.2.2.2.1) (hw.2.2.2.2.2.2.2.2.2.2.2.2.2.2.2.1) (hw.2.2.2.2.2.2.2.2.2.2.2.2.1) (hw.2.2.2.2.2.2.2.2.2.2.2.2.2.1) (H.f41_27))⟩, (ok_neq_bool Try.underlying4 (bne_self_eq_false _)), (ok_load26 (fun w hw => (hw.2.2.2.2.2.2.2.2.2.2.2.1))), (ok_load26 (fun w hw => (hw.2.2.2.2.2.2.2.2.2.2.1))), (ok_neq26 (by simp)), (ok_neq_bool Try.underlying4 (bne_self_eq_false _)), (ok_neq_str (by simp)), (ok_neq_bool Try.underlying4 (bne_self_eq_false _)), ⟨⟨_, Try.func12, by kernel_rfl, by kernel_rfl⟩, fun w hw => FS20.stays.callsD hw (laws_aPlates.calls _ _ _ _ _ _ _ _ _ (hw.2.2.1) (hw.2.2.2.1) (hw.1) (hw.2.1) (H.f41_58))⟩, trivial⟩ h hw ?_
      clear h hw
      intro a w h hw
      show Code.wp _ (Code.cond (tm 456) B18 Code.skip) _ _ _
      refine wp_cond_false (h.opd (by kernel_rfl)) ?_
      refine wp_skip ?_
      exact t51 H (h.cut (by kernel_rfl)) (let ⟨_,_,p,q,r,s,t,u,v,x,_,_,_,_,y,z,_,_,b⟩ := hw; ⟨p,q,r,s,t,u,v,x,y,z,b⟩)
    | false =>
      refine region_ (K := [(33, (vS A297 m1 c297)), (34, (vI k1)), (35, (vS A303 wi c303)), (36, (vB true)), (39, (vI rm)), (40, (vB true)), (43, (vS A327 le c327)), (44, (vB false)), (51, (vS A350 ln c350)), (52, (vI nb)), (53, (.string lt)), (54, (vB tt)), (57, (vS A367 jc c367)), (58, (vS Z367 jd z367)), (59, (vS A373 jo c373)), (60, (vB ff)), (456, (vB false))]) (obs := [cB .neq 382 383 true true false, .call 12 [(vS A303 wi c303), (vS A309 wi c309)] (vB true), cB .neq 392 393 true true false, cI .neq 397 398 rm rm false, cB .neq 402 403 false false false, .call 12 [(vS A327 le c327), (vS A333 le c333)] (vB true), cB .neq 413 414 el el false, lS 26 47 g47 oa ob, lS 26 49 g49 oa ob, .op (Op.binOp BinOp.neq 26 (tm 418) (tm 419) 26) 4 [((tm 418), (vA oa ob)), ((tm 419), (vA oa ob))] (vB false), cB .neq 423 424 tt tt false, .op (Op.binOp BinOp.neq 9 (tm 428) (tm 429) 9) 4 [((tm 428), (.string lt)), ((tm 429), (.string lt))] (vB false), cB .neq 433 434 ff ff false, .call 12 [(vS A373 jo c373), (vS A379 jo c379)] (vB true)]) (by kernel_rfl) mix rfl FS20.stays ⟨(ok_neq_bool Try.underlying4 (bne_self_eq_false _)), ⟨⟨_, Try.func12, by kernel_rfl, by kernel_rfl⟩, fun w hw => FS20.stays.callsD hw (laws_aPlates.calls _ _ _ _ _ _ _ _ _ (hw.2.2.2.2.2.2.2.2.2.2.2.2.2.2.2.2.2.2.1) (hw.2.2.2.2.2.2.2.2.2.2.2.2.2.2.2.2.2.2.2.1) (hw.2.2.2.2.2.2.2.2.2.2.2.2.2.2.2.2.1) (hw.2.2.2.2.2.2.2.2.2.2.2.2.2.2.2.2.2.1) (H.f41_6))⟩, (ok_neq_bool Try.underlying4 (bne_self_eq_false _)), (ok_neq_int (bne_self_eq_false _)), (ok_neq_bool Try.underlying4 (bne_self_eq_false _)), ⟨⟨_, Try.func12, by kernel_rfl, by kernel_rfl⟩, fun w hw => FS20.stays.callsD hw (laws_aPlates.calls _ _ _ _ _ _ _ _ _ (hw.2.2.2.2.2.2.2.2.2.2.2.2.2.2.1) (hw.2.2.2.2.2.2.2.2.2.2.2.2.2.2.2.1) (hw.2.2.2.2.2.2.2.2.2.2.2.2.1) (hw.2.2.2.2.2.2.2.2.2.2.2.2.2.1) (H.f41_27))⟩, (ok_neq_bool Try.underlying4 (bne_self_eq_false _)), (ok_load26 (fun w hw => (hw.2.2.2.2.2.2.2.2.2.2.2.1))), (ok_load26 (fun w hw => (hw.2.2.2.2.2.2.2.2.2.2.1))), (ok_neq26 (by simp)), (ok_neq_bool Try.underlying4 (bne_self_eq_false _)), (ok_neq_str (by simp)), (ok_neq_bool Try.underlying4 (bne_self_eq_false _)), ⟨⟨_, Try.func12, by kernel_rfl, by kernel_rfl⟩, fun w hw => FS20.stays.callsD hw (laws_aPlates.calls _ _ _ _ _ _ _ _ _ (hw.2.2.1) (hw.2.2.2.1) (hw.1) (hw.2.1) (H.f41_58))⟩, trivial⟩ h hw ?_
      clear h hw
      intro a w h hw
      show Code.wp _ (Code.cond (tm 456) B18 Code.skip) _ _ _
      refine wp_cond_false (h.opd (by kernel_rfl)) ?_
      refine wp_skip ?_
      exact t51 H (h.cut (by kernel_rfl)) (let ⟨_,_,p,q,r,s,t,u,v,x,_,_,_,_,y,z,_,_,b⟩ := hw; ⟨p,q,r,s,t,u,v,x,y,z,b⟩)
  | false =>
    cases nn with
    | true =>
      obtain rfl : sv = true := H.hns rfl
      refine region_ (K := [(33, (vS A297 m1 c297)), (34, (vI k1)), (35, (vS A303 wi c303)), (36, (vB false)), (39, (vI rm)), (40, (vB true)), (43, (vS A327 le c327)), (44, (vB true)), (51, (vS A350 ln c350)), (52, (vI nb)), (53, (.string lt)), (54, (vB tt)), (57, (vS A367 jc c367)), (58, (vS Z367 jd z367)), (59, (vS A373 jo c373)), (60, (vB ff)), (456, (vB false))]) (obs := [cB .neq 382 383 false false false, .call 12 [(vS A303 wi c303), (vS A309 wi c309)] (vB true), cB .neq 392 393 true true false, cI .neq 397 398 rm rm false, cB .neq 402 403 true true false, .call 12 [(vS A327 le c327), (vS A333 le c333)] (vB true), cB .neq 413 414 el el false, lS 26 47 g47 oa ob, lS 26 49 g49 oa ob, .op (Op.binOp BinOp.neq 26 (tm 418) (tm 419) 26) 4 [((tm 418), (vA oa ob)), ((tm 419), (vA oa ob))] (vB false), cB .neq 423 424 tt tt false, .op (Op.binOp BinOp.neq 9 (tm 428) (tm 429) 9) 4 [((tm 428), (.string lt)), ((tm 429), (.string lt))] (vB false), cB .neq 433 434 ff ff false, .call 12 [(vS A373 jo c373), (vS A379 jo c379)] (vB true)]) (by kernel_rfl) mix rfl FS20.stays ⟨(ok_neq_bool Try.underlying4 (bne_self_eq_false _)), ⟨⟨_, Try.func12, by kernel_rfl, by kernel_rfl⟩, fun w hw => FS20.stays.callsD hw (laws_aPlates.calls _ _ _ _ _ _ _ _ _ (hw.2.2.2.2.2.2.2.2.2.2.2.2.2.2.2.2.2.2.1) (hw.2.2.2.2.2.2.2.2.2.2.2.2.2.2.2.2.2.2.2.1) (hw.2.2.2.2.2.2.2.2.2.2.2.2.2.2.2.2.1) (hw.2.2.2.2.2.2.2.2.2.2.2.2.2.2.2.2.2.1) (H.f41_6))⟩, (ok_neq_bool Try.underlying4 (bne_self_eq_false _)), (ok_neq_int (bne_self_eq_false _)), (ok_neq_bool Try.underlying4 (bne_self_eq_false _)), ⟨⟨_, Try.func12, by kernel_rfl, by kernel_rfl⟩, fun w hw => FS20.stays.callsD hw (laws_aPlates.calls _ _ _ _ _ _ _ _ _ (hw.2.2.2.2.2.2.2.2.2.2.2.2.2.2.1) (hw.2.2.2.2.2.2.2.2.2.2.2.2.2.2.2.1) (hw.2.2.2.2.2.2.2.2.2.2.2.2.1) (hw.2.2.2.2.2.2.2.2.2.2.2.2.2.1) (H.f41_27))⟩, (ok_neq_bool Try.underlying4 (bne_self_eq_false _)), (ok_load26 (fun w hw => (hw.2.2.2.2.2.2.2.2.2.2.2.1))), (ok_load26 (fun w hw => (hw.2.2.2.2.2.2.2.2.2.2.1))), (ok_neq26 (by simp)), (ok_neq_bool Try.underlying4 (bne_self_eq_false _)), (ok_neq_str (by simp)), (ok_neq_bool Try.underlying4 (bne_self_eq_false _)), ⟨⟨_, Try.func12, by kernel_rfl, by kernel_rfl⟩, fun w hw => FS20.stays.callsD hw (laws_aPlates.calls _ _ _ _ _ _ _ _ _ (hw.2.2.1) (hw.2.2.2.1) (hw.1) (hw.2.1) (H.f41_58))⟩, trivial⟩ h hw ?_
      clear h hw
      intro a w h hw
      show Code.wp _ (Code.cond (tm 456) B18 Code.skip) _ _ _
      refine wp_cond_false (h.opd (by kernel_rfl)) ?_
      refine wp_skip ?_
      exact t51 H (h.cut (by kernel_rfl)) (let ⟨_,_,p,q,r,s,t,u,v,x,_,_,_,_,y,z,_,_,b⟩ := hw; ⟨p,q,r,s,t,u,v,x,y,z,b⟩)
    | false =>
      refine region_ (K := [(33, (vS A297 m1 c297)), (34, (vI k1)), (35, (vS A303 wi c303)), (36, (vB false)), (39, (vI rm)), (40, (vB sv)), (43, (vS A327 le c327)), (44, (vB false)), (51, (vS A350 ln c350)), (52, (vI nb)), (53, (.string lt)), (54, (vB tt)), (57, (vS A367 jc c367)), (58, (vS Z367 jd z367)), (59, (vS A373 jo c373)), (60, (vB ff)), (456, (vB false))]) (obs := [cB .neq 382 383 false false false, .call 12 [(vS A303 wi c303), (vS A309 wi c309)] (vB true), cB .neq 392 393 sv sv false, cI .neq 397 398 rm rm false, cB .neq 402 403 false false false, .call 12 [(vS A327 le c327), (vS A333 le c333)] (vB true), cB .neq 413 414 el el false, lS 26 47 g47 oa ob, lS 26 49 g49 oa ob, .op (Op.binOp BinOp.neq 26 (tm 418) (tm 419) 26) 4 [((tm 418), (vA oa ob)), ((tm 419), (vA oa ob))] (vB false), cB .neq 423 424 tt tt false, .op (Op.binOp BinOp.neq 9 (tm 428) (tm 429) 9) 4 [((tm 428), (.string lt)), ((tm 429), (.string lt))] (vB false), cB .neq 433 434 ff ff false, .call 12 [(vS A373 jo c373), (vS A379 jo c379)] (vB true)]) (by kernel_rfl) mix rfl FS20.stays ⟨(ok_neq_bool Try.underlying4 (bne_self_eq_false _)), ⟨⟨_, Try.func12, by kernel_rfl, by kernel_rfl⟩, fun w hw => FS20.stays.callsD hw (laws_aPlates.calls _ _ _ _ _ _ _ _ _ (hw.2.2.2.2.2.2.2.2.2.2.2.2.2.2.2.2.2.2.1) (hw.2.2.2.2.2.2.2.2.2.2.2.2.2.2.2.2.2.2.2.1) (hw.2.2.2.2.2.2.2.2.2.2.2.2.2.2.2.2.1) (hw.2.2.2.2.2.2.2.2.2.2.2.2.2.2.2.2.2.1) (H.f41_6))⟩, (ok_neq_bool Try.underlying4 (bne_self_eq_false _)), (ok_neq_int (bne_self_eq_false _)), (ok_neq_bool Try.underlying4 (bne_self_eq_false _)), ⟨⟨_, Try.func12, by kernel_rfl, by kernel_rfl⟩, fun w hw => FS20.stays.callsD hw (laws_aPlates.calls _ _ _ _ _ _ _ _ _ (hw.2.2.2.2.2.2.2.2.2.2.2.2.2.2.1) (hw.2.2.2.2.2.2.2.2.2.2.2.2.2.2.2.1) (hw.2.2.2.2.2.2.2.2.2.2.2.2.1) (hw.2.2.2.2.2.2.2.2.2.2.2.2.2.1) (H.f41_27))⟩, (ok_neq_bool Try.underlying4 (bne_self_eq_false _)), (ok_load26 (fun w hw => (hw.2.2.2.2.2.2.2.2.2.2.2.1))), (ok_load26 (fun w hw => (hw.2.2.2.2.2.2.2.2.2.2.1))), (ok_neq26 (by simp)), (ok_neq_bool Try.underlying4 (bne_self_eq_false _)), (ok_neq_str (by simp)), (ok_neq_bool Try.underlying4 (bne_self_eq_false _)), ⟨⟨_, Try.func12, by kernel_rfl, by kernel_rfl⟩, fun w hw => FS20.stays.callsD hw (laws_aPlates.calls _ _ _ _ _ _ _ _ _ (hw.2.2.1) (hw.2.2.2.1) (hw.1) (hw.2.1) (H.f41_58))⟩, trivial⟩ h hw ?_
      clear h hw
      intro a w h hw
      show Code.wp _ (Code.cond (tm 456) B18 Code.skip) _ _ _
      refine wp_cond_false (h.opd (by kernel_rfl)) ?_
      refine wp_skip ?_
      exact t51 H (h.cut (by kernel_rfl)) (let ⟨_,_,p,q,r,s,t,u,v,x,_,_,_,_,y,z,_,_,b⟩ := hw; ⟨p,q,r,s,t,u,v,x,y,z,b⟩)
theorem t53 (H : Facts kk l0 l1 ls pn pl lad ok plc one low hig thr at1 la lb ha hb1 x1 y1 m1 k1 wi fv rm sv le nn oa ob el ln nb lt tt jc jd jo ff ma mb na nl) {a : Act} {w : World} (h : Has 590 a [(33, (vS A297 m1 c297)), (34, (vI k1)), (35, (vS A303 wi c303)), (36, (vB fv)), (37, (vS A309 wi c309)), (38, (vB fv)), (39, (vI rm)), (40, (vB sv)), (41, (vI rm)), (42, (vB sv)), (43, (vS A327 le c327)), (44, (vB nn)), (45, (vS A333 le c333)), (46, (vB nn)), (47, (vP g47)), (48, (vB el)), (49, (vP g49)), (50, (vB el)), (51, (vS A350 ln c350)), (52, (vI nb)), (53, (.string lt)), (54, (vB tt)), (55, (.string lt)), (56, (vB tt)), (57, (vS A367 jc c367)), (58, (vS Z367 jd z367)), (59, (vS A373 jo c373)), (60, (vB ff))]) (hw : FS19 oa ob jo jc jd ln le wi m1 c373 c367 z367 c350 g49 g47 c333 c327 c309 c303 c297 A373 A367 Z367 A350 A333 A327 A309 A303 A297 w0 w) : B53.wp Try.prog (Ql w0) a w := by
  refine wp_seq ?_
  refine region_list ?_
  refine quiet_ 0 2 2 (K := [(33, (vS A297 m1 c297)), (34, (vI k1)), (35, (vS A303 wi c303)), (36, (vB fv)), (37, (vS A309 wi c309)), (38, (vB fv)), (39, (vI rm)), (40, (vB sv)), (41, (vI rm)), (42, (vB sv)), (43, (vS A327 le c327)), (44, (vB nn)), (45, (vS A333 le c333)), (46, (vB nn)), (47, (vP g47)), (48, (vB el)), (49, (vP g49)), (50, (vB el)), (51, (vS A350 ln c350)), (52, (vI nb)), (53, (.string lt)), (54, (vB tt)), (55, (.string lt)), (56, (vB tt)), (57, (vS A367 jc c367)), (58, (vS Z367 jd z367)), (59, (vS A373 jo c373)), (60, (vB ff)), (377, (vS A367 jc c367)), (378, (vS Z367 jd z367))]) (obs := []) (by kernel_rfl) rfl trivial h hw ?_
  clear h hw
  intro a w h hw
  refine made_ (σ := Option Addr × Nat) (F := FS19 oa ob jo jc jd ln le wi m1 c373 c367 z367 c350 g49 g47 c333 c327 c309 c303 c297 A373 A367 Z367 A350 A333 A327 A309 A303 A297 w0) 2 3 (f := 29) (d := 379) (vs := [(vS A367 jc c367), (vS Z367 jd z367)]) (by kernel_rfl) rfl h hw Try.func29 (by kernel_rfl) (by kernel_rfl) (fun s => (.tuple #[(.slice s.1 jo.length s.2), (vB ff)])) (fun s w => FS20 oa ob jo jc jd ln le wi m1 s.2 c373 c367 z367 c350 g49 g47 c333 c327 c309 c303 c297 s.1 A373 A367 Z367 A350 A333 A327 A309 A303 A297 w0 w) ?_ ?_
  · intro w hw
    refine (spec_JoinPlates.calls _ _ _ _ _ _ _ _ _ _ (hw.2.2.1) (hw.2.2.2.1) (hw.2.2.2.2.1) (hw.2.2.2.2.2.1) (H.f40_2)).mono ?_
    rintro e w' ⟨v0_, he, hR0, hb⟩
    obtain ⟨A0_, c0_, rfl, hc0_, hC0_⟩ := Kd.R_reads hR0
    have hw' := FS19.stays w w' hw hb
    exact ⟨(A0_, c0_), he, ⟨hC0_, hc0_, hw'⟩⟩
  clear h hw
  rintro ⟨A379, c379⟩ a w h hw
  exact quiet_ 3 5 8 (obs := []) (by kernel_rfl) rfl trivial h hw fun a w h hw => end_ (by kernel_rfl) (t52 H h hw)
theorem t54 (H : Facts kk l0 l1 ls pn pl lad ok plc one low hig thr at1 la lb ha hb1 x1 y1 m1 k1 wi fv rm sv le nn oa ob el ln nb lt tt jc jd jo ff ma mb na nl) {a : Act} {w : World} (h : Has 590 a [(33, (vS A297 m1 c297)), (34, (vI k1)), (35, (vS A303 wi c303)), (36, (vB fv)), (37, (vS A309 wi c309)), (38, (vB fv)), (39, (vI rm)), (40, (vB sv)), (41, (vI rm)), (42, (vB sv)), (43, (vS A327 le c327)), (44, (vB nn)), (45, (vS A333 le c333)), (46, (vB nn)), (47, (vP g47)), (48, (vB el)), (49, (vP g49)), (50, (vB el)), (51, (vS A350 ln c350)), (52, (vI nb)), (53, (.string lt)), (54, (vB tt)), (55, (.string lt)), (56, (vB tt)), (57, (vS A367 jc c367)), (58, (vS Z367 jd z367))]) (hw : FS18 oa ob jc jd ln le wi m1 c367 z367 c350 g49 g47 c333 c327 c309 c303 c297 A367 Z367 A350 A333 A327 A309 A303 A297 w0 w) : B54.wp Try.prog (Ql w0) a w := by
  refine wp_seq ?_
  refine region_list ?_
  refine quiet_ 0 2 2 (K := [(33, (vS A297 m1 c297)), (34, (vI k1)), (35, (vS A303 wi c303)), (36, (vB fv)), (37, (vS A309 wi c309)), (38, (vB fv)), (39, (vI rm)), (40, (vB sv)), (41, (vI rm)), (42, (vB sv)), (43, (vS A327 le c327)), (44, (vB nn)), (45, (vS A333 le c333)), (46, (vB nn)), (47, (vP g47)), (48, (vB el)), (49, (vP g49)), (50, (vB el)), (51, (vS A350 ln c350)), (52, (vI nb)), (53, (.string lt)), (54, (vB tt)), (55, (.string lt)), (56, (vB tt)), (57, (vS A367 jc c367)), (58, (vS Z367 jd z367)), (371, (vS A367 jc c367)), (372, (vS Z367 jd z367))]) (obs := []) (by kernel_rfl) rfl trivial h hw ?_
  clear h hw
  intro a w h hw
  refine made_ (σ := Option Addr × Nat) (F := FS18 oa ob jc jd ln le wi m1 c367 z367 c350 g49 g47 c333 c327 c309 c303 c297 A367 Z367 A350 A333 A327 A309 A303 A297 w0) 2 3 (f := 15) (d := 373) (vs := [(vS A367 jc c367), (vS Z367 jd z367)]) (by kernel_rfl) rfl h hw Try.func15 (by kernel_rfl) (by kernel_rfl) (fun s => (.tuple #[(.slice s.1 jo.length s.2), (vB ff)])) (fun s w => FS19 oa ob jo jc jd ln le wi m1 s.2 c367 z367 c350 g49 g47 c333 c327 c309 c303 c297 s.1 A367 Z367 A350 A333 A327 A309 A303 A297 w0 w) ?_ ?_
  · intro w hw
    refine (impl_JoinPlates.calls _ _ _ _ _ _ _ _ _ _ (hw.1) (hw.2.1) (hw.2.2.1) (hw.2.2.2.1) (H.f39_2)).mono ?_
    rintro e w' ⟨v0_, he, hR0, hb⟩
    obtain ⟨A0_, c0_, rfl, hc0_, hC0_⟩ := Kd.R_reads hR0
    have hw' := FS18.stays w w' hw hb
    exact ⟨(A0_, c0_), he, ⟨hC0_, hc0_, hw'⟩⟩
  clear h hw
  rintro ⟨A373, c373⟩ a w h hw
  exact quiet_ 3 5 8 (obs := []) (by kernel_rfl) rfl trivial h hw fun a w h hw => end_ (by kernel_rfl) (t53 H h hw)
theorem t55 (H : Facts kk l0 l1 ls pn pl lad ok plc one low hig thr at1 la lb ha hb1 x1 y1 m1 k1 wi fv rm sv le nn oa ob el ln nb lt tt jc jd jo ff ma mb na nl) {a : Act} {w : World} (h : Has 590 a [(1, (vS A1 l1 c1)), (33, (vS A297 m1 c297)), (34, (vI k1)), (35, (vS A303 wi c303)), (36, (vB fv)), (37, (vS A309 wi c309)), (38, (vB fv)), (39, (vI rm)), (40, (vB sv)), (41, (vI rm)), (42, (vB sv)), (43, (vS A327 le c327)), (44, (vB nn)), (45, (vS A333 le c333)), (46, (vB nn)), (47, (vP g47)), (48, (vB el)), (49, (vP g49)), (50, (vB el)), (51, (vS A350 ln c350)), (52, (vI nb)), (53, (.string lt)), (54, (vB tt)), (55, (.string lt)), (56, (vB tt))]) (hw : FS16 oa ob l1 ln le wi m1 c350 g49 g47 c333 c327 c309 c303 c297 c1 A350 A333 A327 A309 A303 A297 A1 w0 w) : B55.wp Try.prog (Ql w0) a w := by
  refine wp_seq ?_
  refine region_list ?_
  refine quiet_ 0 1 1 (K := [(33, (vS A297 m1 c297)), (34, (vI k1)), (35, (vS A303 wi c303)), (36, (vB fv)), (37, (vS A309 wi c309)), (38, (vB fv)), (39, (vI rm)), (40, (vB sv)), (41, (vI rm)), (42, (vB sv)), (43, (vS A327 le c327)), (44, (vB nn)), (45, (vS A333 le c333)), (46, (vB nn)), (47, (vP g47)), (48, (vB el)), (49, (vP g49)), (50, (vB el)), (51, (vS A350 ln c350)), (52, (vI nb)), (53, (.string lt)), (54, (vB tt)), (55, (.string lt)), (56, (vB tt)), (366, (vS A1 l1 c1))]) (obs := []) (by kernel_rfl) rfl trivial h hw ?_
  clear h hw
  intro a w h hw
  refine made_ (σ := (Option Addr × Nat) × (Option Addr × Nat)) (F := FS16 oa ob l1 ln le wi m1 c350 g49 g47 c333 c327 c309 c303 c297 c1 A350 A333 A327 A309 A303 A297 A1 w0) 1 2 (f := 28) (d := 367) (vs := [(vS A1 l1 c1)]) (by kernel_rfl) rfl h hw Try.func28 (by kernel_rfl) (by kernel_rfl) (fun s => (.tuple #[(.slice s.1.1 jc.length s.1.2), (.slice s.2.1 jd.length s.2.2)])) (fun s w => FS17 oa ob l1 jc jd ln le wi m1 s.1.2 s.2.2 c350 g49 g47 c333 c327 c309 c303 c297 c1 s.1.1 s.2.1 A350 A333 A327 A309 A303 A297 A1 w0 w) ?_ ?_
  · intro w hw
    refine (spec_DrawJoinPlates.calls _ _ _ _ _ _ _ (hw.2.2.2.2.2.2.2.2.2.2.2.2.2.2.2.1) (hw.2.2.2.2.2.2.2.2.2.2.2.2.2.2.2.2) (H.f38_1)).mono ?_
    rintro e w' ⟨v0_, v1_, he, hR0, hR1, hb⟩
    obtain ⟨A0_, c0_, rfl, hc0_, hC0_⟩ := Kd.R_reads hR0
    obtain ⟨A1_, c1_, rfl, hc1_, hC1_⟩ := Kd.R_reads hR1
    have hw' := FS16.stays w w' hw hb
    exact ⟨((A0_, c0_), (A1_, c1_)), he, ⟨hC0_, hc0_, hC1_, hc1_, hw'⟩⟩
  clear h hw
  rintro ⟨⟨A367, c367⟩, ⟨Z367, z367⟩⟩ a w h hw
  exact quiet_ 2 5 7 (obs := []) (by kernel_rfl) rfl trivial h hw fun a w h hw => end_ (by kernel_rfl) (t54 H h (let ⟨p,q,r,s,t,u,v,x,y,z,b,c,d,e,f,g,i,j,k,_⟩ := hw; ⟨p,q,r,s,t,u,v,x,y,z,b,c,d,e,f,g,i,j,k⟩))
theorem t56 (H : Facts kk l0 l1 ls pn pl lad ok plc one low hig thr at1 la lb ha hb1 x1 y1 m1 k1 wi fv rm sv le nn oa ob el ln nb lt tt jc jd jo ff ma mb na nl) {a : Act} {w : World} (h : Has 590 a [(1, (vS A1 l1 c1)), (33, (vS A297 m1 c297)), (34, (vI k1)), (35, (vS A303 wi c303)), (36, (vB fv)), (37, (vS A309 wi c309)), (38, (vB fv)), (39, (vI rm)), (40, (vB sv)), (41, (vI rm)), (42, (vB sv)), (43, (vS A327 le c327)), (44, (vB nn)), (45, (vS A333 le c333)), (46, (vB nn)), (47, (vP g47)), (48, (vB el)), (49, (vP g49)), (50, (vB el)), (51, (vS A350 ln c350)), (52, (vI nb)), (53, (.string lt)), (54, (vB tt))]) (hw : FS16 oa ob l1 ln le wi m1 c350 g49 g47 c333 c327 c309 c303 c297 c1 A350 A333 A327 A309 A303 A297 A1 w0 w) : B56.wp Try.prog (Ql w0) a w := by
  refine wp_seq ?_
  exact region_ (obs := [.call 27 [(vS A350 ln c350), (vI nb)] (.tuple #[(.string lt), (vB tt)])]) (by kernel_rfl) mix rfl FS16.stays ⟨⟨⟨_, Try.func27, by kernel_rfl, by kernel_rfl⟩, fun w hw => FS16.stays.calls hw (spec_LettersOf.calls _ _ _ _ _ _ _ _ (hw.1) (hw.2.1) (H.f37_2))⟩, trivial⟩ h hw fun a w h hw => t55 H h hw
theorem t57 (H : Facts kk l0 l1 ls pn pl lad ok plc one low hig thr at1 la lb ha hb1 x1 y1 m1 k1 wi fv rm sv le nn oa ob el ln nb lt tt jc jd jo ff ma mb na nl) {a : Act} {w : World} (h : Has 590 a [(1, (vS A1 l1 c1)), (33, (vS A297 m1 c297)), (34, (vI k1)), (35, (vS A303 wi c303)), (36, (vB fv)), (37, (vS A309 wi c309)), (38, (vB fv)), (39, (vI rm)), (40, (vB sv)), (41, (vI rm)), (42, (vB sv)), (43, (vS A327 le c327)), (44, (vB nn)), (45, (vS A333 le c333)), (46, (vB nn)), (47, (vP g47)), (48, (vB el)), (49, (vP g49)), (50, (vB el)), (51, (vS A350 ln c350)), (52, (vI nb))]) (hw : FS16 oa ob l1 ln le wi m1 c350 g49 g47 c333 c327 c309 c303 c297 c1 A350 A333 A327 A309 A303 A297 A1 w0 w) : B57.wp Try.prog (Ql w0) a w := by
  refine wp_seq ?_
  exact region_ (obs := [.call 26 [(vS A350 ln c350), (vI nb)] (.tuple #[(.string lt), (vB tt)])]) (by kernel_rfl) mix rfl FS16.stays ⟨⟨⟨_, Try.func26, by kernel_rfl, by kernel_rfl⟩, fun w hw => FS16.stays.calls hw (impl_LettersOf.calls _ _ _ _ _ _ _ _ (hw.1) (hw.2.1) (H.f36_2))⟩, trivial⟩ h hw fun a w h hw => t56 H h hw
theorem t58 (H : Facts kk l0 l1 ls pn pl lad ok plc one low hig thr at1 la lb ha hb1 x1 y1 m1 k1 wi fv rm sv le nn oa ob el ln nb lt tt jc jd jo ff ma mb na nl) {a : Act} {w : World} (h : Has 590 a [(1, (vS A1 l1 c1)), (33, (vS A297 m1 c297)), (34, (vI k1)), (35, (vS A303 wi c303)), (36, (vB fv)), (37, (vS A309 wi c309)), (38, (vB fv)), (39, (vI rm)), (40, (vB sv)), (41, (vI rm)), (42, (vB sv)), (43, (vS A327 le c327)), (44, (vB nn)), (45, (vS A333 le c333)), (46, (vB nn)), (47, (vP g47)), (48, (vB el)), (49, (vP g49)), (50, (vB el))]) (hw : FS15 oa ob l1 le wi m1 g49 g47 c333 c327 c309 c303 c297 c1 A333 A327 A309 A303 A297 A1 w0 w) : B58.wp Try.prog (Ql w0) a w := by
  refine wp_seq ?_
  refine region_list ?_
  refine quiet_ 0 1 1 (K := [(1, (vS A1 l1 c1)), (33, (vS A297 m1 c297)), (34, (vI k1)), (35, (vS A303 wi c303)), (36, (vB fv)), (37, (vS A309 wi c309)), (38, (vB fv)), (39, (vI rm)), (40, (vB sv)), (41, (vI rm)), (42, (vB sv)), (43, (vS A327 le c327)), (44, (vB nn)), (45, (vS A333 le c333)), (46, (vB nn)), (47, (vP g47)), (48, (vB el)), (49, (vP g49)), (50, (vB el)), (349, (vS A1 l1 c1))]) (obs := []) (by kernel_rfl) rfl trivial h hw ?_
  clear h hw
  intro a w h hw
  refine made_ (σ := Option Addr × Nat) (F := FS15 oa ob l1 le wi m1 g49 g47 c333 c327 c309 c303 c297 c1 A333 A327 A309 A303 A297 A1 w0) 1 2 (f := 25) (d := 350) (vs := [(vS A1 l1 c1)]) (by kernel_rfl) rfl h hw Try.func25 (by kernel_rfl) (by kernel_rfl) (fun s => (.tuple #[(.slice s.1 ln.length s.2), (vI nb)])) (fun s w => FS16 oa ob l1 ln le wi m1 s.2 g49 g47 c333 c327 c309 c303 c297 c1 s.1 A333 A327 A309 A303 A297 A1 w0 w) ?_ ?_
  · intro w hw
    refine (spec_DrawLettersOf.calls _ _ _ _ _ _ _ (hw.2.2.2.2.2.2.2.2.2.2.2.2.2.1) (hw.2.2.2.2.2.2.2.2.2.2.2.2.2.2) (H.f35_1)).mono ?_
    rintro e w' ⟨v0_, he, hR0, hb⟩
    obtain ⟨A0_, c0_, rfl, hc0_, hC0_⟩ := Kd.R_reads hR0
    have hw' := FS15.stays w w' hw hb
    exact ⟨(A0_, c0_), he, ⟨hC0_, hc0_, hw'⟩⟩
  clear h hw
  rintro ⟨A350, c350⟩ a w h hw
  exact quiet_ 2 5 7 (obs := []) (by kernel_rfl) rfl trivial h hw fun a w h hw => end_ (by kernel_rfl) (t57 H h hw)
theorem t59 (H : Facts kk l0 l1 ls pn pl lad ok plc one low hig thr at1 la lb ha hb1 x1 y1 m1 k1 wi fv rm sv le nn oa ob el ln nb lt tt jc jd jo ff ma mb na nl) {a : Act} {w : World} (h : Has 590 a [(1, (vS A1 l1 c1)), (33, (vS A297 m1 c297)), (34, (vI k1)), (35, (vS A303 wi c303)), (36, (vB fv)), (37, (vS A309 wi c309)), (38, (vB fv)), (39, (vI rm)), (40, (vB sv)), (41, (vI rm)), (42, (vB sv)), (43, (vS A327 le c327)), (44, (vB nn)), (45, (vS A333 le c333)), (46, (vB nn)), (47, (vP g47)), (48, (vB el))]) (hw : FS14 oa ob l1 le wi m1 g47 c333 c327 c309 c303 c297 c1 A333 A327 A309 A303 A297 A1 w0 w) : B59.wp Try.prog (Ql w0) a w := by
  refine wp_seq ?_
  refine region_list ?_
  refine quiet_ 0 6 6 (K := [(1, (vS A1 l1 c1)), (33, (vS A297 m1 c297)), (34, (vI k1)), (35, (vS A303 wi c303)), (36, (vB fv)), (37, (vS A309 wi c309)), (38, (vB fv)), (39, (vI rm)), (40, (vB sv)), (41, (vI rm)), (42, (vB sv)), (43, (vS A327 le c327)), (44, (vB nn)), (45, (vS A333 le c333)), (46, (vB nn)), (47, (vP g47)), (48, (vB el)), (346, (vA oa ob)), (347, (vB el))]) (obs := [.call 24 [(vS A297 m1 c297), (vI k1)] (.tuple #[(vA oa ob), (vB el)])]) (by kernel_rfl) rfl ⟨⟨⟨_, Try.func24, by kernel_rfl, by kernel_rfl⟩, fun w hw => FS14.stays.calls hw (spec_OldPlate.calls _ _ _ _ _ _ _ _ _ (hw.2.2.2.2.2.2.2.2.2.1) (hw.2.2.2.2.2.2.2.2.2.2.1) (H.f34_2))⟩, trivial⟩ h hw ?_
  clear h hw
  intro a w h hw
  replace hw : Pend (FS14 oa ob l1 le wi m1 g47 c333 c327 c309 c303 c297 c1 A333 A327 A309 A303 A297 A1 w0) [] w := Pend.start hw
  refine alloc26 (F := FS14 oa ob l1 le wi m1 g47 c333 c327 c309 c303 c297 c1 A333 A327 A309 A303 A297 A1 w0) (bs := []) 6 7 (d := 49) (by kernel_rfl) rfl h hw ?_
  clear h hw
  intro g49 a w h hw
  refine store26 (F := FS14 oa ob l1 le wi m1 g47 c333 c327 c309 c303 c297 c1 A333 A327 A309 A303 A297 A1 w0) (bs := [(g49, .cells #[(vI 0), (vI 0)] 26 (0, 0))]) 7 8 0 (g := g49) (y := oa) (z := ob) (u := 0) (v := 0) (by kernel_rfl) rfl rfl h hw ?_
  clear h hw
  intro a w h hw
  replace hw : Pend (FS14 oa ob l1 le wi m1 g47 c333 c327 c309 c303 c297 c1 A333 A327 A309 A303 A297 A1 w0) [(g49, .cells #[(vI oa), (vI ob)] 26 (0, 0))] w := hw
  have hp_ := Pend.out FS14.stays hw
  replace hw : FS15 oa ob l1 le wi m1 g49 g47 c333 c327 c309 c303 c297 c1 A333 A327 A309 A303 A297 A1 w0 w := ⟨hp_.2 0 _ rfl, hp_.1⟩
  clear hp_
  exact quiet_ 8 1 9 (obs := []) (by kernel_rfl) rfl trivial h hw fun a w h hw => end_ (by kernel_rfl) (t58 H h hw)
theorem t60 (H : Facts kk l0 l1 ls pn pl lad ok plc one low hig thr at1 la lb ha hb1 x1 y1 m1 k1 wi fv rm sv le nn oa ob el ln nb lt tt jc jd jo ff ma mb na nl) {a : Act} {w : World} (h : Has 590 a [(1, (vS A1 l1 c1)), (33, (vS A297 m1 c297)), (34, (vI k1)), (35, (vS A303 wi c303)), (36, (vB fv)), (37, (vS A309 wi c309)), (38, (vB fv)), (39, (vI rm)), (40, (vB sv)), (41, (vI rm)), (42, (vB sv)), (43, (vS A327 le c327)), (44, (vB nn)), (45, (vS A333 le c333)), (46, (vB nn))]) (hw : FS13 l1 le wi m1 c333 c327 c309 c303 c297 c1 A333 A327 A309 A303 A297 A1 w0 w) : B60.wp Try.prog (Ql w0) a w := by
  refine wp_seq ?_
  refine region_list ?_
  refine quiet_ 0 6 6 (K := [(1, (vS A1 l1 c1)), (33, (vS A297 m1 c297)), (34, (vI k1)), (35, (vS A303 wi c303)), (36, (vB fv)), (37, (vS A309 wi c309)), (38, (vB fv)), (39, (vI rm)), (40, (vB sv)), (41, (vI rm)), (42, (vB sv)), (43, (vS A327 le c327)), (44, (vB nn)), (45, (vS A333 le c333)), (46, (vB nn)), (340, (vA oa ob)), (341, (vB el))]) (obs := [.call 23 [(vS A297 m1 c297), (vI k1)] (.tuple #[(vA oa ob), (vB el)])]) (by kernel_rfl) rfl ⟨⟨⟨_, Try.func23, by kernel_rfl, by kernel_rfl⟩, fun w hw => FS13.stays.calls hw (impl_OldPlate.calls _ _ _ _ _ _ _ _ _ (hw.2.2.2.2.2.2.2.2.1) (hw.2.2.2.2.2.2.2.2.2.1) (H.f33_2))⟩, trivial⟩ h hw ?_
  clear h hw
  intro a w h hw
  replace hw : Pend (FS13 l1 le wi m1 c333 c327 c309 c303 c297 c1 A333 A327 A309 A303 A297 A1 w0) [] w := Pend.start hw
  refine alloc26 (F := FS13 l1 le wi m1 c333 c327 c309 c303 c297 c1 A333 A327 A309 A303 A297 A1 w0) (bs := []) 6 7 (d := 47) (by kernel_rfl) rfl h hw ?_
  clear h hw
  intro g47 a w h hw
  refine store26 (F := FS13 l1 le wi m1 c333 c327 c309 c303 c297 c1 A333 A327 A309 A303 A297 A1 w0) (bs := [(g47, .cells #[(vI 0), (vI 0)] 26 (0, 0))]) 7 8 0 (g := g47) (y := oa) (z := ob) (u := 0) (v := 0) (by kernel_rfl) rfl rfl h hw ?_
  clear h hw
  intro a w h hw
  replace hw : Pend (FS13 l1 le wi m1 c333 c327 c309 c303 c297 c1 A333 A327 A309 A303 A297 A1 w0) [(g47, .cells #[(vI oa), (vI ob)] 26 (0, 0))] w := hw
  have hp_ := Pend.out FS13.stays hw
  replace hw : FS14 oa ob l1 le wi m1 g47 c333 c327 c309 c303 c297 c1 A333 A327 A309 A303 A297 A1 w0 w := ⟨hp_.2 0 _ rfl, hp_.1⟩
  clear hp_
  exact quiet_ 8 1 9 (obs := []) (by kernel_rfl) rfl trivial h hw fun a w h hw => end_ (by kernel_rfl) (t59 H h hw)
theorem t61 (H : Facts kk l0 l1 ls pn pl lad ok plc one low hig thr at1 la lb ha hb1 x1 y1 m1 k1 wi fv rm sv le nn oa ob el ln nb lt tt jc jd jo ff ma mb na nl) {a : Act} {w : World} (h : Has 590 a [(1, (vS A1 l1 c1)), (33, (vS A297 m1 c297)), (34, (vI k1)), (35, (vS A303 wi c303)), (36, (vB fv)), (37, (vS A309 wi c309)), (38, (vB fv)), (39, (vI rm)), (40, (vB sv)), (41, (vI rm)), (42, (vB sv)), (43, (vS A327 le c327)), (44, (vB nn))]) (hw : FS12 l1 le wi m1 c327 c309 c303 c297 c1 A327 A309 A303 A297 A1 w0 w) : B61.wp Try.prog (Ql w0) a w := by
  refine wp_seq ?_
  refine region_list ?_
  refine quiet_ 0 2 2 (K := [(1, (vS A1 l1 c1)), (33, (vS A297 m1 c297)), (34, (vI k1)), (35, (vS A303 wi c303)), (36, (vB fv)), (37, (vS A309 wi c309)), (38, (vB fv)), (39, (vI rm)), (40, (vB sv)), (41, (vI rm)), (42, (vB sv)), (43, (vS A327 le c327)), (44, (vB nn)), (331, (vS A297 m1 c297)), (332, (vI k1))]) (obs := []) (by kernel_rfl) rfl trivial h hw ?_
  clear h hw
  intro a w h hw
  refine made_ (σ := Option Addr × Nat) (F := FS12 l1 le wi m1 c327 c309 c303 c297 c1 A327 A309 A303 A297 A1 w0) 2 3 (f := 22) (d := 333) (vs := [(vS A297 m1 c297), (vI k1)]) (by kernel_rfl) rfl h hw Try.func22 (by kernel_rfl) (by kernel_rfl) (fun s => (.tuple #[(.slice s.1 le.length s.2), (vB nn)])) (fun s w => FS13 l1 le wi m1 s.2 c327 c309 c303 c297 c1 s.1 A327 A309 A303 A297 A1 w0 w) ?_ ?_
  · intro w hw
    refine (spec_DropPlate.calls _ _ _ _ _ _ _ _ (hw.2.2.2.2.2.2.1) (hw.2.2.2.2.2.2.2.1) (H.f32_2)).mono ?_
    rintro e w' ⟨v0_, he, hR0, hb⟩
    obtain ⟨A0_, c0_, rfl, hc0_, hC0_⟩ := Kd.R_reads hR0
    have hw' := FS12.stays w w' hw hb
    exact ⟨(A0_, c0_), he, ⟨hC0_, hc0_, hw'⟩⟩
  clear h hw
  rintro ⟨A333, c333⟩ a w h hw
  exact quiet_ 3 5 8 (obs := []) (by kernel_rfl) rfl trivial h hw fun a w h hw => end_ (by kernel_rfl) (t60 H h hw)
theorem t62 (H : Facts kk l0 l1 ls pn pl lad ok plc one low hig thr at1 la lb ha hb1 x1 y1 m1 k1 wi fv rm sv le nn oa ob el ln nb lt tt jc jd jo ff ma mb na nl) {a : Act} {w : World} (h : Has 590 a [(1, (vS A1 l1 c1)), (33, (vS A297 m1 c297)), (34, (vI k1)), (35, (vS A303 wi c303)), (36, (vB fv)), (37, (vS A309 wi c309)), (38, (vB fv)), (39, (vI rm)), (40, (vB sv)), (41, (vI rm)), (42, (vB sv))]) (hw : FS11 l1 wi m1 c309 c303 c297 c1 A309 A303 A297 A1 w0 w) : B62.wp Try.prog (Ql w0) a w := by
  refine wp_seq ?_
  refine region_list ?_
  refine quiet_ 0 2 2 (K := [(1, (vS A1 l1 c1)), (33, (vS A297 m1 c297)), (34, (vI k1)), (35, (vS A303 wi c303)), (36, (vB fv)), (37, (vS A309 wi c309)), (38, (vB fv)), (39, (vI rm)), (40, (vB sv)), (41, (vI rm)), (42, (vB sv)), (325, (vS A297 m1 c297)), (326, (vI k1))]) (obs := []) (by kernel_rfl) rfl trivial h hw ?_
  clear h hw
  intro a w h hw
  refine made_ (σ := Option Addr × Nat) (F := FS11 l1 wi m1 c309 c303 c297 c1 A309 A303 A297 A1 w0) 2 3 (f := 13) (d := 327) (vs := [(vS A297 m1 c297), (vI k1)]) (by kernel_rfl) rfl h hw Try.func13 (by kernel_rfl) (by kernel_rfl) (fun s => (.tuple #[(.slice s.1 le.length s.2), (vB nn)])) (fun s w => FS12 l1 le wi m1 s.2 c309 c303 c297 c1 s.1 A309 A303 A297 A1 w0 w) ?_ ?_
  · intro w hw
    refine (impl_DropPlate.calls _ _ _ _ _ _ _ _ (hw.2.2.2.2.1) (hw.2.2.2.2.2.1) (H.f31_2)).mono ?_
    rintro e w' ⟨v0_, he, hR0, hb⟩
    obtain ⟨A0_, c0_, rfl, hc0_, hC0_⟩ := Kd.R_reads hR0
    have hw' := FS11.stays w w' hw hb
    exact ⟨(A0_, c0_), he, ⟨hC0_, hc0_, hw'⟩⟩
  clear h hw
  rintro ⟨A327, c327⟩ a w h hw
  exact quiet_ 3 5 8 (obs := []) (by kernel_rfl) rfl trivial h hw fun a w h hw => end_ (by kernel_rfl) (t61 H h hw)
theorem t63 (H : Facts kk l0 l1 ls pn pl lad ok plc one low hig thr at1 la lb ha hb1 x1 y1 m1 k1 wi fv rm sv le nn oa ob el ln nb lt tt jc jd jo ff ma mb na nl) {a : Act} {w : World} (h : Has 590 a [(1, (vS A1 l1 c1)), (33, (vS A297 m1 c297)), (34, (vI k1)), (35, (vS A303 wi c303)), (36, (vB fv)), (37, (vS A309 wi c309)), (38, (vB fv)), (39, (vI rm)), (40, (vB sv))]) (hw : FS11 l1 wi m1 c309 c303 c297 c1 A309 A303 A297 A1 w0 w) : B63.wp Try.prog (Ql w0) a w := by
  refine wp_seq ?_
  exact region_ (obs := [.call 21 [(vS A297 m1 c297), (vI k1)] (.tuple #[(vI rm), (vB sv)])]) (by kernel_rfl) mix rfl FS11.stays ⟨⟨⟨_, Try.func21, by kernel_rfl, by kernel_rfl⟩, fun w hw => FS11.stays.calls hw (spec_RoomBehind.calls _ _ _ _ _ _ _ _ (hw.2.2.2.2.1) (hw.2.2.2.2.2.1) (H.f30_2))⟩, trivial⟩ h hw fun a w h hw => t62 H h hw
theorem t64 (H : Facts kk l0 l1 ls pn pl lad ok plc one low hig thr at1 la lb ha hb1 x1 y1 m1 k1 wi fv rm sv le nn oa ob el ln nb lt tt jc jd jo ff ma mb na nl) {a : Act} {w : World} (h : Has 590 a [(1, (vS A1 l1 c1)), (33, (vS A297 m1 c297)), (34, (vI k1)), (35, (vS A303 wi c303)), (36, (vB fv)), (37, (vS A309 wi c309)), (38, (vB fv))]) (hw : FS11 l1 wi m1 c309 c303 c297 c1 A309 A303 A297 A1 w0 w) : B64.wp Try.prog (Ql w0) a w := by
  refine wp_seq ?_
  exact region_ (obs := [.call 20 [(vS A297 m1 c297), (vI k1)] (.tuple #[(vI rm), (vB sv)])]) (by kernel_rfl) mix rfl FS11.stays ⟨⟨⟨_, Try.func20, by kernel_rfl, by kernel_rfl⟩, fun w hw => FS11.stays.calls hw (impl_RoomBehind.calls _ _ _ _ _ _ _ _ (hw.2.2.2.2.1) (hw.2.2.2.2.2.1) (H.f29_2))⟩, trivial⟩ h hw fun a w h hw => t63 H h hw
theorem t65 (H : Facts kk l0 l1 ls pn pl lad ok plc one low hig thr at1 la lb ha hb1 x1 y1 m1 k1 wi fv rm sv le nn oa ob el ln nb lt tt jc jd jo ff ma mb na nl) {a : Act} {w : World} (h : Has 590 a [(1, (vS A1 l1 c1)), (33, (vS A297 m1 c297)), (34, (vI k1)), (35, (vS A303 wi c303)), (36, (vB fv))]) (hw : FS10 l1 wi m1 c303 c297 c1 A303 A297 A1 w0 w) : B65.wp Try.prog (Ql w0) a w := by
  refine wp_seq ?_
  refine region_list ?_
  refine quiet_ 0 2 2 (K := [(1, (vS A1 l1 c1)), (33, (vS A297 m1 c297)), (34, (vI k1)), (35, (vS A303 wi c303)), (36, (vB fv)), (307, (vS A297 m1 c297)), (308, (vI k1))]) (obs := []) (by kernel_rfl) rfl trivial h hw ?_
  clear h hw
  intro a w h hw
  refine made_ (σ := Option Addr × Nat) (F := FS10 l1 wi m1 c303 c297 c1 A303 A297 A1 w0) 2 3 (f := 19) (d := 309) (vs := [(vS A297 m1 c297), (vI k1)]) (by kernel_rfl) rfl h hw Try.func19 (by kernel_rfl) (by kernel_rfl) (fun s => (.tuple #[(.slice s.1 wi.length s.2), (vB fv)])) (fun s w => FS11 l1 wi m1 s.2 c303 c297 c1 s.1 A303 A297 A1 w0 w) ?_ ?_
  · intro w hw
    refine (spec_InsertBehind.calls _ _ _ _ _ _ _ _ (hw.2.2.1) (hw.2.2.2.1) (H.f28_2)).mono ?_
    rintro e w' ⟨v0_, he, hR0, hb⟩
    obtain ⟨A0_, c0_, rfl, hc0_, hC0_⟩ := Kd.R_reads hR0
    have hw' := FS10.stays w w' hw hb
    exact ⟨(A0_, c0_), he, ⟨hC0_, hc0_, hw'⟩⟩
  clear h hw
  rintro ⟨A309, c309⟩ a w h hw
  exact quiet_ 3 5 8 (obs := []) (by kernel_rfl) rfl trivial h hw fun a w h hw => end_ (by kernel_rfl) (t64 H h hw)
theorem t66 (H : Facts kk l0 l1 ls pn pl lad ok plc one low hig thr at1 la lb ha hb1 x1 y1 m1 k1 wi fv rm sv le nn oa ob el ln nb lt tt jc jd jo ff ma mb na nl) {a : Act} {w : World} (h : Has 590 a [(1, (vS A1 l1 c1)), (33, (vS A297 m1 c297)), (34, (vI k1))]) (hw : FS9 l1 m1 c297 c1 A297 A1 w0 w) : B66.wp Try.prog (Ql w0) a w := by
  refine wp_seq ?_
  refine region_list ?_
  refine quiet_ 0 2 2 (K := [(1, (vS A1 l1 c1)), (33, (vS A297 m1 c297)), (34, (vI k1)), (301, (vS A297 m1 c297)), (302, (vI k1))]) (obs := []) (by kernel_rfl) rfl trivial h hw ?_
  clear h hw
  intro a w h hw
  refine made_ (σ := Option Addr × Nat) (F := FS9 l1 m1 c297 c1 A297 A1 w0) 2 3 (f := 18) (d := 303) (vs := [(vS A297 m1 c297), (vI k1)]) (by kernel_rfl) rfl h hw Try.func18 (by kernel_rfl) (by kernel_rfl) (fun s => (.tuple #[(.slice s.1 wi.length s.2), (vB fv)])) (fun s w => FS10 l1 wi m1 s.2 c297 c1 s.1 A297 A1 w0 w) ?_ ?_
  · intro w hw
    refine (impl_InsertBehind.calls _ _ _ _ _ _ _ _ (hw.1) (hw.2.1) (H.f27_2)).mono ?_
    rintro e w' ⟨v0_, he, hR0, hb⟩
    obtain ⟨A0_, c0_, rfl, hc0_, hC0_⟩ := Kd.R_reads hR0
    have hw' := FS9.stays w w' hw hb
    exact ⟨(A0_, c0_), he, ⟨hC0_, hc0_, hw'⟩⟩
  clear h hw
  rintro ⟨A303, c303⟩ a w h hw
  exact quiet_ 3 5 8 (obs := []) (by kernel_rfl) rfl trivial h hw fun a w h hw => end_ (by kernel_rfl) (t65 H h hw)
theorem t67 (H : Facts kk l0 l1 ls pn pl lad ok plc one low hig thr at1 la lb ha hb1 x1 y1 m1 k1 wi fv rm sv le nn oa ob el ln nb lt tt jc jd jo ff ma mb na nl) {a : Act} {w : World} (h : Has 590 a [(1, (vS A1 l1 c1))]) (hw : FS8 l1 c1 A1 w0 w) : B67.wp Try.prog (Ql w0) a w := by
  refine wp_seq ?_
  refine region_list ?_
  refine quiet_ 0 1 1 (K := [(1, (vS A1 l1 c1)), (296, (vS A1 l1 c1))]) (obs := []) (by kernel_rfl) rfl trivial h hw ?_
  clear h hw
  intro a w h hw
  refine made_ (σ := Option Addr × Nat) (F := FS8 l1 c1 A1 w0) 1 2 (f := 17) (d := 297) (vs := [(vS A1 l1 c1)]) (by kernel_rfl) rfl h hw Try.func17 (by kernel_rfl) (by kernel_rfl) (fun s => (.tuple #[(.slice s.1 m1.length s.2), (vI k1)])) (fun s w => FS9 l1 m1 s.2 c1 s.1 A1 w0 w) ?_ ?_
  · intro w hw
    refine (spec_DrawInsertBehind.calls _ _ _ _ _ _ _ (hw.2.1) (hw.2.2) (H.f26_1)).mono ?_
    rintro e w' ⟨v0_, he, hR0, hb⟩
    obtain ⟨A0_, c0_, rfl, hc0_, hC0_⟩ := Kd.R_reads hR0
    have hw' := FS8.stays w w' hw hb
    exact ⟨(A0_, c0_), he, ⟨hC0_, hc0_, hw'⟩⟩
  clear h hw
  rintro ⟨A297, c297⟩ a w h hw
  exact quiet_ 2 5 7 (obs := []) (by kernel_rfl) rfl trivial h hw fun a w h hw => end_ (by kernel_rfl) (t66 H h hw)
theorem t12 (H : Facts kk l0 l1 ls pn pl lad ok plc one low hig true at1 la lb ha hb1 x1 y1 m1 k1 wi fv rm sv le nn oa ob el ln nb lt tt jc jd jo ff ma mb na nl) {a : Act} {w : World} (h : Has 590 a [(1, (vS A1 l1 c1)), (5, (vS A79 ls c79)), (15, (vS A109 low c109)), (16, (vS Z109 hig z109)), (25, (vS A223 ls c223)), (26, (vB true)), (27, (vS A229 ls c229)), (28, (vB true)), (29, (vI x1)), (30, (vB true)), (31, (vI y1)), (32, (vB true))]) (hw : FS35 l1 ls low hig c229 c223 c109 z109 c79 c1 A229 A223 A109 Z109 A79 A1 w0 w) : B12.wp Try.prog (Exit.then (fun a w => Code.wp Try.prog B67 (Ql w0) a w) (Ql w0)) a w := by
  refine wp_seq ?_
  obtain ⟨-, -, -, -, hp4, hp5, hp6⟩ := H.hlow rfl
  refine region_ (K := [(1, (vS A1 l1 c1)), (294, (vB false))]) (obs := [.call 12 [(vS A223 ls c223), (vS A79 ls c79)] (vB true), .call 12 [(vS A229 ls c229), (vS A79 ls c79)] (vB true), cK .geq 274 x1 0 false, cK .lss 282 y1 0 false, lN 24 286 A109 low c109, lN 24 288 Z109 hig z109, bO .add (tm 287) (tm 289) (low.length : Int) (hig.length : Int) (wrap64 ((low.length : Int) + (hig.length : Int))), lN 24 291 A79 ls c79, cI .neq 290 292 (wrap64 ((low.length : Int) + (hig.length : Int))) (ls.length : Int) false]) (by kernel_rfl) mix rfl FS35.stays ⟨⟨⟨_, Try.func12, by kernel_rfl, by kernel_rfl⟩, fun w hw => FS35.stays.callsD hw (laws_aPlates.calls _ _ _ _ _ _ _ _ _ (hw.2.2.1) (hw.2.2.2.1) (hw.2.2.2.2.2.2.2.2.1) (hw.2.2.2.2.2.2.2.2.2.1) (H.f24_5 rfl))⟩, ⟨⟨_, Try.func12, by kernel_rfl, by kernel_rfl⟩, fun w hw => FS35.stays.callsD hw (laws_aPlates.calls _ _ _ _ _ _ _ _ _ (hw.1) (hw.2.1) (hw.2.2.2.2.2.2.2.2.1) (hw.2.2.2.2.2.2.2.2.2.1) (H.f24_15 rfl))⟩, (ok_geq_int (decide_eq_false (by omega))), (ok_lss_int (decide_eq_false (by omega))), (ok_len Try.underlying24), (ok_len Try.underlying24), (ok_add_int rfl), (ok_len Try.underlying24), (ok_neq_int (bne_eq_false_iff_eq.mpr hp6)), trivial⟩ h hw ?_
  clear h hw
  intro a w h hw
  show Code.wp _ (Code.cond (tm 294) B11 Code.skip) _ _ _
  refine wp_cond_false (h.opd (by kernel_rfl)) ?_
  refine wp_skip ?_
  exact t67 H (h.cut (by kernel_rfl)) hw.2.2.2.2.2.2.2.2.2.2
theorem t13 (H : Facts kk l0 l1 ls pn pl lad ok plc one low hig true at1 la lb ha hb1 x1 y1 m1 k1 wi fv rm sv le nn oa ob el ln nb lt tt jc jd jo ff ma mb na nl) {a : Act} {w : World} (h : Has 590 a [(1, (vS A1 l1 c1)), (5, (vS A79 ls c79)), (6, (vP g6)), (15, (vS A109 low c109)), (16, (vS Z109 hig z109)), (25, (vS A223 ls c223)), (26, (vB true)), (27, (vS A229 ls c229)), (28, (vB true)), (29, (vI x1)), (30, (vB true))]) (hw : FS34 pn pl l1 ls low hig c229 c223 c109 z109 g6 c79 c1 A229 A223 A109 Z109 A79 A1 w0 w) : B13.wp Try.prog (Exit.then (fun a w => Code.wp Try.prog B67 (Ql w0) a w) (Ql w0)) a w := by
  refine wp_seq ?_
  obtain ⟨-, -, -, hp3, -⟩ := H.hlow rfl
  obtain ⟨ad, hA⟩ := P_some (hw.2.2.2.2.2.2.1) (i := 0) (List.getElem?_eq_some_iff.1 hp3).1
  exact region_ (obs := [.op (Op.indexAddr 24 (tm 244) (Operand.const (Value.int IntKind.i64 0))) 0 [((tm 244), (vS Z109 hig z109)), ((Operand.const (Value.int IntKind.i64 0)), (vI 0))] (.pointer (some ((ad.add (0 * 2))))), .op (Op.load 26 (tm 245)) 26 [((tm 245), (.pointer (some ((ad.add (0 * 2))))))] (vA ha hb1), lS 26 6 g6 pn pl, .call 16 [(vA ha hb1), (vA pn pl)] (.tuple #[(vI y1), (vB true)])]) (by kernel_rfl) mix lex23 FS34.stays ⟨(ok_idxe24 hA rfl (List.getElem?_eq_some_iff.1 hp3).1), (ok_load26p (fun w hw => P_cells (hw.2.2.2.2.2.2.1) hA hp3)), (ok_load26 (fun w hw => (hw.2.2.2.2.2.2.2.2.1))), ⟨⟨_, Try.func16, by kernel_rfl, by kernel_rfl⟩, fun w hw => FS34.stays.calls hw (impl_ComparePlates.calls _ _ _ _ _ _ _ _ (H.f23_4 rfl))⟩, trivial⟩ h hw fun a w h hw => t12 H h (let ⟨p,q,r,s,t,u,v,x,_,y⟩ := hw; ⟨p,q,r,s,t,u,v,x,y⟩)
theorem t14 (H : Facts kk l0 l1 ls pn pl lad ok plc one low hig true at1 la lb ha hb1 x1 y1 m1 k1 wi fv rm sv le nn oa ob el ln nb lt tt jc jd jo ff ma mb na nl) {a : Act} {w : World} (h : Has 590 a [(1, (vS A1 l1 c1)), (5, (vS A79 ls c79)), (6, (vP g6)), (15, (vS A109 low c109)), (16, (vS Z109 hig z109)), (25, (vS A223 ls c223)), (26, (vB true)), (27, (vS A229 ls c229)), (28, (vB true))]) (hw : FS34 pn pl l1 ls low hig c229 c223 c109 z109 g6 c79 c1 A229 A223 A109 Z109 A79 A1 w0 w) : B14.wp Try.prog (Exit.then (fun a w => Code.wp Try.prog B67 (Ql w0) a w) (Ql w0)) a w := by
  refine wp_seq ?_
  obtain ⟨hp0, hp1, hp2, -⟩ := H.hlow rfl
  obtain ⟨ad, hA⟩ := P_some (hw.2.2.2.2.1) (i := low.length - 1) (by omega)
  exact region_ (obs := [lN 24 234 A109 low c109, bO .sub (tm 235) (Operand.const (Value.int IntKind.i64 1)) (low.length : Int) 1 (((low.length - 1 : Nat) : Int)), .op (Op.indexAddr 24 (tm 233) (tm 236)) 0 [((tm 233), (vS A109 low c109)), ((tm 236), (vI (((low.length - 1 : Nat) : Int))))] (.pointer (some ((ad.add ((low.length - 1) * 2))))), .op (Op.load 26 (tm 237)) 26 [((tm 237), (.pointer (some ((ad.add ((low.length - 1) * 2))))))] (vA la lb), lS 26 6 g6 pn pl, .call 16 [(vA la lb), (vA pn pl)] (.tuple #[(vI x1), (vB true)])]) (by kernel_rfl) mix lex22 FS34.stays ⟨(ok_len Try.underlying24), (ok_sub_int (wsub_ (H.hlow rfl).1 (H.hlow rfl).2.1)), (ok_idxe24 hA rfl (by omega)), (ok_load26p (fun w hw => P_cells (hw.2.2.2.2.1) hA hp2)), (ok_load26 (fun w hw => (hw.2.2.2.2.2.2.2.2.1))), ⟨⟨_, Try.func16, by kernel_rfl, by kernel_rfl⟩, fun w hw => FS34.stays.calls hw (impl_ComparePlates.calls _ _ _ _ _ _ _ _ (H.f22_7 rfl))⟩, trivial⟩ h hw fun a w h hw => t13 H h hw
theorem t15 (H : Facts kk l0 l1 ls pn pl lad ok plc one low hig true at1 la lb ha hb1 x1 y1 m1 k1 wi fv rm sv le nn oa ob el ln nb lt tt jc jd jo ff ma mb na nl) {a : Act} {w : World} (h : Has 590 a [(1, (vS A1 l1 c1)), (5, (vS A79 ls c79)), (6, (vP g6)), (15, (vS A109 low c109)), (16, (vS Z109 hig z109)), (25, (vS A223 ls c223)), (26, (vB true))]) (hw : FS33 pn pl l1 ls low hig c223 c109 z109 g6 c79 c1 A223 A109 Z109 A79 A1 w0 w) : B15.wp Try.prog (Exit.then (fun a w => Code.wp Try.prog B67 (Ql w0) a w) (Ql w0)) a w := by
  refine wp_seq ?_
  refine region_list ?_
  refine quiet_ 0 2 2 (K := [(1, (vS A1 l1 c1)), (5, (vS A79 ls c79)), (6, (vP g6)), (15, (vS A109 low c109)), (16, (vS Z109 hig z109)), (25, (vS A223 ls c223)), (26, (vB true)), (227, (vS Z109 hig z109)), (228, (vS A109 low c109))]) (obs := []) (by kernel_rfl) rfl trivial h hw ?_
  clear h hw
  intro a w h hw
  refine made_ (σ := Option Addr × Nat) (F := FS33 pn pl l1 ls low hig c223 c109 z109 g6 c79 c1 A223 A109 Z109 A79 A1 w0) 2 3 (f := 15) (d := 229) (vs := [(vS Z109 hig z109), (vS A109 low c109)]) (by kernel_rfl) rfl h hw Try.func15 (by kernel_rfl) (by kernel_rfl) (fun s => (.tuple #[(.slice s.1 ls.length s.2), (vB true)])) (fun s w => FS34 pn pl l1 ls low hig s.2 c223 c109 z109 g6 c79 c1 s.1 A223 A109 Z109 A79 A1 w0 w) ?_ ?_
  · intro w hw
    refine (impl_JoinPlates.calls _ _ _ _ _ _ _ _ _ _ (hw.2.2.2.2.1) (hw.2.2.2.2.2.1) (hw.2.2.1) (hw.2.2.2.1) (H.f21_2 rfl)).mono ?_
    rintro e w' ⟨v0_, he, hR0, hb⟩
    obtain ⟨A0_, c0_, rfl, hc0_, hC0_⟩ := Kd.R_reads hR0
    have hw' := FS33.stays w w' hw hb
    exact ⟨(A0_, c0_), he, ⟨hC0_, hc0_, hw'⟩⟩
  clear h hw
  rintro ⟨A229, c229⟩ a w h hw
  exact quiet_ 3 5 8 (obs := []) (by kernel_rfl) rfl trivial h hw fun a w h hw => end_ (by kernel_rfl) (t14 H h hw)
theorem t16 (H : Facts kk l0 l1 ls pn pl lad ok plc one low hig true at1 la lb ha hb1 x1 y1 m1 k1 wi fv rm sv le nn oa ob el ln nb lt tt jc jd jo ff ma mb na nl) {a : Act} {w : World} (h : Has 590 a [(1, (vS A1 l1 c1)), (5, (vS A79 ls c79)), (6, (vP g6)), (15, (vS A109 low c109)), (16, (vS Z109 hig z109))]) (hw : FS32 pn pl l1 low hig ls c109 z109 g6 c79 c1 A109 Z109 A79 A1 w0 w) : B16.wp Try.prog (Exit.then (fun a w => Code.wp Try.prog B67 (Ql w0) a w) (Ql w0)) a w := by
  refine wp_seq ?_
  refine region_list ?_
  refine quiet_ 0 2 2 (K := [(1, (vS A1 l1 c1)), (5, (vS A79 ls c79)), (6, (vP g6)), (15, (vS A109 low c109)), (16, (vS Z109 hig z109)), (221, (vS A109 low c109)), (222, (vS Z109 hig z109))]) (obs := []) (by kernel_rfl) rfl trivial h hw ?_
  clear h hw
  intro a w h hw
  refine made_ (σ := Option Addr × Nat) (F := FS32 pn pl l1 low hig ls c109 z109 g6 c79 c1 A109 Z109 A79 A1 w0) 2 3 (f := 15) (d := 223) (vs := [(vS A109 low c109), (vS Z109 hig z109)]) (by kernel_rfl) rfl h hw Try.func15 (by kernel_rfl) (by kernel_rfl) (fun s => (.tuple #[(.slice s.1 ls.length s.2), (vB true)])) (fun s w => FS33 pn pl l1 ls low hig s.2 c109 z109 g6 c79 c1 s.1 A109 Z109 A79 A1 w0 w) ?_ ?_
  · intro w hw
    refine (impl_JoinPlates.calls _ _ _ _ _ _ _ _ _ _ (hw.1) (hw.2.1) (hw.2.2.1) (hw.2.2.2.1) (H.f20_2 rfl)).mono ?_
    rintro e w' ⟨v0_, he, hR0, hb⟩
    obtain ⟨A0_, c0_, rfl, hc0_, hC0_⟩ := Kd.R_reads hR0
    have hw' := FS32.stays w w' hw hb
    exact ⟨(A0_, c0_), he, ⟨hC0_, hc0_, hw'⟩⟩
  clear h hw
  rintro ⟨A223, c223⟩ a w h hw
  exact quiet_ 3 5 8 (obs := []) (by kernel_rfl) rfl trivial h hw fun a w h hw => end_ (by kernel_rfl) (t15 H h hw)
theorem t68 (H : Facts kk l0 l1 ls pn pl lad ok plc one low hig thr at1 la lb ha hb1 x1 y1 m1 k1 wi fv rm sv le nn oa ob el ln nb lt tt jc jd jo ff ma mb na nl) {a : Act} {w : World} (h : Has 590 a [(1, (vS A1 l1 c1)), (5, (vS A79 ls c79)), (6, (vP g6)), (15, (vS A109 low c109)), (16, (vS Z109 hig z109)), (17, (vB thr))]) (hw : FS32 pn pl l1 low hig ls c109 z109 g6 c79 c1 A109 Z109 A79 A1 w0 w) : B68.wp Try.prog (Ql w0) a w := by
  refine wp_seq ?_
  refine wp_seq ?_
  refine region_ (K := [(1, (vS A1 l1 c1)), (5, (vS A79 ls c79)), (6, (vP g6)), (15, (vS A109 low c109)), (16, (vS Z109 hig z109)), (219, (vB thr))]) (obs := []) (by kernel_rfl) mix rfl FS32.stays trivial h hw ?_
  clear h hw
  intro a w h hw
  show Code.wp _ (Code.cond (tm 219) B16 Code.skip) _ _ _
  cases thr with
  | true =>
    refine wp_cond_true (h.opd (by kernel_rfl)) ?_
    exact t16 H (h.cut (by kernel_rfl)) hw
  | false =>
    refine wp_cond_false (h.opd (by kernel_rfl)) ?_
    refine wp_skip ?_
    exact t67 H (h.cut (by kernel_rfl)) hw.2.2.2.2.2.2.2
theorem t69 (H : Facts kk l0 l1 ls pn pl lad ok plc one low hig thr at1 la lb ha hb1 x1 y1 m1 k1 wi fv rm sv le nn oa ob el ln nb lt tt jc jd jo ff ma mb na nl) {a : Act} {w : World} (h : Has 590 a [(1, (vS A1 l1 c1)), (5, (vS A79 ls c79)), (6, (vP g6)), (11, (vI plc)), (12, (vB one)), (15, (vS A109 low c109)), (16, (vS Z109 hig z109)), (17, (vB thr))]) (hw : FS32 pn pl l1 low hig ls c109 z109 g6 c79 c1 A109 Z109 A79 A1 w0 w) : B69.wp Try.prog (Ql w0) a w := by
  refine wp_seq ?_
  refine wp_seq ?_
  cases one with
  | true =>
    obtain ⟨hp0, hp1, hp2⟩ := H.hplace rfl
    obtain ⟨ad, hA⟩ := P_some (hw.2.2.2.2.2.1) (i := plc.toNat) (by omega)
    refine region_ (K := [(1, (vS A1 l1 c1)), (5, (vS A79 ls c79)), (6, (vP g6)), (15, (vS A109 low c109)), (16, (vS Z109 hig z109)), (17, (vB thr)), (218, (vB false))]) (obs := [cK .lss 202 plc 0 false, lN 24 206 A79 ls c79, cI .geq 205 207 plc (ls.length : Int) false, .op (Op.indexAddr 24 (tm 211) (tm 212)) 0 [((tm 211), (vS A79 ls c79)), ((tm 212), (vI plc))] (.pointer (some ((ad.add ((plc.toNat) * 2))))), .op (Op.load 26 (tm 213)) 26 [((tm 213), (.pointer (some ((ad.add ((plc.toNat) * 2))))))] (vA pn pl), lS 26 6 g6 pn pl, .op (Op.binOp BinOp.neq 26 (tm 214) (tm 215) 26) 4 [((tm 214), (vA pn pl)), ((tm 215), (vA pn pl))] (vB false)]) (by kernel_rfl) mix lex17 FS32.stays ⟨(ok_lss_int (decide_eq_false (by omega))), (ok_len Try.underlying24), (ok_geq_int (decide_eq_false (by omega))), (ok_idxe24 hA (by omega) (by omega)), (ok_load26p (fun w hw => P_cells (hw.2.2.2.2.2.1) hA hp2)), (ok_load26 (fun w hw => (hw.2.2.2.2.1))), (ok_neq26 (by simp)), trivial⟩ h hw ?_
    clear h hw
    intro a w h hw
    show Code.wp _ (Code.cond (tm 218) B9 Code.skip) _ _ _
    refine wp_cond_false (h.opd (by kernel_rfl)) ?_
    refine wp_skip ?_
    exact t68 H (h.cut (by kernel_rfl)) hw
  | false =>
    refine region_ (K := [(1, (vS A1 l1 c1)), (5, (vS A79 ls c79)), (6, (vP g6)), (15, (vS A109 low c109)), (16, (vS Z109 hig z109)), (17, (vB thr)), (218, (vB false))]) (obs := []) (by kernel_rfl) mix lex17 FS32.stays trivial h hw ?_
    clear h hw
    intro a w h hw
    show Code.wp _ (Code.cond (tm 218) B9 Code.skip) _ _ _
    refine wp_cond_false (h.opd (by kernel_rfl)) ?_
    refine wp_skip ?_
    exact t68 H (h.cut (by kernel_rfl)) hw
theorem t5 (H : Facts kk l0 l1 ls pn pl lad true plc one low hig thr at1 la lb ha hb1 x1 y1 m1 k1 wi fv rm sv le nn oa ob el ln nb lt tt jc jd jo ff ma mb na nl) {a : Act} {w : World} (h : Has 590 a [(1, (vS A1 l1 c1)), (5, (vS A79 ls c79)), (6, (vP g6)), (7, (vS A85 lad c85)), (11, (vI plc)), (12, (vB one)), (15, (vS A109 low c109)), (16, (vS Z109 hig z109)), (17, (vB thr)), (22, (vB true)), (23, (vS A172 ls c172)), (24, (vB true))]) (hw : FS37 pn pl l1 ls low hig lad c172 c109 z109 c85 g6 c79 c1 A172 A109 Z109 A85 A79 A1 w0 w) : B5.wp Try.prog (Exit.then (fun a w => Code.wp Try.prog B69 (Ql w0) a w) (Ql w0)) a w := by
  refine wp_seq ?_
  refine region_ (K := [(1, (vS A1 l1 c1)), (5, (vS A79 ls c79)), (6, (vP g6)), (11, (vI plc)), (12, (vB one)), (15, (vS A109 low c109)), (16, (vS Z109 hig z109)), (17, (vB thr)), (199, (vB false))]) (obs := [.call 14 [(vS A85 lad c85)] (vB true), lN 24 179 A85 lad c85, lN 24 181 A79 ls c79, bO .add (tm 182) (Operand.const (Value.int IntKind.i64 1)) (ls.length : Int) 1 (wrap64 ((ls.length : Int) + 1)), cI .neq 180 183 (lad.length : Int) (wrap64 ((ls.length : Int) + 1)) false, .call 12 [(vS A172 ls c172), (vS A79 ls c79)] (vB true)]) (by kernel_rfl) mix rfl FS37.stays ⟨⟨⟨_, Try.func14, by kernel_rfl, by kernel_rfl⟩, fun w hw => FS37.stays.calls hw (impl_ArePlates.calls _ _ _ _ _ _ (hw.2.2.2.2.2.2.1) (hw.2.2.2.2.2.2.2.1) (H.f15_1 rfl))⟩, (ok_len Try.underlying24), (ok_len Try.underlying24), (ok_add_int rfl), (ok_neq_int (bne_eq_false_iff_eq.mpr (H.hladd rfl))), ⟨⟨_, Try.func12, by kernel_rfl, by kernel_rfl⟩, fun w hw => FS37.stays.callsD hw (laws_aPlates.calls _ _ _ _ _ _ _ _ _ (hw.1) (hw.2.1) (hw.2.2.2.2.2.2.2.2.2.1) (hw.2.2.2.2.2.2.2.2.2.2.1) (H.f15_22 rfl))⟩, trivial⟩ h hw ?_
  clear h hw
  intro a w h hw
  show Code.wp _ (Code.cond (tm 199) B4 Code.skip) _ _ _
  refine wp_cond_false (h.opd (by kernel_rfl)) ?_
  refine wp_skip ?_
  exact t69 H (h.cut (by kernel_rfl)) (let ⟨_,_,p,q,r,s,_,_,t⟩ := hw; ⟨p,q,r,s,t⟩)
theorem t6 (H : Facts kk l0 l1 ls pn pl lad true plc one low hig thr at1 la lb ha hb1 x1 y1 m1 k1 wi fv rm sv le nn oa ob el ln nb lt tt jc jd jo ff ma mb na nl) {a : Act} {w : World} (h : Has 590 a [(1, (vS A1 l1 c1)), (5, (vS A79 ls c79)), (6, (vP g6)), (7, (vS A85 lad c85)), (11, (vI plc)), (12, (vB one)), (15, (vS A109 low c109)), (16, (vS Z109 hig z109)), (17, (vB thr)), (21, (vI at1)), (22, (vB true))]) (hw : FS36 pn pl l1 low hig lad ls c109 z109 c85 g6 c79 c1 A109 Z109 A85 A79 A1 w0 w) : B6.wp Try.prog (Exit.then (fun a w => Code.wp Try.prog B69 (Ql w0) a w) (Ql w0)) a w := by
  refine wp_seq ?_
  refine region_list ?_
  refine quiet_ 0 2 2 (K := [(1, (vS A1 l1 c1)), (5, (vS A79 ls c79)), (6, (vP g6)), (7, (vS A85 lad c85)), (11, (vI plc)), (12, (vB one)), (15, (vS A109 low c109)), (16, (vS Z109 hig z109)), (17, (vB thr)), (22, (vB true)), (170, (vS A85 lad c85)), (171, (vI at1))]) (obs := []) (by kernel_rfl) rfl trivial h hw ?_
  clear h hw
  intro a w h hw
  refine made_ (σ := Option Addr × Nat) (F := FS36 pn pl l1 low hig lad ls c109 z109 c85 g6 c79 c1 A109 Z109 A85 A79 A1 w0) 2 3 (f := 13) (d := 172) (vs := [(vS A85 lad c85), (vI at1)]) (by kernel_rfl) rfl h hw Try.func13 (by kernel_rfl) (by kernel_rfl) (fun s => (.tuple #[(.slice s.1 ls.length s.2), (vB true)])) (fun s w => FS37 pn pl l1 ls low hig lad s.2 c109 z109 c85 g6 c79 c1 s.1 A109 Z109 A85 A79 A1 w0 w) ?_ ?_
  · intro w hw
    refine (impl_DropPlate.calls _ _ _ _ _ _ _ _ (hw.2.2.2.2.1) (hw.2.2.2.2.2.1) (H.f14_2 rfl)).mono ?_
    rintro e w' ⟨v0_, he, hR0, hb⟩
    obtain ⟨A0_, c0_, rfl, hc0_, hC0_⟩ := Kd.R_reads hR0
    have hw' := FS36.stays w w' hw hb
    exact ⟨(A0_, c0_), he, ⟨hC0_, hc0_, hw'⟩⟩
  clear h hw
  rintro ⟨A172, c172⟩ a w h hw
  exact quiet_ 3 5 8 (obs := []) (by kernel_rfl) rfl trivial h hw fun a w h hw => end_ (by kernel_rfl) (t5 H h hw)
theorem t7 (H : Facts kk l0 l1 ls pn pl lad true plc one low hig thr at1 la lb ha hb1 x1 y1 m1 k1 wi fv rm sv le nn oa ob el ln nb lt tt jc jd jo ff ma mb na nl) {a : Act} {w : World} (h : Has 590 a [(1, (vS A1 l1 c1)), (5, (vS A79 ls c79)), (6, (vP g6)), (7, (vS A85 lad c85)), (11, (vI plc)), (12, (vB one)), (15, (vS A109 low c109)), (16, (vS Z109 hig z109)), (17, (vB thr))]) (hw : FS36 pn pl l1 low hig lad ls c109 z109 c85 g6 c79 c1 A109 Z109 A85 A79 A1 w0 w) : B7.wp Try.prog (Exit.then (fun a w => Code.wp Try.prog B69 (Ql w0) a w) (Ql w0)) a w := by
  refine wp_seq ?_
  exact region_ (obs := [lS 26 6 g6 pn pl, .call 8 [(vS A85 lad c85), (vA pn pl)] (.tuple #[(vI at1), (vB true)])]) (by kernel_rfl) mix rfl FS36.stays ⟨(ok_load26 (fun w hw => (hw.2.2.2.2.2.2.1))), ⟨⟨_, Try.func8, by kernel_rfl, by kernel_rfl⟩, fun w hw => FS36.stays.calls hw (impl_PlaceOfPlate.calls _ _ _ _ _ _ _ _ _ (hw.2.2.2.2.1) (hw.2.2.2.2.2.1) (H.f13_2 rfl))⟩, trivial⟩ h hw fun a w h hw => t6 H h hw
theorem t70 (H : Facts kk l0 l1 ls pn pl lad ok plc one low hig thr at1 la lb ha hb1 x1 y1 m1 k1 wi fv rm sv le nn oa ob el ln nb lt tt jc jd jo ff ma mb na nl) {a : Act} {w : World} (h : Has 590 a [(1, (vS A1 l1 c1)), (5, (vS A79 ls c79)), (6, (vP g6)), (7, (vS A85 lad c85)), (8, (vB ok)), (11, (vI plc)), (12, (vB one)), (15, (vS A109 low c109)), (16, (vS Z109 hig z109)), (17, (vB thr))]) (hw : FS36 pn pl l1 low hig lad ls c109 z109 c85 g6 c79 c1 A109 Z109 A85 A79 A1 w0 w) : B70.wp Try.prog (Ql w0) a w := by
  refine wp_seq ?_
  refine wp_seq ?_
  refine region_ (K := [(1, (vS A1 l1 c1)), (5, (vS A79 ls c79)), (6, (vP g6)), (7, (vS A85 lad c85)), (11, (vI plc)), (12, (vB one)), (15, (vS A109 low c109)), (16, (vS Z109 hig z109)), (17, (vB thr)), (162, (vB ok))]) (obs := []) (by kernel_rfl) mix rfl FS36.stays trivial h hw ?_
  clear h hw
  intro a w h hw
  show Code.wp _ (Code.cond (tm 162) B7 Code.skip) _ _ _
  cases ok with
  | true =>
    refine wp_cond_true (h.opd (by kernel_rfl)) ?_
    exact t7 H (h.cut (by kernel_rfl)) hw
  | false =>
    refine wp_cond_false (h.opd (by kernel_rfl)) ?_
    refine wp_skip ?_
    exact t69 H (h.cut (by kernel_rfl)) (let ⟨p,q,r,s,_,_,t⟩ := hw; ⟨p,q,r,s,t⟩)
theorem t71 (H : Facts kk l0 l1 ls pn pl lad ok plc one low hig thr at1 la lb ha hb1 x1 y1 m1 k1 wi fv rm sv le nn oa ob el ln nb lt tt jc jd jo ff ma mb na nl) {a : Act} {w : World} (h : Has 590 a [(1, (vS A1 l1 c1)), (5, (vS A79 ls c79)), (6, (vP g6)), (7, (vS A85 lad c85)), (8, (vB ok)), (9, (vS A91 lad c91)), (10, (vB ok)), (11, (vI plc)), (12, (vB one)), (13, (vI plc)), (14, (vB one)), (15, (vS A109 low c109)), (16, (vS Z109 hig z109)), (17, (vB thr)), (18, (vS A116 low c116)), (19, (vS Z116 hig z116)), (20, (vB thr))]) (hw : FS7 pn pl l1 low hig lad ls c116 z116 c109 z109 c91 c85 g6 c79 c1 A116 Z116 A109 Z109 A91 A85 A79 A1 w0 w) : B71.wp Try.prog (Ql w0) a w := by
  refine wp_seq ?_
  refine wp_seq ?_
  cases ok with
  | true =>
    obtain rfl : one = false := H.hxor rfl
    refine region_ (K := [(1, (vS A1 l1 c1)), (5, (vS A79 ls c79)), (6, (vP g6)), (7, (vS A85 lad c85)), (8, (vB true)), (11, (vI plc)), (12, (vB false)), (15, (vS A109 low c109)), (16, (vS Z109 hig z109)), (17, (vB thr)), (161, (vB false))]) (obs := [cB .neq 120 121 true true false, .call 12 [(vS A85 lad c85), (vS A91 lad c91)] (vB true), cB .neq 130 131 false false false, cI .neq 135 136 plc plc false, cB .neq 140 141 thr thr false, .call 12 [(vS A109 low c109), (vS A116 low c116)] (vB true), .call 12 [(vS Z109 hig z109), (vS Z116 hig z116)] (vB true)]) (by kernel_rfl) mix rfl FS7.stays ⟨(ok_neq_bool Try.underlying4 (bne_self_eq_false _)), ⟨⟨_, Try.func12, by kernel_rfl, by kernel_rfl⟩, fun w hw => FS7.stays.callsD hw (laws_aPlates.calls _ _ _ _ _ _ _ _ _ (hw.2.2.2.2.2.2.2.2.2.2.1) (hw.2.2.2.2.2.2.2.2.2.2.2.1) (hw.2.2.2.2.2.2.2.2.1) (hw.2.2.2.2.2.2.2.2.2.1) (H.f10_6))⟩, (ok_neq_bool Try.underlying4 (bne_self_eq_false _)), (ok_neq_int (bne_self_eq_false _)), (ok_neq_bool Try.underlying4 (bne_self_eq_false _)), ⟨⟨_, Try.func12, by kernel_rfl, by kernel_rfl⟩, fun w hw => FS7.stays.callsD hw (laws_aPlates.calls _ _ _ _ _ _ _ _ _ (hw.2.2.2.2.1) (hw.2.2.2.2.2.1) (hw.1) (hw.2.1) (H.f10_27))⟩, ⟨⟨_, Try.func12, by kernel_rfl, by kernel_rfl⟩, fun w hw => FS7.stays.callsD hw (laws_aPlates.calls _ _ _ _ _ _ _ _ _ (hw.2.2.2.2.2.2.1) (hw.2.2.2.2.2.2.2.1) (hw.2.2.1) (hw.2.2.2.1) (H.f10_33))⟩, trivial⟩ h hw ?_
    clear h hw
    intro a w h hw
    show Code.wp _ (Code.cond (tm 161) B2 Code.skip) _ _ _
    refine wp_cond_false (h.opd (by kernel_rfl)) ?_
    refine wp_skip ?_
    exact t70 H (h.cut (by kernel_rfl)) (let ⟨_,_,_,_,p,q,r,s,_,_,t⟩ := hw; ⟨p,q,r,s,t⟩)
  | false =>
    refine region_ (K := [(1, (vS A1 l1 c1)), (5, (vS A79 ls c79)), (6, (vP g6)), (7, (vS A85 lad c85)), (8, (vB false)), (11, (vI plc)), (12, (vB one)), (15, (vS A109 low c109)), (16, (vS Z109 hig z109)), (17, (vB thr)), (161, (vB false))]) (obs := [cB .neq 120 121 false false false, .call 12 [(vS A85 lad c85), (vS A91 lad c91)] (vB true), cB .neq 130 131 one one false, cI .neq 135 136 plc plc false, cB .neq 140 141 thr thr false, .call 12 [(vS A109 low c109), (vS A116 low c116)] (vB true), .call 12 [(vS Z109 hig z109), (vS Z116 hig z116)] (vB true)]) (by kernel_rfl) mix rfl FS7.stays ⟨(ok_neq_bool Try.underlying4 (bne_self_eq_false _)), ⟨⟨_, Try.func12, by kernel_rfl, by kernel_rfl⟩, fun w hw => FS7.stays.callsD hw (laws_aPlates.calls _ _ _ _ _ _ _ _ _ (hw.2.2.2.2.2.2.2.2.2.2.1) (hw.2.2.2.2.2.2.2.2.2.2.2.1) (hw.2.2.2.2.2.2.2.2.1) (hw.2.2.2.2.2.2.2.2.2.1) (H.f10_6))⟩, (ok_neq_bool Try.underlying4 (bne_self_eq_false _)), (ok_neq_int (bne_self_eq_false _)), (ok_neq_bool Try.underlying4 (bne_self_eq_false _)), ⟨⟨_, Try.func12, by kernel_rfl, by kernel_rfl⟩, fun w hw => FS7.stays.callsD hw (laws_aPlates.calls _ _ _ _ _ _ _ _ _ (hw.2.2.2.2.1) (hw.2.2.2.2.2.1) (hw.1) (hw.2.1) (H.f10_27))⟩, ⟨⟨_, Try.func12, by kernel_rfl, by kernel_rfl⟩, fun w hw => FS7.stays.callsD hw (laws_aPlates.calls _ _ _ _ _ _ _ _ _ (hw.2.2.2.2.2.2.1) (hw.2.2.2.2.2.2.2.1) (hw.2.2.1) (hw.2.2.2.1) (H.f10_33))⟩, trivial⟩ h hw ?_
    clear h hw
    intro a w h hw
    show Code.wp _ (Code.cond (tm 161) B2 Code.skip) _ _ _
    refine wp_cond_false (h.opd (by kernel_rfl)) ?_
    refine wp_skip ?_
    exact t70 H (h.cut (by kernel_rfl)) (let ⟨_,_,_,_,p,q,r,s,_,_,t⟩ := hw; ⟨p,q,r,s,t⟩)
theorem t72 (H : Facts kk l0 l1 ls pn pl lad ok plc one low hig thr at1 la lb ha hb1 x1 y1 m1 k1 wi fv rm sv le nn oa ob el ln nb lt tt jc jd jo ff ma mb na nl) {a : Act} {w : World} (h : Has 590 a [(1, (vS A1 l1 c1)), (5, (vS A79 ls c79)), (6, (vP g6)), (7, (vS A85 lad c85)), (8, (vB ok)), (9, (vS A91 lad c91)), (10, (vB ok)), (11, (vI plc)), (12, (vB one)), (13, (vI plc)), (14, (vB one)), (15, (vS A109 low c109)), (16, (vS Z109 hig z109)), (17, (vB thr))]) (hw : FS6 pn pl l1 low hig lad ls c109 z109 c91 c85 g6 c79 c1 A109 Z109 A91 A85 A79 A1 w0 w) : B72.wp Try.prog (Ql w0) a w := by
  refine wp_seq ?_
  refine region_list ?_
  refine quiet_ 0 2 2 (K := [(1, (vS A1 l1 c1)), (5, (vS A79 ls c79)), (6, (vP g6)), (7, (vS A85 lad c85)), (8, (vB ok)), (9, (vS A91 lad c91)), (10, (vB ok)), (11, (vI plc)), (12, (vB one)), (13, (vI plc)), (14, (vB one)), (15, (vS A109 low c109)), (16, (vS Z109 hig z109)), (17, (vB thr)), (114, (vS A79 ls c79)), (115, (vA pn pl))]) (obs := [lS 26 6 g6 pn pl]) (by kernel_rfl) rfl ⟨(ok_load26 (fun w hw => (hw.2.2.2.2.2.2.2.2.1))), trivial⟩ h hw ?_
  clear h hw
  intro a w h hw
  refine made_ (σ := (Option Addr × Nat) × (Option Addr × Nat)) (F := FS6 pn pl l1 low hig lad ls c109 z109 c91 c85 g6 c79 c1 A109 Z109 A91 A85 A79 A1 w0) 2 3 (f := 11) (d := 116) (vs := [(vS A79 ls c79), (vA pn pl)]) (by kernel_rfl) rfl h hw Try.func11 (by kernel_rfl) (by kernel_rfl) (fun s => (.tuple #[(.slice s.1.1 low.length s.1.2), (.slice s.2.1 hig.length s.2.2), (vB thr)])) (fun s w => FS7 pn pl l1 low hig lad ls s.1.2 s.2.2 c109 z109 c91 c85 g6 c79 c1 s.1.1 s.2.1 A109 Z109 A91 A85 A79 A1 w0 w) ?_ ?_
  · intro w hw
    refine (spec_PartPlates.calls _ _ _ _ _ _ _ _ _ _ (hw.2.2.2.2.2.2.2.2.2.1) (hw.2.2.2.2.2.2.2.2.2.2.1) (H.f9_2)).mono ?_
    rintro e w' ⟨v0_, v1_, he, hR0, hR1, hb⟩
    obtain ⟨A0_, c0_, rfl, hc0_, hC0_⟩ := Kd.R_reads hR0
    obtain ⟨A1_, c1_, rfl, hc1_, hC1_⟩ := Kd.R_reads hR1
    have hw' := FS6.stays w w' hw hb
    exact ⟨((A0_, c0_), (A1_, c1_)), he, ⟨hC0_, hc0_, hC1_, hc1_, hw'⟩⟩
  clear h hw
  rintro ⟨⟨A116, c116⟩, ⟨Z116, z116⟩⟩ a w h hw
  exact quiet_ 3 7 10 (obs := []) (by kernel_rfl) rfl trivial h hw fun a w h hw => end_ (by kernel_rfl) (t71 H h hw)
theorem t73 (H : Facts kk l0 l1 ls pn pl lad ok plc one low hig thr at1 la lb ha hb1 x1 y1 m1 k1 wi fv rm sv le nn oa ob el ln nb lt tt jc jd jo ff ma mb na nl) {a : Act} {w : World} (h : Has 590 a [(1, (vS A1 l1 c1)), (5, (vS A79 ls c79)), (6, (vP g6)), (7, (vS A85 lad c85)), (8, (vB ok)), (9, (vS A91 lad c91)), (10, (vB ok)), (11, (vI plc)), (12, (vB one)), (13, (vI plc)), (14, (vB one))]) (hw : FS5 pn pl l1 lad ls c91 c85 g6 c79 c1 A91 A85 A79 A1 w0 w) : B73.wp Try.prog (Ql w0) a w := by
  refine wp_seq ?_
  refine region_list ?_
  refine quiet_ 0 2 2 (K := [(1, (vS A1 l1 c1)), (5, (vS A79 ls c79)), (6, (vP g6)), (7, (vS A85 lad c85)), (8, (vB ok)), (9, (vS A91 lad c91)), (10, (vB ok)), (11, (vI plc)), (12, (vB one)), (13, (vI plc)), (14, (vB one)), (107, (vS A79 ls c79)), (108, (vA pn pl))]) (obs := [lS 26 6 g6 pn pl]) (by kernel_rfl) rfl ⟨(ok_load26 (fun w hw => (hw.2.2.2.2.1))), trivial⟩ h hw ?_
  clear h hw
  intro a w h hw
  refine made_ (σ := (Option Addr × Nat) × (Option Addr × Nat)) (F := FS5 pn pl l1 lad ls c91 c85 g6 c79 c1 A91 A85 A79 A1 w0) 2 3 (f := 10) (d := 109) (vs := [(vS A79 ls c79), (vA pn pl)]) (by kernel_rfl) rfl h hw Try.func10 (by kernel_rfl) (by kernel_rfl) (fun s => (.tuple #[(.slice s.1.1 low.length s.1.2), (.slice s.2.1 hig.length s.2.2), (vB thr)])) (fun s w => FS6 pn pl l1 low hig lad ls s.1.2 s.2.2 c91 c85 g6 c79 c1 s.1.1 s.2.1 A91 A85 A79 A1 w0 w) ?_ ?_
  · intro w hw
    refine (impl_PartPlates.calls _ _ _ _ _ _ _ _ _ _ (hw.2.2.2.2.2.1) (hw.2.2.2.2.2.2.1) (H.f8_2)).mono ?_
    rintro e w' ⟨v0_, v1_, he, hR0, hR1, hb⟩
    obtain ⟨A0_, c0_, rfl, hc0_, hC0_⟩ := Kd.R_reads hR0
    obtain ⟨A1_, c1_, rfl, hc1_, hC1_⟩ := Kd.R_reads hR1
    have hw' := FS5.stays w w' hw hb
    exact ⟨((A0_, c0_), (A1_, c1_)), he, ⟨hC0_, hc0_, hC1_, hc1_, hw'⟩⟩
  clear h hw
  rintro ⟨⟨A109, c109⟩, ⟨Z109, z109⟩⟩ a w h hw
  exact quiet_ 3 7 10 (obs := []) (by kernel_rfl) rfl trivial h hw fun a w h hw => end_ (by kernel_rfl) (t72 H h hw)
theorem t74 (H : Facts kk l0 l1 ls pn pl lad ok plc one low hig thr at1 la lb ha hb1 x1 y1 m1 k1 wi fv rm sv le nn oa ob el ln nb lt tt jc jd jo ff ma mb na nl) {a : Act} {w : World} (h : Has 590 a [(1, (vS A1 l1 c1)), (5, (vS A79 ls c79)), (6, (vP g6)), (7, (vS A85 lad c85)), (8, (vB ok)), (9, (vS A91 lad c91)), (10, (vB ok)), (11, (vI plc)), (12, (vB one))]) (hw : FS5 pn pl l1 lad ls c91 c85 g6 c79 c1 A91 A85 A79 A1 w0 w) : B74.wp Try.prog (Ql w0) a w := by
  refine wp_seq ?_
  exact region_ (obs := [lS 26 6 g6 pn pl, .call 9 [(vS A79 ls c79), (vA pn pl)] (.tuple #[(vI plc), (vB one)])]) (by kernel_rfl) mix rfl FS5.stays ⟨(ok_load26 (fun w hw => (hw.2.2.2.2.1))), ⟨⟨_, Try.func9, by kernel_rfl, by kernel_rfl⟩, fun w hw => FS5.stays.calls hw (spec_PlaceOfPlate.calls _ _ _ _ _ _ _ _ _ (hw.2.2.2.2.2.1) (hw.2.2.2.2.2.2.1) (H.f7_2))⟩, trivial⟩ h hw fun a w h hw => t73 H h hw
theorem t75 (H : Facts kk l0 l1 ls pn pl lad ok plc one low hig thr at1 la lb ha hb1 x1 y1 m1 k1 wi fv rm sv le nn oa ob el ln nb lt tt jc jd jo ff ma mb na nl) {a : Act} {w : World} (h : Has 590 a [(1, (vS A1 l1 c1)), (5, (vS A79 ls c79)), (6, (vP g6)), (7, (vS A85 lad c85)), (8, (vB ok)), (9, (vS A91 lad c91)), (10, (vB ok))]) (hw : FS5 pn pl l1 lad ls c91 c85 g6 c79 c1 A91 A85 A79 A1 w0 w) : B75.wp Try.prog (Ql w0) a w := by
  refine wp_seq ?_
  exact region_ (obs := [lS 26 6 g6 pn pl, .call 8 [(vS A79 ls c79), (vA pn pl)] (.tuple #[(vI plc), (vB one)])]) (by kernel_rfl) mix rfl FS5.stays ⟨(ok_load26 (fun w hw => (hw.2.2.2.2.1))), ⟨⟨_, Try.func8, by kernel_rfl, by kernel_rfl⟩, fun w hw => FS5.stays.calls hw (impl_PlaceOfPlate.calls _ _ _ _ _ _ _ _ _ (hw.2.2.2.2.2.1) (hw.2.2.2.2.2.2.1) (H.f6_2))⟩, trivial⟩ h hw fun a w h hw => t74 H h hw
theorem t76 (H : Facts kk l0 l1 ls pn pl lad ok plc one low hig thr at1 la lb ha hb1 x1 y1 m1 k1 wi fv rm sv le nn oa ob el ln nb lt tt jc jd jo ff ma mb na nl) {a : Act} {w : World} (h : Has 590 a [(1, (vS A1 l1 c1)), (5, (vS A79 ls c79)), (6, (vP g6)), (7, (vS A85 lad c85)), (8, (vB ok))]) (hw : FS4 pn pl l1 lad ls c85 g6 c79 c1 A85 A79 A1 w0 w) : B76.wp Try.prog (Ql w0) a w := by
  refine wp_seq ?_
  refine region_list ?_
  refine quiet_ 0 2 2 (K := [(1, (vS A1 l1 c1)), (5, (vS A79 ls c79)), (6, (vP g6)), (7, (vS A85 lad c85)), (8, (vB ok)), (89, (vS A79 ls c79)), (90, (vA pn pl))]) (obs := [lS 26 6 g6 pn pl]) (by kernel_rfl) rfl ⟨(ok_load26 (fun w hw => (hw.2.2.1))), trivial⟩ h hw ?_
  clear h hw
  intro a w h hw
  refine made_ (σ := Option Addr × Nat) (F := FS4 pn pl l1 lad ls c85 g6 c79 c1 A85 A79 A1 w0) 2 3 (f := 7) (d := 91) (vs := [(vS A79 ls c79), (vA pn pl)]) (by kernel_rfl) rfl h hw Try.func7 (by kernel_rfl) (by kernel_rfl) (fun s => (.tuple #[(.slice s.1 lad.length s.2), (vB ok)])) (fun s w => FS5 pn pl l1 lad ls s.2 c85 g6 c79 c1 s.1 A85 A79 A1 w0 w) ?_ ?_
  · intro w hw
    refine (spec_AddPlate.calls _ _ _ _ _ _ _ _ _ (hw.2.2.2.1) (hw.2.2.2.2.1) (H.f5_2)).mono ?_
    rintro e w' ⟨v0_, he, hR0, hb⟩
    obtain ⟨A0_, c0_, rfl, hc0_, hC0_⟩ := Kd.R_reads hR0
    have hw' := FS4.stays w w' hw hb
    exact ⟨(A0_, c0_), he, ⟨hC0_, hc0_, hw'⟩⟩
  clear h hw
  rintro ⟨A91, c91⟩ a w h hw
  exact quiet_ 3 5 8 (obs := []) (by kernel_rfl) rfl trivial h hw fun a w h hw => end_ (by kernel_rfl) (t75 H h hw)
theorem t77 (H : Facts kk l0 l1 ls pn pl lad ok plc one low hig thr at1 la lb ha hb1 x1 y1 m1 k1 wi fv rm sv le nn oa ob el ln nb lt tt jc jd jo ff ma mb na nl) {a : Act} {w : World} (h : Has 590 a [(1, (vS A1 l1 c1)), (5, (vS A79 ls c79)), (6, (vP g6))]) (hw : FS3 pn pl l1 ls g6 c79 c1 A79 A1 w0 w) : B77.wp Try.prog (Ql w0) a w := by
  refine wp_seq ?_
  refine region_list ?_
  refine quiet_ 0 2 2 (K := [(1, (vS A1 l1 c1)), (5, (vS A79 ls c79)), (6, (vP g6)), (83, (vS A79 ls c79)), (84, (vA pn pl))]) (obs := [lS 26 6 g6 pn pl]) (by kernel_rfl) rfl ⟨(ok_load26 (fun w hw => (hw.1))), trivial⟩ h hw ?_
  clear h hw
  intro a w h hw
  refine made_ (σ := Option Addr × Nat) (F := FS3 pn pl l1 ls g6 c79 c1 A79 A1 w0) 2 3 (f := 6) (d := 85) (vs := [(vS A79 ls c79), (vA pn pl)]) (by kernel_rfl) rfl h hw Try.func6 (by kernel_rfl) (by kernel_rfl) (fun s => (.tuple #[(.slice s.1 lad.length s.2), (vB ok)])) (fun s w => FS4 pn pl l1 lad ls s.2 g6 c79 c1 s.1 A79 A1 w0 w) ?_ ?_
  · intro w hw
    refine (impl_AddPlate.calls _ _ _ _ _ _ _ _ _ (hw.2.1) (hw.2.2.1) (H.f4_2)).mono ?_
    rintro e w' ⟨v0_, he, hR0, hb⟩
    obtain ⟨A0_, c0_, rfl, hc0_, hC0_⟩ := Kd.R_reads hR0
    have hw' := FS3.stays w w' hw hb
    exact ⟨(A0_, c0_), he, ⟨hC0_, hc0_, hw'⟩⟩
  clear h hw
  rintro ⟨A85, c85⟩ a w h hw
  exact quiet_ 3 5 8 (obs := []) (by kernel_rfl) rfl trivial h hw fun a w h hw => end_ (by kernel_rfl) (t76 H h hw)
theorem t78 (H : Facts kk l0 l1 ls pn pl lad ok plc one low hig thr at1 la lb ha hb1 x1 y1 m1 k1 wi fv rm sv le nn oa ob el ln nb lt tt jc jd jo ff ma mb na nl) {a : Act} {w : World} (h : Has 590 a [(0, (vS A0 l0 c0)), (1, (vS A1 l1 c1))]) (hw : FS0 l0 l1 c0 c1 A0 A1 w0 w) : B78.wp Try.prog (Ql w0) a w := by
  refine wp_seq ?_
  refine region_list ?_
  refine quiet_ 0 1 1 (K := [(1, (vS A1 l1 c1)), (78, (vS A0 l0 c0))]) (obs := []) (by kernel_rfl) rfl trivial h hw ?_
  clear h hw
  intro a w h hw
  refine made_ (σ := Option Addr × Nat) (F := FS0 l0 l1 c0 c1 A0 A1 w0) 1 2 (f := 5) (d := 79) (vs := [(vS A0 l0 c0)]) (by kernel_rfl) rfl h hw Try.func5 (by kernel_rfl) (by kernel_rfl) (fun s => (.tuple #[(.slice s.1 ls.length s.2), (vA pn pl)])) (fun s w => FS1 l0 l1 ls s.2 c0 c1 s.1 A0 A1 w0 w) ?_ ?_
  · intro w hw
    refine (spec_DrawAddPlate.calls _ _ _ _ _ _ _ _ (hw.2.1) (hw.2.2.1) (H.f3_1)).mono ?_
    rintro e w' ⟨v0_, he, hR0, hb⟩
    obtain ⟨A0_, c0_, rfl, hc0_, hC0_⟩ := Kd.R_reads hR0
    have hw' := FS0.stays w w' hw hb
    exact ⟨(A0_, c0_), he, ⟨hC0_, hc0_, hw'⟩⟩
  clear h hw
  rintro ⟨A79, c79⟩ a w h hw
  refine quiet_ 2 3 5 (K := [(1, (vS A1 l1 c1)), (80, (vS A79 ls c79)), (81, (vA pn pl))]) (obs := []) (by kernel_rfl) rfl trivial h hw ?_
  clear h hw
  intro a w h hw
  replace hw : Pend (FS1 l0 l1 ls c79 c0 c1 A79 A0 A1 w0) [] w := Pend.start hw
  refine alloc26 (F := FS1 l0 l1 ls c79 c0 c1 A79 A0 A1 w0) (bs := []) 5 6 (d := 6) (by kernel_rfl) rfl h hw ?_
  clear h hw
  intro g6 a w h hw
  refine quiet_ 6 1 7 (F := Pend (FS1 l0 l1 ls c79 c0 c1 A79 A0 A1 w0) [(g6, .cells #[(vI 0), (vI 0)] 26 (0, 0))]) (K := [(1, (vS A1 l1 c1)), (5, (vS A79 ls c79)), (6, (vP g6)), (81, (vA pn pl))]) (obs := []) (by kernel_rfl) rfl trivial h hw ?_
  clear h hw
  intro a w h hw
  refine store26 (F := FS1 l0 l1 ls c79 c0 c1 A79 A0 A1 w0) (bs := [(g6, .cells #[(vI 0), (vI 0)] 26 (0, 0))]) 7 8 0 (g := g6) (y := pn) (z := pl) (u := 0) (v := 0) (by kernel_rfl) rfl rfl h hw ?_
  clear h hw
  intro a w h hw
  replace hw : Pend (FS1 l0 l1 ls c79 c0 c1 A79 A0 A1 w0) [(g6, .cells #[(vI pn), (vI pl)] 26 (0, 0))] w := hw
  have hp_ := Pend.out FS1.stays hw
  replace hw : FS2 pn pl l0 l1 ls g6 c79 c0 c1 A79 A0 A1 w0 w := ⟨hp_.2 0 _ rfl, hp_.1⟩
  clear hp_
  refine end_ (by kernel_rfl) ?_
  exact t77 H (h.cut (by kernel_rfl)) (let ⟨p,q,r,s,_,_,t⟩ := hw; ⟨p,q,r,s,t⟩)
theorem t79 (H : Facts kk l0 l1 ls pn pl lad ok plc one low hig thr at1 la lb ha hb1 x1 y1 m1 k1 wi fv rm sv le nn oa ob el ln nb lt tt jc jd jo ff ma mb na nl) (hbig : laws_big.f l0 l1 = some false) {a : Act} {w : World} (h : Has 590 a [(0, (vS A0 l0 c0)), (1, (vS A1 l1 c1))]) (hw : FS0 l0 l1 c0 c1 A0 A1 w0 w) : B79.wp Try.prog (Ql w0) a w := by
  refine wp_seq ?_
  refine wp_seq ?_
  refine region_ (K := [(0, (vS A0 l0 c0)), (1, (vS A1 l1 c1)), (76, (vB false))]) (obs := [.call 4 [(vS A0 l0 c0), (vS A1 l1 c1)] (vB false)]) (by kernel_rfl) mix rfl FS0.stays ⟨⟨⟨_, Try.func4, by kernel_rfl, by kernel_rfl⟩, fun w hw => FS0.stays.callsD hw (laws_big.calls _ _ _ _ _ _ _ _ (hw.2.1) (hw.2.2.1) (hw.2.2.2.1) (hw.2.2.2.2) hbig)⟩, trivial⟩ h hw ?_
  clear h hw
  intro a w h hw
  show Code.wp _ (Code.cond (tm 76) B0 Code.skip) _ _ _
  refine wp_cond_false (h.opd (by kernel_rfl)) ?_
  refine wp_skip ?_
  exact t78 H (h.cut (by kernel_rfl)) hw
theorem t80 (H : Facts kk l0 l1 ls pn pl lad ok plc one low hig thr at1 la lb ha hb1 x1 y1 m1 k1 wi fv rm sv le nn oa ob el ln nb lt tt jc jd jo ff ma mb na nl) (hbig : laws_big.f l0 l1 = some false) {a : Act} {w : World} (h : Has 590 a [(0, (vS A0 l0 c0)), (1, (vS A1 l1 c1))]) (hw : FS0 l0 l1 c0 c1 A0 A1 w0 w) : B80.wp Try.prog (Ql w0) a w := by
  refine wp_seq ?_
  exact region_ (obs := []) (by kernel_rfl) mix rfl FS0.stays trivial h hw fun a w h hw => t79 H hbig h hw
theorem u0T {a : Act} {w : World} (h : Has 590 a []) (hw : FS21 w0 w) : B0.wp Try.prog (Exit.then (fun a w => Code.wp Try.prog B78 (Ql w0) a w) (Ql w0)) a w := by
  refine wp_seq ?_
  refine region_ (K := [(4, (vB true))]) (obs := []) (by kernel_rfl) mix rfl FS21.stays trivial h hw ?_
  clear h hw
  intro a w h hw
  show Code.wp _ Code.ret _ _ _
  refine wp_ret ?_
  exact post_ h rfl (hw)
theorem u79T (hbig : laws_big.f l0 l1 = some true) {a : Act} {w : World} (h : Has 590 a [(0, (vS A0 l0 c0)), (1, (vS A1 l1 c1))]) (hw : FS0 l0 l1 c0 c1 A0 A1 w0 w) : B79.wp Try.prog (Ql w0) a w := by
  refine wp_seq ?_
  refine wp_seq ?_
  refine region_ (K := [(0, (vS A0 l0 c0)), (1, (vS A1 l1 c1)), (76, (vB true))]) (obs := [.call 4 [(vS A0 l0 c0), (vS A1 l1 c1)] (vB true)]) (by kernel_rfl) mix rfl FS0.stays ⟨⟨⟨_, Try.func4, by kernel_rfl, by kernel_rfl⟩, fun w hw => FS0.stays.callsD hw (laws_big.calls _ _ _ _ _ _ _ _ (hw.2.1) (hw.2.2.1) (hw.2.2.2.1) (hw.2.2.2.2) hbig)⟩, trivial⟩ h hw ?_
  clear h hw
  intro a w h hw
  show Code.wp _ (Code.cond (tm 76) B0 Code.skip) _ _ _
  refine wp_cond_true (h.opd (by kernel_rfl)) ?_
  exact u0T (h.cut (by kernel_rfl)) hw.1
theorem u80T (hbig : laws_big.f l0 l1 = some true) {a : Act} {w : World} (h : Has 590 a [(0, (vS A0 l0 c0)), (1, (vS A1 l1 c1))]) (hw : FS0 l0 l1 c0 c1 A0 A1 w0 w) : B80.wp Try.prog (Ql w0) a w := by
  refine wp_seq ?_
  exact region_ (obs := []) (by kernel_rfl) mix rfl FS0.stays trivial h hw fun a w h hw => u79T hbig h hw
theorem calls_small {kk : Nat} {l0 : List Int} {l1 : List Int} {ls : List S26} {pn : Int} {pl : Int} {lad : List S26} {ok : Bool} {plc : Int} {one : Bool} {low : List S26} {hig : List S26} {thr : Bool} {at1 : Int} {la : Int} {lb : Int} {ha : Int} {hb1 : Int} {x1 : Int} {y1 : Int} {m1 : List S26} {k1 : Int} {wi : List S26} {fv : Bool} {rm : Int} {sv : Bool} {le : List S26} {nn : Bool} {oa : Int} {ob : Int} {el : Bool} {ln : List S26} {nb : Int} {lt : ByteArray} {tt : Bool} {jc : List S26} {jd : List S26} {jo : List S26} {ff : Bool} {ma : Int} {mb : Int} {na : Int} {nl : Int} {A0 : Option Addr} {c0 : Nat} {A1 : Option Addr} {c1 : Nat} (H : Facts kk l0 l1 ls pn pl lad ok plc one low hig thr at1 la lb ha hb1 x1 y1 m1 k1 wi fv rm sv le nn oa ob el ln nb lt tt jc jd jo ff ma mb na nl) (hbig : laws_big.f l0 l1 = some false) (w0 : World) (hr0 : Kd.C (Kd.int .u8) w0 A0 l0.length l0) (hc0 : l0.length ≤ c0) (hr1 : Kd.C (Kd.int .u8) w0 A1 l1.length l1) (hc1 : l1.length ≤ c1) :
    Calls Try.prog 3 #[.slice A0 l0.length c0, .slice A1 l1.length c1] w0 fun e w' => e = .returned (.bool true) ∧ Below w0.heap.size w0 w' := by
  refine calls_of_wp Try.func3 body_eq ?_
  have h0 : Has 590 { tmps := #[.slice A0 l0.length c0, .slice A1 l1.length c1] ++ Array.replicate (Try.f3.ntmps - 2) undef, defers := [] } [(0, (vS A0 l0 c0)), (1, (vS A1 l1 c1))] := by
    refine ⟨by rw [Try.ntmps3]; simp, rfl, fun i v hl => ?_⟩
    match i, hl with
    | 0, hl => cases hl; simp
    | 1, hl => cases hl; simp
    | i + 2, hl => cases hl
  have hw0 : FS0 l0 l1 c0 c1 A0 A1 w0 w0 := ⟨Below.refl _ _, hr0, hc0, hr1, hc1⟩
  exact t80 H hbig h0 ⟨hw0.1, hw0.2.1, hw0.2.2.1, hw0.2.2.2.1, hw0.2.2.2.2⟩
theorem calls_big {l0 : List Int} {l1 : List Int} {A0 : Option Addr} {c0 : Nat} {A1 : Option Addr} {c1 : Nat} (hbig : laws_big.f l0 l1 = some true) (w0 : World) (hr0 : Kd.C (Kd.int .u8) w0 A0 l0.length l0) (hc0 : l0.length ≤ c0) (hr1 : Kd.C (Kd.int .u8) w0 A1 l1.length l1) (hc1 : l1.length ≤ c1) :
    Calls Try.prog 3 #[.slice A0 l0.length c0, .slice A1 l1.length c1] w0 fun e w' => e = .returned (.bool true) ∧ Below w0.heap.size w0 w' := by
  refine calls_of_wp Try.func3 body_eq ?_
  have h0 : Has 590 { tmps := #[.slice A0 l0.length c0, .slice A1 l1.length c1] ++ Array.replicate (Try.f3.ntmps - 2) undef, defers := [] } [(0, (vS A0 l0 c0)), (1, (vS A1 l1 c1))] := by
    refine ⟨by rw [Try.ntmps3]; simp, rfl, fun i v hl => ?_⟩
    match i, hl with
    | 0, hl => cases hl; simp
    | 1, hl => cases hl; simp
    | i + 2, hl => cases hl
  have hw0 : FS0 l0 l1 c0 c1 A0 A1 w0 w0 := ⟨Below.refl _ _, hr0, hc0, hr1, hc1⟩
  exact u80T hbig h0 ⟨hw0.1, hw0.2.1, hw0.2.2.1, hw0.2.2.2.1, hw0.2.2.2.2⟩
end Go.Proofs.Ytbnhfipcjbnknaa.GFnPlatesInserted
