/- The walk of the law FnPlatesMade: where its calls answer as the letters tell, the law's call answers true and leaves what was there. (Written by a program: lawwalk.py.) -/
import Derived.Test.YtihmjhchiomgbaaDoorK
import Derived.Test.YtihmjhchiomgbaaDoorPFnPlatesMadex1
import Derived.Test.YtihmjhchiomgbaaDoorPFnPlatesMadex2
import Derived.Test.YtihmjhchiomgbaaDoorPFnPlatesMadex3
import Derived.Test.YtihmjhchiomgbaaDoorPFnPlatesMadex4
import Derived.Test.YtihmjhchiomgbaaDoorPFnPlatesMadex5
import Derived.Test.YtihmjhchiomgbaaDoorPFnPlatesMadex6
import Derived.Test.YtihmjhchiomgbaaDoorPFnPlatesMadex7
import Derived.Test.YtihmjhchiomgbaaDoorPFnPlatesMadex8
import Derived.Test.YtihmjhchiomgbaaDoorPFnPlatesMadev
namespace Go.Proofs.YtihmjhchiomgbaaDoor.GFnPlatesMade
open Go Go.RowKit Go.Proofs.YtihmjhchiomgbaaDoorW.PrintWords Go.Proofs.YtihmjhchiomgbaaDoorW.PrintLast Go.Proofs.YtihmjhchiomgbaaDoorW.PrintMore Go.Proofs.YtihmjhchiomgbaaDoor.K Go.Proofs.YtihmjhchiomgbaaDoor.PFnPlatesMade
set_option linter.unusedVariables false
set_option linter.unusedSimpArgs false
set_option maxRecDepth 100000
theorem mix : Tryd.prog.follows .mixedOrders = true := by kernel_rfl
noncomputable def rg (k : Nat) : List Oper := (opsOf Tryd.f3 k).toList
noncomputable def R0 := rg 0
noncomputable def R1 := rg 1
noncomputable def R2 := rg 2
noncomputable def R3 := rg 3
noncomputable def R4 := rg 4
noncomputable def R5 := rg 5
noncomputable def R6 := rg 6
noncomputable def R7 := rg 7
noncomputable def R8 := rg 8
noncomputable def R9 := rg 9
noncomputable def R10 := rg 10
noncomputable def R11 := rg 11
noncomputable def R12 := rg 12
noncomputable def R13 := rg 13
noncomputable def R14 := rg 14
noncomputable def R15 := rg 15
noncomputable def R16 := rg 16
noncomputable def R17 := rg 17
noncomputable def R18 := rg 18
noncomputable def R19 := rg 19
noncomputable def R20 := rg 20
noncomputable def R21 := rg 21
noncomputable def R22 := rg 22
noncomputable def R23 := rg 23
noncomputable def R24 := rg 24
noncomputable def R25 := rg 25
noncomputable def R26 := rg 26
noncomputable def R27 := rg 27
noncomputable def R28 := rg 28
noncomputable def R29 := rg 29
noncomputable def R30 := rg 30
noncomputable def R31 := rg 31
noncomputable def R32 := rg 32
noncomputable def R33 := rg 33
noncomputable def R34 := rg 34
noncomputable def R35 := rg 35
noncomputable def R36 := rg 36
noncomputable def R37 := rg 37
noncomputable def R38 := rg 38
noncomputable def R39 := rg 39
noncomputable def R40 := rg 40
noncomputable def R41 := rg 41
noncomputable def R42 := rg 42
noncomputable def R43 := rg 43
noncomputable def R44 := rg 44
noncomputable def R45 := rg 45
noncomputable def R46 := rg 46
noncomputable def R47 := rg 47
noncomputable def R48 := rg 48
noncomputable def R49 := rg 49
noncomputable def R50 := rg 50
noncomputable def R51 := rg 51
noncomputable def R52 := rg 52
noncomputable def R53 := rg 53
noncomputable def R54 := rg 54
noncomputable def R55 := rg 55
noncomputable def R56 := rg 56
noncomputable def R57 := rg 57
noncomputable def R58 := rg 58
noncomputable def R59 := rg 59
noncomputable def R60 := rg 60
noncomputable def R61 := rg 61
noncomputable def R62 := rg 62
noncomputable def R63 := rg 63
noncomputable def R64 := rg 64
noncomputable def R65 := rg 65
noncomputable def R66 := rg 66
noncomputable def R67 := rg 67
noncomputable def R68 := rg 68
noncomputable def R69 := rg 69
noncomputable def R70 := rg 70
noncomputable def R71 := rg 71
noncomputable def R72 := rg 72
noncomputable def R73 := rg 73
noncomputable def R74 := rg 74
noncomputable def R75 := rg 75
noncomputable def R76 := rg 76
noncomputable def R77 := rg 77
noncomputable def R78 := rg 78
noncomputable def R79 := rg 79
noncomputable def R80 := rg 80
noncomputable def R81 := rg 81
noncomputable def R82 := rg 82
noncomputable def R83 := rg 83
noncomputable def R84 := rg 84
noncomputable def R85 := rg 85
noncomputable def R86 := rg 86
noncomputable def R87 := rg 87
noncomputable def R88 := rg 88
noncomputable def R89 := rg 89
noncomputable def R90 := rg 90
noncomputable def R91 := rg 91
noncomputable def R92 := rg 92
noncomputable def R93 := rg 93
theorem lex50 : (!true || Region.lexB .any R50.toArray) = true := lex_of (by kernel_rfl)
theorem lex82 : (!true || Region.lexB .any R82.toArray) = true := lex_of (by kernel_rfl)
noncomputable def B0 : Code := Code.seq (Code.region 2 R2.toArray false) Code.ret
noncomputable def B1 : Code := Code.seq (Code.region 1 R1.toArray false) (Code.cond (Operand.tmp 73) B0 Code.skip)
noncomputable def B2 : Code := Code.seq (Code.region 7 R7.toArray false) Code.ret
noncomputable def B3 : Code := Code.seq (Code.region 6 R6.toArray false) (Code.cond (Operand.tmp 98) B2 Code.skip)
noncomputable def B4 : Code := Code.seq (Code.region 16 R16.toArray false) Code.ret
noncomputable def B5 : Code := Code.seq (Code.region 15 R15.toArray false) (Code.cond (Operand.tmp 122) B4 Code.skip)
noncomputable def B6 : Code := Code.seq B5 (Code.region 17 R17.toArray false)
noncomputable def B7 : Code := Code.seq (Code.region 14 R14.toArray false) B6
noncomputable def B8 : Code := Code.seq (Code.region 13 R13.toArray false) B7
noncomputable def B9 : Code := Code.seq (Code.block 1 B8) (Code.region 18 R18.toArray false)
noncomputable def B10 : Code := Code.seq (Code.cond (Operand.tmp 113) Code.skip (Code.exit 0)) B9
noncomputable def B11 : Code := Code.seq (Code.region 12 R12.toArray false) B10
noncomputable def B12 : Code := Code.seq (Code.region 11 R11.toArray false) (Code.block 0 (Code.loop B11))
noncomputable def B13 : Code := Code.seq (Code.region 22 R22.toArray false) Code.ret
noncomputable def B14 : Code := Code.seq (Code.region 21 R21.toArray false) (Code.cond (Operand.tmp 171) B13 Code.skip)
noncomputable def B15 : Code := Code.seq (Code.region 20 R20.toArray false) B14
noncomputable def B16 : Code := Code.seq (Code.region 19 R19.toArray false) B15
noncomputable def B17 : Code := Code.seq B12 B16
noncomputable def B18 : Code := Code.seq (Code.region 10 R10.toArray false) B17
noncomputable def B19 : Code := Code.seq (Code.region 9 R9.toArray false) B18
noncomputable def B20 : Code := Code.seq (Code.region 8 R8.toArray false) (Code.cond (Operand.tmp 103) B19 Code.skip)
noncomputable def B21 : Code := Code.seq (Code.region 43 R43.toArray false) Code.ret
noncomputable def B22 : Code := Code.seq (Code.region 42 R42.toArray false) (Code.cond (Operand.tmp 338) B21 Code.skip)
noncomputable def B23 : Code := Code.seq (Code.region 45 R45.toArray false) Code.ret
noncomputable def B24 : Code := Code.seq (Code.region 44 R44.toArray false) (Code.cond (Operand.tmp 355) B23 Code.skip)
noncomputable def B25 : Code := Code.seq (Code.region 51 R51.toArray false) Code.ret
noncomputable def B26 : Code := Code.seq (Code.region 50 R50.toArray true) (Code.cond (Operand.tmp 390) B25 Code.skip)
noncomputable def B27 : Code := Code.seq (Code.region 54 R54.toArray false) Code.ret
noncomputable def B28 : Code := Code.seq (Code.region 53 R53.toArray false) (Code.cond (Operand.tmp 406) B27 Code.skip)
noncomputable def B29 : Code := Code.seq (Code.region 52 R52.toArray false) B28
noncomputable def B30 : Code := Code.seq B26 B29
noncomputable def B31 : Code := Code.seq (Code.region 49 R49.toArray false) B30
noncomputable def B32 : Code := Code.seq (Code.block 3 B31) (Code.region 55 R55.toArray false)
noncomputable def B33 : Code := Code.seq (Code.cond (Operand.tmp 360) Code.skip (Code.exit 2)) B32
noncomputable def B34 : Code := Code.seq (Code.region 48 R48.toArray false) B33
noncomputable def B35 : Code := Code.seq (Code.region 47 R47.toArray false) (Code.block 2 (Code.loop B34))
noncomputable def B36 : Code := Code.seq (Code.region 57 R57.toArray false) Code.ret
noncomputable def B37 : Code := Code.seq (Code.region 56 R56.toArray false) (Code.cond (Operand.tmp 429) B36 Code.skip)
noncomputable def B38 : Code := Code.seq B35 B37
noncomputable def B39 : Code := Code.seq (Code.region 46 R46.toArray false) (Code.cond (Operand.tmp 356) B38 Code.skip)
noncomputable def B40 : Code := Code.seq (Code.region 61 R61.toArray false) Code.ret
noncomputable def B41 : Code := Code.seq (Code.region 60 R60.toArray false) (Code.cond (Operand.tmp 446) B40 Code.skip)
noncomputable def B42 : Code := Code.seq (Code.region 65 R65.toArray false) Code.ret
noncomputable def B43 : Code := Code.seq (Code.region 64 R64.toArray false) (Code.cond (Operand.tmp 461) B42 Code.skip)
noncomputable def B44 : Code := Code.seq (Code.region 63 R63.toArray false) B43
noncomputable def B45 : Code := Code.seq (Code.region 62 R62.toArray false) (Code.cond (Operand.tmp 448) B44 Code.skip)
noncomputable def B46 : Code := Code.seq B41 B45
noncomputable def B47 : Code := Code.seq (Code.region 59 R59.toArray false) B46
noncomputable def B48 : Code := Code.seq (Code.region 58 R58.toArray false) (Code.cond (Operand.tmp 434) B47 Code.skip)
noncomputable def B49 : Code := Code.seq (Code.region 72 R72.toArray false) Code.ret
noncomputable def B50 : Code := Code.seq (Code.region 71 R71.toArray false) (Code.cond (Operand.tmp 490) B49 Code.skip)
noncomputable def B51 : Code := Code.seq (Code.region 70 R70.toArray false) B50
noncomputable def B52 : Code := Code.seq (Code.region 69 R69.toArray false) B51
noncomputable def B53 : Code := Code.seq (Code.block 5 B52) (Code.region 73 R73.toArray false)
noncomputable def B54 : Code := Code.seq (Code.cond (Operand.tmp 474) Code.skip (Code.exit 4)) B53
noncomputable def B55 : Code := Code.seq (Code.region 68 R68.toArray false) B54
noncomputable def B56 : Code := Code.seq (Code.region 67 R67.toArray false) (Code.block 4 (Code.loop B55))
noncomputable def B57 : Code := Code.seq (Code.region 66 R66.toArray false) (Code.cond (Operand.tmp 470) B56 Code.skip)
noncomputable def B58 : Code := Code.seq (Code.region 75 R75.toArray false) Code.ret
noncomputable def B59 : Code := Code.seq (Code.region 74 R74.toArray false) (Code.cond (Operand.tmp 518) B58 Code.skip)
noncomputable def B60 : Code := Code.seq (Code.region 78 R78.toArray false) Code.ret
noncomputable def B61 : Code := Code.seq (Code.region 77 R77.toArray false) (Code.cond (Operand.tmp 522) B60 Code.skip)
noncomputable def B62 : Code := Code.seq (Code.region 83 R83.toArray false) Code.ret
noncomputable def B63 : Code := Code.seq (Code.region 82 R82.toArray true) (Code.cond (Operand.tmp 585) B62 Code.skip)
noncomputable def B64 : Code := Code.seq (Code.region 81 R81.toArray false) B63
noncomputable def B65 : Code := Code.seq (Code.block 7 B64) (Code.region 84 R84.toArray false)
noncomputable def B66 : Code := Code.seq (Code.cond (Operand.tmp 526) Code.skip (Code.exit 6)) B65
noncomputable def B67 : Code := Code.seq (Code.region 80 R80.toArray false) B66
noncomputable def B68 : Code := Code.seq (Code.region 79 R79.toArray false) (Code.block 6 (Code.loop B67))
noncomputable def B69 : Code := Code.seq (Code.region 87 R87.toArray false) (Code.cond (Operand.tmp 589) Code.skip (Code.exit 8))
noncomputable def B70 : Code := Code.seq (Code.region 89 R89.toArray false) (Code.cond (Operand.tmp 595) (Code.region 90 R90.toArray false) Code.skip)
noncomputable def B71 : Code := Code.seq (Code.block 9 B70) (Code.region 88 R88.toArray false)
noncomputable def B72 : Code := Code.seq B69 B71
noncomputable def B73 : Code := Code.seq (Code.region 86 R86.toArray false) (Code.block 8 (Code.loop B72))
noncomputable def B74 : Code := Code.seq (Code.region 92 R92.toArray false) Code.ret
noncomputable def B75 : Code := Code.seq (Code.region 91 R91.toArray false) (Code.cond (Operand.tmp 601) B74 Code.skip)
noncomputable def B76 : Code := Code.seq B73 B75
noncomputable def B77 : Code := Code.seq (Code.region 85 R85.toArray false) B76
noncomputable def B78 : Code := Code.seq B68 B77
noncomputable def B79 : Code := Code.seq B61 B78
noncomputable def B80 : Code := Code.seq (Code.region 76 R76.toArray false) (Code.cond (Operand.tmp 519) B79 Code.skip)
noncomputable def B81 : Code := Code.seq (Code.region 93 R93.toArray false) Code.ret
noncomputable def B82 : Code := Code.seq B80 B81
noncomputable def B83 : Code := Code.seq B59 B82
noncomputable def B84 : Code := Code.seq B57 B83
noncomputable def B85 : Code := Code.seq B48 B84
noncomputable def B86 : Code := Code.seq B39 B85
noncomputable def B87 : Code := Code.seq B24 B86
noncomputable def B88 : Code := Code.seq B22 B87
noncomputable def B89 : Code := Code.seq (Code.region 41 R41.toArray false) B88
noncomputable def B90 : Code := Code.seq (Code.region 40 R40.toArray false) B89
noncomputable def B91 : Code := Code.seq (Code.region 39 R39.toArray false) B90
noncomputable def B92 : Code := Code.seq (Code.region 38 R38.toArray false) B91
noncomputable def B93 : Code := Code.seq (Code.region 37 R37.toArray false) B92
noncomputable def B94 : Code := Code.seq (Code.region 36 R36.toArray false) B93
noncomputable def B95 : Code := Code.seq (Code.region 35 R35.toArray false) B94
noncomputable def B96 : Code := Code.seq (Code.region 34 R34.toArray false) B95
noncomputable def B97 : Code := Code.seq (Code.region 33 R33.toArray false) B96
noncomputable def B98 : Code := Code.seq (Code.region 32 R32.toArray false) B97
noncomputable def B99 : Code := Code.seq (Code.region 31 R31.toArray false) B98
noncomputable def B100 : Code := Code.seq (Code.region 30 R30.toArray false) B99
noncomputable def B101 : Code := Code.seq (Code.region 29 R29.toArray false) B100
noncomputable def B102 : Code := Code.seq (Code.region 28 R28.toArray false) B101
noncomputable def B103 : Code := Code.seq (Code.region 27 R27.toArray false) B102
noncomputable def B104 : Code := Code.seq (Code.region 26 R26.toArray false) B103
noncomputable def B105 : Code := Code.seq (Code.region 25 R25.toArray false) B104
noncomputable def B106 : Code := Code.seq (Code.region 24 R24.toArray false) B105
noncomputable def B107 : Code := Code.seq (Code.region 23 R23.toArray false) B106
noncomputable def B108 : Code := Code.seq B20 B107
noncomputable def B109 : Code := Code.seq B3 B108
noncomputable def B110 : Code := Code.seq (Code.region 5 R5.toArray false) B109
noncomputable def B111 : Code := Code.seq (Code.region 4 R4.toArray false) B110
noncomputable def B112 : Code := Code.seq (Code.region 3 R3.toArray false) B111
noncomputable def B113 : Code := Code.seq B1 B112
noncomputable def B114 : Code := Code.seq (Code.region 0 R0.toArray false) B113
theorem body_eq : Tryd.f3.body = some B114 := by kernel_rfl
abbrev Ql (w0 : World) : Exit → Act → World → Prop := bodyPost Tryd.prog Tryd.f3 fun e w' => e = .returned (.bool true) ∧ Below w0.heap.size w0 w'
theorem post_ {n : Nat} {a : Act} {L : List (Nat × Value)} {w w0 : World} (h : Has n a L) (hl : K.look L 4 = some (.bool true)) (hb : Below w0.heap.size w0 w) : Ql w0 .ret a w := by
  refine bodyPost_ret (v := .bool true) ?_ h.dfr ⟨rfl, hb⟩
  have h1 := h.at_ 4 _ hl
  have h2 : Tryd.f3.results = #[.tmp 4] := by kernel_rfl
  unfold results
  rw [h2]
  simp [h1]
theorem wadd_ {i : Nat} (h : i + 1 ≤ 9223372036854775807) : wrap64 ((i : Int) + 1) = ((i + 1 : Nat) : Int) := by
  unfold wrap64
  omega
abbrev lN (T t : Nat) {α : Type} (A : Option Addr) (l : List α) (c : Nat) : Ob := .op (Op.call { callee := (Callee.builtin Builtin.len), args := #[(Operand.tmp t)], argTypes := #[T] }) 3 [((Operand.tmp t), (.slice A l.length c))] (vI (l.length : Int))
abbrev bO (b : BinOp) (s t : Operand) (x y z : Int) : Ob := .op (Op.binOp b 3 s t 3) 3 [(s, vI x), (t, vI y)] (vI z)
theorem sC_ {T : Type} {k : Kd T} {A : Option Addr} {n : Nat} {l : List T} : Stays (fun w => Kd.C k w A n l) := fun w w' h hb => Kd.C_below h hb
theorem sL_ {p : Prop} : Stays (fun _ => p) := fun w w' h hb => h
theorem sV_ : Stays (fun w => VarsOK w) := fun w w' h hb => h.below hb
section
variable {F : World → Prop} {X Y : Operand} {ty t' : TypeId}
theorem ok_load3 {g off : Nat} {z : Int} (h : ∀ w, F w → w.cell? ⟨g, off, none⟩ = some (.int .i64 z)) : Ob.Ok Tryd.prog F (.op (.load 3 X) ty [(X, .pointer (some ⟨g, off, none⟩))] (.int .i64 z)) := by
  intro ρ o ho ht hρ w hw
  have h1 : ρ X = .pointer (some ⟨g, off, none⟩) := hρ (X, _) (by simp)
  have h2 := h w hw
  have hu := Tryd.underlying3
  simp [go_sem, ho, h1, h2]
theorem ok_load3p {ad : Addr} {z : Int} (h : ∀ w, F w → w.cell? ad = some (.int .i64 z)) : Ob.Ok Tryd.prog F (.op (.load 3 X) ty [(X, .pointer (some ad))] (.int .i64 z)) := by
  intro ρ o ho ht hρ w hw
  have h1 : ρ X = .pointer (some ad) := hρ (X, _) (by simp)
  have h2 := h w hw
  have hu := Tryd.underlying3
  simp [go_sem, ho, h1, h2]
theorem ok_idx29 {ad : Addr} {n c : Nat} {i : Int} (h0 : 0 ≤ i) (h1 : i < n) : Ob.Ok Tryd.prog F (.op (.indexAddr 29 X Y) ty [(X, .slice (some ad) n c), (Y, .int .i64 i)] (.pointer (some (ad.add i.toNat)))) := by
  intro ρ o ho ht hρ w hw
  have h2 : ρ X = .slice (some ad) n c := hρ (X, _) (by simp)
  have h3 : ρ Y = .int .i64 i := hρ (Y, _) (by simp)
  have hu := Tryd.underlying29
  have hu3 := Tryd.underlying3
  simp [go_sem, ho, h2, h3, h0, h1]
theorem ok_idxe29 {A : Option Addr} {ad : Addr} {n c : Nat} {i : Int} (hA : A = some ad) (h0 : 0 ≤ i) (h1 : i < n) : Ob.Ok Tryd.prog F (.op (.indexAddr 29 X Y) ty [(X, .slice A n c), (Y, .int .i64 i)] (.pointer (some (ad.add i.toNat)))) := by
  subst hA
  exact ok_idx29 h0 h1
theorem C_some {w : World} {A : Option Addr} {l : List Int} {i : Nat} (h : Kd.C (Kd.int .i64) w A l.length l) (hi : i < l.length) : ∃ ad, A = some ad := by
  obtain ⟨ad, c, e, _⟩ := Kd.C_get h 0 (i : Int) (by omega) (by omega)
  exact ⟨ad, e⟩
theorem C_cell {w : World} {ad : Addr} {l : List Int} {i : Nat} (h : Kd.C (Kd.int .i64) w (some ad) l.length l) (hi : i < l.length) : w.cell? (ad.add (i : Int).toNat) = some (.int .i64 l[i]) := by
  obtain ⟨ad', c, e, hc, hk, hj⟩ := Kd.C_get h 0 (i : Int) (by omega) (by omega)
  injection e with e
  subst e
  have h1 : c = [.int .i64 l[i]] := by
    have := hk
    simpa [Kd.int, Kd.scalar, List.getD_eq_getElem?_getD, List.getElem?_eq_getElem hi] using this
  have := hj 0 (.int .i64 l[i]) (by rw [h1]; rfl)
  simpa [Kd.int, Kd.scalar] using this
end
section
variable {F : World → Prop} {X Y : Operand} {ty t' : TypeId}
theorem ok_idxe33 {A : Option Addr} {ad : Addr} {n c : Nat} {i : Int} (hA : A = some ad) (h0 : 0 ≤ i) (h1 : i < n) : Ob.Ok Tryd.prog F (.op (.indexAddr 33 X Y) ty [(X, .slice A n c), (Y, .int .i64 i)] (.pointer (some (ad.add i.toNat)))) := by
  subst hA
  intro ρ o ho ht hρ w hw
  have h2 : ρ X = .slice (some ad) n c := hρ (X, _) (by simp)
  have h3 : ρ Y = .int .i64 i := hρ (Y, _) (by simp)
  have hu := Tryd.underlying33
  have hu29 := Tryd.underlying29
  have hu3 := Tryd.underlying3
  simp [go_sem, ho, h2, h3, h0, h1]
theorem ok_load29p {ad : Addr} {A : Option Addr} {n c : Nat} (h : ∀ w, F w → w.cell? ad = some (.slice A n c)) : Ob.Ok Tryd.prog F (.op (.load 29 X) ty [(X, .pointer (some ad))] (.slice A n c)) := by
  intro ρ o ho ht hρ w hw
  have h1 : ρ X = .pointer (some ad) := hρ (X, _) (by simp)
  have h2 := h w hw
  have hu := Tryd.underlying29
  simp [go_sem, ho, h1, h2]
theorem sY_ {ad : Addr} {v : Value} : Stays (fun w => w.cell? ad = some v) := fun w w' h hb => pw_cell_below hb h
theorem Kd.V_reads {α : Type} {d : Kd α} {e base : Nat} {w : World} {ok : Nat → Prop} {v : Value} {xs : List α} (h : Kd.V d e w base ok v xs) : ∃ A c, v = .slice A xs.length c ∧ xs.length ≤ c ∧ Kd.C d w A xs.length xs := by
  obtain ⟨A, c, hv, hl, hf⟩ := h
  exact ⟨A, c, hv, hl, Kd.F_now hf⟩
theorem getD_mem_ {l : List Int} {i : Nat} (h : i < l.length) : l.getD i 0 ∈ l := by
  rw [List.getD_eq_getElem?_getD, List.getElem?_eq_getElem h]
  exact List.getElem_mem h
theorem C_cellD {w : World} {A : Option Addr} {ad : Addr} {l : List Int} {i : Nat} (h : Kd.C (Kd.int .i64) w A l.length l) (hA : A = some ad) (hi : i < l.length) : w.cell? (ad.add (i : Int).toNat) = some (.int .i64 (l.getD i 0)) := by
  subst hA
  rw [C_cell h hi, List.getD_eq_getElem?_getD, List.getElem?_eq_getElem hi]
  rfl
theorem C_cellI {w : World} {A : Option Addr} {ad : Addr} {l : List Int} {i : Int} (h : Kd.C (Kd.int .i64) w A l.length l) (hA : A = some ad) (h0 : 0 ≤ i) (hi : i < l.length) : w.cell? (ad.add i.toNat) = some (.int .i64 (l.getD i.toNat 0)) := by
  have := C_cellD (i := i.toNat) h hA (by omega)
  rwa [Int.toNat_natCast] at this
theorem row_cells {w : World} {A : Option Addr} {ad : Addr} {x y : Int} (h : Kd.C (Kd.int .i64) w A ([x, y]).length ([x, y])) (hA : A = some ad) : w.cell? (ad.add (0 : Int).toNat) = some (.int .i64 x) ∧ w.cell? (ad.add (1 : Int).toNat) = some (.int .i64 y) := by
  subst hA
  exact ⟨C_cell (i := 0) h (by simp), C_cell (i := 1) h (by simp)⟩
/-- Ten numbers; the first i of them, and zeros. -/
def cl (f : Nat → Int) : List Int := [f 0, f 1, f 2, f 3, f 4, f 5, f 6, f 7, f 8, f 9]
def cu (f : Nat → Int) (i : Nat) : List Int := (List.range 10).map fun d => if d < i then f d else 0
theorem cl_len (f : Nat → Int) : (cl f).length = 10 := rfl
theorem cu_ten (f : Nat → Int) : cu f 10 = cl f := rfl
theorem cu_len (f : Nat → Int) (i : Nat) : (cu f i).length = 10 := by simp [cu]
theorem cu_set (f : Nat → Int) (i : Nat) (h : i < 10) : (cu f i).set i (f i) = cu f (i + 1) := by
  apply List.ext_getElem
  · simp [cu]
  · intro j h1 h2
    rw [List.getElem_set]
    simp only [cu, List.getElem_map, List.getElem_range]
    by_cases c : i = j
    · subst c
      rw [if_pos rfl, if_pos (by omega)]
    · rw [if_neg c]
      by_cases c2 : j < i
      · rw [if_pos c2, if_pos (by omega)]
      · rw [if_neg c2, if_neg (by omega)]
theorem cl_C {w : World} {g : Nat} {f : Nat → Int} (h : w.heap[g]? = some (.cells ((cu f 10).map (Value.int .i64)).toArray 3 (0, 0))) : Kd.C (Kd.int .i64) w (some ⟨g, 0, none⟩) (cl f).length (cl f) := by
  rw [cu_ten] at h
  have hr : ReadsInt w .i64 (some ⟨g, 0, none⟩) (cl f).length (cl f) := by
    refine ⟨rfl, by rw [cl_len]; omega, fun _ => ⟨_, rfl, fun j hj => ?_⟩⟩
    rw [add_plain, blk_cell h j, List.getElem?_toArray, List.getElem?_map, List.getD_eq_getElem?_getD, List.getElem?_eq_getElem hj]
    rfl
  exact Kd.C_of_reads (d := (0 : Int)) (h1 := fun _ => rfl) hr
def makeOf (n : Nat) (ops : List Oper) (i : Nat) : Option (Tmp × TypeId × Operand × Operand) := match ops.drop i with
  | ⟨some d, .makeSlice t x y, _, _, _, none⟩ :: _ => bif Nat.blt d n then some (d, t, x, y) else none
  | _ => none
theorem makeOf_spec {n i d t : Nat} {x y : Operand} {ops : List Oper} (h : makeOf n ops i = some (d, t, x, y)) : ∃ ty pos af rest, ops.drop i = ⟨some d, .makeSlice t x y, ty, pos, af, none⟩ :: rest ∧ Nat.blt d n = true := by
  unfold makeOf at h
  split at h
  · rename_i d' t' x' y' ty pos af rest he
    cases hb : Nat.blt d' n with
    | false => rw [hb] at h; cases h
    | true =>
      rw [hb] at h
      simp only [cond_true, Option.some.injEq, Prod.mk.injEq] at h
      obtain ⟨rfl, rfl, rfl, rfl⟩ := h
      exact ⟨ty, pos, af, rest, he, hb⟩
  · cases h
/-- Ten zeros are made. -/
theorem make10_ (f : Nat → Int) {n : Nat} {ops : List Oper} {a : Act} {L : Env} (i j : Nat) {Q : Exit → Act → World → Prop} {w : World} {d : Tmp}
    (ho : makeOf n ops i = some (d, 29, .const (.int .i64 10), .const (.int .i64 10))) (hj : j = i + 1) (h : Has n a L) (hw : F w)
    (hk : ∀ g a' w', Has n a' ((d, .slice (some ⟨g, 0, none⟩) 10 10) :: L) → Pend F [(g, .cells ((cu f 0).map (Value.int .i64)).toArray 3 (0, 0))] w' → wpList Tryd.prog ops.toArray Q (ops.drop j) a' w') : wpList Tryd.prog ops.toArray Q (ops.drop i) a w := by
  subst hj
  obtain ⟨ty1, pos1, af1, rest, ho, hd⟩ := makeOf_spec ho
  have e : ops.drop (i + 1) = rest := by rw [← List.drop_drop, ho]; rfl
  rw [e] at hk
  rw [ho]
  have h1 := h.put (d := some d) (v := .slice (some ⟨w.heap.size, 0, none⟩) 10 10) (L' := (d, .slice (some ⟨w.heap.size, 0, none⟩) 10 10) :: L) (by unfold putE; simp only [hd]; rfl)
  obtain ⟨i0, hi, hz⟩ := Option.map_eq_some_iff.1 info3
  simp only [Prod.mk.injEq] at hz
  have hr := run_make (P := Tryd.prog) w 29 3 i0 (.int .i64 0) Tryd.underlying29 hi hz.1 .i64 .i64 10 10 (by omega) (by omega) (by rw [hz.2.2]; decide) (by omega)
  have r1 : (execOp a.eval ⟨some d, .makeSlice 29 (.const (.int .i64 10)) (.const (.int .i64 10)), ty1, pos1, af1, none⟩).run Tryd.prog w = .ok (.value (.slice (some ⟨w.heap.size, 0, none⟩) 10 10)) (w.alloc (.cells ((cu f 0).map (Value.int .i64)).toArray 3 (0, 0))) := by
    rw [hz.2.1] at hr
    have em : madeCells (Value.int .i64 0).cells 10 = ((cu f 0).map (Value.int .i64)).toArray := by
      rw [show cu f 0 = List.replicate 10 0 from rfl]
      kernel_rfl
    simp [execOp, Act.eval, hr]
    rw [em]
  refine wpList_plain rfl fun K hK => ?_
  unfold Oper.wp
  rw [r1]
  exact hK _ _ (hk w.heap.size _ _ h1 (Pend.alloc _ (Pend.start hw)))
/-- One of them is set. -/
theorem store10_ (f : Nat → Int) {n m : Nat} {ops : List Oper} {a : Act} {L : Env} (i j : Nat) {Q : Exit → Act → World → Prop} {w : World} {g : Nat}
    (ho : storeOf 3 ops i L = some (.pointer (some ((⟨g, 0, none⟩ : Addr).add (m : Int).toNat)), .int .i64 (f m))) (hj : j = i + 1) (hm : m < 10) (h : Has n a L) (hw : Pend F [(g, .cells ((cu f m).map (Value.int .i64)).toArray 3 (0, 0))] w)
    (hk : ∀ a' w', Has n a' L → Pend F [(g, .cells ((cu f (m + 1)).map (Value.int .i64)).toArray 3 (0, 0))] w' → wpList Tryd.prog ops.toArray Q (ops.drop j) a' w') : wpList Tryd.prog ops.toArray Q (ops.drop i) a w := by
  subst hj
  obtain ⟨ad, x, ty2, pos2, af2, rest, ho, ha, hx⟩ := storeOf_spec ho
  have e : ops.drop (i + 1) = rest := by rw [← List.drop_drop, ho]; rfl
  rw [e] at hk
  rw [ho]
  have hu3 := Tryd.underlying3
  have e1 := h.opd ha
  have e2 := h.opd hx
  rw [add_plain, Int.toNat_natCast] at e1
  have b0 : w.heap[g]? = some (.cells ((cu f m).map (Value.int .i64)).toArray 3 (0, 0)) := by obtain ⟨wa, _, _, h3, _⟩ := hw; exact (h3 0 _ rfl).2
  have p1 := hw.put (k := 0) rfl m (.int .i64 (f m)) (cs' := ((cu f (m + 1)).map (Value.int .i64)).toArray) (by rw [← cu_set f m hm, List.map_set, List.setIfInBounds_toArray])
  have c0 : w.cell? ⟨g, m, none⟩ = some (.int .i64 ((cu f m)[m]'(by rw [cu_len]; exact hm))) := by
    rw [blk_cell b0 m, List.getElem?_toArray, List.getElem?_map, List.getElem?_eq_getElem (by rw [cu_len]; exact hm)]
    rfl
  have f0 : w.frozen? ⟨g, m, none⟩ = false := blk_frozen b0 m
  have r2 : (execOp a.eval ⟨none, .store 3 ad x, ty2, pos2, af2, none⟩).run Tryd.prog w = .ok .skip (w.setCell ⟨g, m, none⟩ (.int .i64 (f m))) := by
    generalize a.eval = ρ at e1 e2 ⊢
    simp [go_sem, e1, e2, c0, f0]
  refine wpList_plain rfl fun K hK => ?_
  unfold Oper.wp
  rw [r2]
  exact hK _ _ (hk a _ h p1)
end
/-- How many of the first odd numbers divide s. -/
def oddP (s : Int) : Nat → Int
  | 0 => 0
  | j + 1 => oddP s j + (if Int.tmod s ((2 * j + 1 : Nat) : Int) = 0 then 1 else 0)
theorem wsub_ {n : Nat} (h : 1 ≤ n) (h2 : n ≤ 9223372036854775807) : wrap64 ((n : Int) - 1) = ((n - 1 : Nat) : Int) := by
  unfold wrap64
  omega
theorem wadd2_ {i b : Nat} {s : Int} (h : i < b) (hb : b = (s.toNat + 1) / 2) (hs : s ≤ 100000) : wrap64 (((2 * i + 1 : Nat) : Int) + 2) = ((2 * (i + 1) + 1 : Nat) : Int) := by
  unfold wrap64
  omega
theorem odd_bd_ (s : Int) : ∀ j : Nat, 0 ≤ oddP s j ∧ oddP s j ≤ j
  | 0 => by simp [oddP]
  | j + 1 => by
    have := odd_bd_ s j
    rw [oddP]
    split <;> omega
theorem odd_t_ {s : Int} {j : Nat} (hj : j < (s.toNat + 1) / 2) (hs : s ≤ 100000) (e : Int.tmod s ((2 * j + 1 : Nat) : Int) = 0) : wrap64 (oddP s j + 1) = oddP s (j + 1) := by
  have := odd_bd_ s j
  have h1 : oddP s (j + 1) = oddP s j + 1 := by rw [oddP, if_pos e]
  rw [h1]
  unfold wrap64
  omega
theorem odd_f_ {s : Int} {j : Nat} (e : ¬ Int.tmod s ((2 * j + 1 : Nat) : Int) = 0) : oddP s j = oddP s (j + 1) := by rw [oddP, if_neg e, Int.add_zero]
theorem wmod_ {s : Int} {j : Nat} (h0 : 1 ≤ s) (h1 : s ≤ 100000) : wrap64 (Int.tmod s ((2 * j + 1 : Nat) : Int)) = Int.tmod s ((2 * j + 1 : Nat) : Int) := by
  obtain ⟨n, rfl⟩ := Int.eq_ofNat_of_zero_le (show 0 ≤ s by omega)
  have e : Int.tmod (n : Int) ((2 * j + 1 : Nat) : Int) = ((n % (2 * j + 1) : Nat) : Int) := rfl
  have c := Nat.mod_le n (2 * j + 1)
  rw [e]
  generalize n % (2 * j + 1) = r at c
  unfold wrap64
  omega
abbrev tm (t : Nat) : Operand := .tmp t
abbrev vS {α : Type} (A : Option Addr) (l : List α) (c : Nat) : Value := .slice A l.length c
/-- What the law's calls answer, and what the law's tests ask of that. -/
structure Facts (kk : Nat) (l0 : List Int) (l1 : List Int) (mo : Int) (dg : Int) (cn : Int) (ok : Bool) (al : Int) (cq : Nat → Int) (nn : Int) (hs : Int) (one : Bool) (sts : List (List Int)) (thr : Bool) (pl : Int) (dgs : Int) (la : Int) (sev : Bool) (lf : List Int) (md : Int) (nin : Bool) (a1 : Int) (b1 : Int) (sm : Int) (elv : Bool) (sN : Int) (rg : List (List Int)) (thi : Bool) (sx : Nat → Int) (sy : Nat → Int) (rx : Nat → Int) (ry : Nat → Int) (uq : Nat → Int) (us : Int) (ov : Int) : Prop where
  f3_1 : spec_DrawCountDigit.f l0 = some (mo, dg)
  f4_2 : impl_CountDigit.f kk mo dg = some (cn, ok)
  f5_2 : spec_CountDigit.f kk mo dg = some (cn, ok)
  f23_1 : spec_DrawBalancedHouse.f l1 = some nn
  f24_1 : impl_BalancedHouse.f nn = some (hs, one)
  f25_1 : spec_BalancedHouse.f kk nn = some (hs, one)
  f26_1 : impl_BalancedStreets.f kk nn = some (sts, thr)
  f27_1 : spec_BalancedStreets.f kk nn = some (sts, thr)
  f28_1 : impl_DigitsOnPlates.f kk nn = some (pl, thr)
  f29_1 : spec_DigitsOnPlates.f kk nn = some (pl, thr)
  f30_1 : spec_DrawLastWithDigits.f l1 = some dgs
  f31_1 : impl_LastWithDigits.f kk dgs = some (la, sev)
  f32_1 : spec_LastWithDigits.f kk dgs = some (la, sev)
  f33_1 : spec_DrawPlatesFrom.f kk l1 = some lf
  f34_1 : impl_PlatesFrom.f kk lf = some (md, nin)
  f35_1 : spec_PlatesFrom.f kk lf = some (md, nin)
  f36_1 : spec_DrawSumBetween.f l1 = some (a1, b1)
  f37_2 : impl_SumBetween.f a1 b1 = some (sm, elv)
  f38_2 : spec_SumBetween.f a1 b1 = some (sm, elv)
  f39_1 : spec_DrawRangesWithSum.f l1 = some sN
  f40_1 : impl_RangesWithSum.f kk sN = some (rg, thi)
  f41_1 : spec_RangesWithSum.f kk sN = some (rg, thi)
  f59_1 : sev = true → la > 0 → impl_DigitsOnPlates.f kk la = some (us, true)
  f63_2 : sev = true → la > 0 → la < 1000000 → impl_DigitsOnPlates.f kk (wrap64 (la + 1)) = some (ov, true)
  f42_16 : laws_zRows.f kk sts sts = some true
  f42_67 : laws_zRows.f kk rg rg = some true
  f9_1 : ok = true → mo ≤ 5000 → impl_DigitsOnPlates.f kk mo = some (al, true)
  f19_1 : ok = true → mo ≤ 5000 → impl_LastWithDigits.f kk al = some (mo, true)
  f20_1 : ok = true → mo ≤ 5000 → impl_PlatesFrom.f kk (cl cq) = some (mo, true)
  f21_4 : ok = true → mo ≤ 5000 → laws_zSum.f kk (cl cq) = some al
  hdg : ok = true → 0 ≤ dg ∧ dg < 10
  hcq : ok = true → mo ≤ 5000 → ∀ i : Nat, i < 10 → impl_CountDigit.f kk mo (i : Int) = some (cq i, true)
  hneed : ok = true → mo ≤ 5000 → (cl cq).getD dg.toNat 0 = cn
  hot : one = true → thr = true
  hbal : one = true → wrap64 (wrap64 (hs - 1) * hs) = wrap64 (wrap64 (nn * wrap64 (nn + 1)) - wrap64 (hs * wrap64 (hs + 1)))
  hrow : thr = true → ∀ i : Nat, i < sts.length → rd_L2 sts (i : Int) = [sx i, sy i] ∧ ¬ sx i > nn ∧ (0 < i → sx (i - 1) < sx i) ∧ impl_BalancedHouse.f (sx i) = some (sy i, true)
  hst : thr = true → 1 ≤ sts.length ∧ sts.length ≤ 1000000 ∧ one = (sx (sts.length - 1) == nn)
  hus : sev = true → la > 0 → ¬ us > dgs
  hov : sev = true → la > 0 → la < 1000000 → ¬ ov ≤ dgs
  huq : nin = true → md > 0 → md ≤ 5000 → ∀ i : Nat, i < lf.length → impl_CountDigit.f kk md (i : Int) = some (uq i, true) ∧ ¬ uq i > lf.getD i 0
  hs0 : elv = true → ¬ sm < 0
  hs1 : elv = true → wrap64 (b1 - a1) ≤ 1 → sm = 0
  hs2 : elv = true → wrap64 (b1 - a1) = 2 → sm = wrap64 (a1 + 1)
  hrl : thi = true → 1 ≤ rg.length ∧ 1 ≤ sN ∧ sN ≤ 100000 ∧ (rg.length : Int) = oddP sN ((sN.toNat + 1) / 2)
  hrng : thi = true → ∀ i : Nat, i < rg.length → rd_L2 rg (i : Int) = [rx i, ry i] ∧ ¬ rx i < 1 ∧ ¬ rx i > ry i ∧ wrap64 (wrap64 (rx i + ry i) * wrap64 (wrap64 (ry i - rx i) + 1)) = wrap64 (2 * sN) ∧ (0 < i → rx (i - 1) < rx i)
variable {w0 : World} {A0 : Option Addr} {c0 : Nat} {l0 : List Int} {A1 : Option Addr} {c1 : Nat} {l1 : List Int} {kk : Nat} {mo : Int} {dg : Int} {cn : Int} {ok : Bool} {al : Int} {cq : Nat → Int} {nn : Int} {hs : Int} {one : Bool} {sts : List (List Int)} {thr : Bool} {pl : Int} {dgs : Int} {la : Int} {sev : Bool} {lf : List Int} {md : Int} {nin : Bool} {a1 : Int} {b1 : Int} {sm : Int} {elv : Bool} {sN : Int} {rg : List (List Int)} {thi : Bool} {sx : Nat → Int} {sy : Nat → Int} {rx : Nat → Int} {ry : Nat → Int} {uq : Nat → Int} {us : Int} {ov : Int} {A186 : Option Addr} {c186 : Nat} {A191 : Option Addr} {c191 : Nat} {A217 : Option Addr} {c217 : Nat} {A249 : Option Addr} {c249 : Nat} {A254 : Option Addr} {c254 : Nat} {i : Nat} {ad : Addr} {Ar : Option Addr} {cr : Nat} {a2 : Addr} {a3 : Addr} {Ap : Option Addr} {cp : Nat} {a4 : Addr} {gq : Nat}
def FS0 (l0 l1 : List Int) (c0 c1 : Nat) (A0 A1 : Option Addr) (w0 : World) (w : World) : Prop := Below w0.heap.size w0 w ∧ VarsOK w ∧ Kd.C (Kd.int .u8) w A0 l0.length l0 ∧ l0.length ≤ c0 ∧ Kd.C (Kd.int .u8) w A1 l1.length l1 ∧ l1.length ≤ c1
theorem FS0.stays : Stays (FS0 l0 l1 c0 c1 A0 A1 w0) := (stays_below _).and <| sV_.and <| sC_.and <| sL_.and <| sC_.and sL_
def FS1 (l1 : List Int) (c1 : Nat) (A1 : Option Addr) (w0 : World) (w : World) : Prop := Below w0.heap.size w0 w ∧ VarsOK w ∧ Kd.C (Kd.int .u8) w A1 l1.length l1 ∧ l1.length ≤ c1
theorem FS1.stays : Stays (FS1 l1 c1 A1 w0) := (stays_below _).and <| sV_.and <| sC_.and sL_
def FS2 (sts : List (List Int)) (l1 : List Int) (c186 c1 : Nat) (A186 A1 : Option Addr) (w0 : World) (w : World) : Prop := Kd.C (Kd.slice 3 (Kd.int .i64)) w A186 sts.length sts ∧ sts.length ≤ c186 ∧ Below w0.heap.size w0 w ∧ VarsOK w ∧ Kd.C (Kd.int .u8) w A1 l1.length l1 ∧ l1.length ≤ c1
theorem FS2.stays : Stays (FS2 sts l1 c186 c1 A186 A1 w0) := sC_.and <| sL_.and <| (stays_below _).and <| sV_.and <| sC_.and sL_
def FS3 (sts : List (List Int)) (l1 : List Int) (c191 c186 c1 : Nat) (A191 A186 A1 : Option Addr) (w0 : World) (w : World) : Prop := Kd.C (Kd.slice 3 (Kd.int .i64)) w A191 sts.length sts ∧ sts.length ≤ c191 ∧ Kd.C (Kd.slice 3 (Kd.int .i64)) w A186 sts.length sts ∧ sts.length ≤ c186 ∧ Below w0.heap.size w0 w ∧ VarsOK w ∧ Kd.C (Kd.int .u8) w A1 l1.length l1 ∧ l1.length ≤ c1
theorem FS3.stays : Stays (FS3 sts l1 c191 c186 c1 A191 A186 A1 w0) := sC_.and <| sL_.and <| sC_.and <| sL_.and <| (stays_below _).and <| sV_.and <| sC_.and sL_
def FS4 (sts : List (List Int)) (lf l1 : List Int) (c217 c191 c186 c1 : Nat) (A217 A191 A186 A1 : Option Addr) (w0 : World) (w : World) : Prop := Kd.C (Kd.int .i64) w A217 lf.length lf ∧ lf.length ≤ c217 ∧ Kd.C (Kd.slice 3 (Kd.int .i64)) w A191 sts.length sts ∧ sts.length ≤ c191 ∧ Kd.C (Kd.slice 3 (Kd.int .i64)) w A186 sts.length sts ∧ sts.length ≤ c186 ∧ Below w0.heap.size w0 w ∧ VarsOK w ∧ Kd.C (Kd.int .u8) w A1 l1.length l1 ∧ l1.length ≤ c1
theorem FS4.stays : Stays (FS4 sts lf l1 c217 c191 c186 c1 A217 A191 A186 A1 w0) := sC_.and <| sL_.and <| sC_.and <| sL_.and <| sC_.and <| sL_.and <| (stays_below _).and <| sV_.and <| sC_.and sL_
def FS5 (sts : List (List Int)) (lf : List Int) (c217 c191 c186 : Nat) (A217 A191 A186 : Option Addr) (w0 : World) (w : World) : Prop := Kd.C (Kd.int .i64) w A217 lf.length lf ∧ lf.length ≤ c217 ∧ Kd.C (Kd.slice 3 (Kd.int .i64)) w A191 sts.length sts ∧ sts.length ≤ c191 ∧ Kd.C (Kd.slice 3 (Kd.int .i64)) w A186 sts.length sts ∧ sts.length ≤ c186 ∧ Below w0.heap.size w0 w ∧ VarsOK w
theorem FS5.stays : Stays (FS5 sts lf c217 c191 c186 A217 A191 A186 w0) := sC_.and <| sL_.and <| sC_.and <| sL_.and <| sC_.and <| sL_.and <| (stays_below _).and sV_
def FS6 (rg sts : List (List Int)) (lf : List Int) (c249 c217 c191 c186 : Nat) (A249 A217 A191 A186 : Option Addr) (w0 : World) (w : World) : Prop := Kd.C (Kd.slice 3 (Kd.int .i64)) w A249 rg.length rg ∧ rg.length ≤ c249 ∧ Kd.C (Kd.int .i64) w A217 lf.length lf ∧ lf.length ≤ c217 ∧ Kd.C (Kd.slice 3 (Kd.int .i64)) w A191 sts.length sts ∧ sts.length ≤ c191 ∧ Kd.C (Kd.slice 3 (Kd.int .i64)) w A186 sts.length sts ∧ sts.length ≤ c186 ∧ Below w0.heap.size w0 w ∧ VarsOK w
theorem FS6.stays : Stays (FS6 rg sts lf c249 c217 c191 c186 A249 A217 A191 A186 w0) := sC_.and <| sL_.and <| sC_.and <| sL_.and <| sC_.and <| sL_.and <| sC_.and <| sL_.and <| (stays_below _).and sV_
def FS7 (rg sts : List (List Int)) (lf : List Int) (c254 c249 c217 c191 c186 : Nat) (A254 A249 A217 A191 A186 : Option Addr) (w0 : World) (w : World) : Prop := Kd.C (Kd.slice 3 (Kd.int .i64)) w A254 rg.length rg ∧ rg.length ≤ c254 ∧ Kd.C (Kd.slice 3 (Kd.int .i64)) w A249 rg.length rg ∧ rg.length ≤ c249 ∧ Kd.C (Kd.int .i64) w A217 lf.length lf ∧ lf.length ≤ c217 ∧ Kd.C (Kd.slice 3 (Kd.int .i64)) w A191 sts.length sts ∧ sts.length ≤ c191 ∧ Kd.C (Kd.slice 3 (Kd.int .i64)) w A186 sts.length sts ∧ sts.length ≤ c186 ∧ Below w0.heap.size w0 w ∧ VarsOK w
theorem FS7.stays : Stays (FS7 rg sts lf c254 c249 c217 c191 c186 A254 A249 A217 A191 A186 w0) := sC_.and <| sL_.and <| sC_.and <| sL_.and <| sC_.and <| sL_.and <| sC_.and <| sL_.and <| sC_.and <| sL_.and <| (stays_below _).and sV_
def FS8 (w0 : World) (w : World) : Prop := Below w0.heap.size w0 w ∧ VarsOK w
theorem FS8.stays : Stays (FS8 w0) := (stays_below _).and sV_
def FS9 (rg : List (List Int)) (c249 : Nat) (A249 : Option Addr) (w0 : World) (w : World) : Prop := Kd.C (Kd.slice 3 (Kd.int .i64)) w A249 rg.length rg ∧ rg.length ≤ c249 ∧ Below w0.heap.size w0 w ∧ VarsOK w
theorem FS9.stays : Stays (FS9 rg c249 A249 w0) := sC_.and <| sL_.and <| (stays_below _).and sV_
def FS10 (ad : Addr) (rg : List (List Int)) (i cr c249 : Nat) (rx ry : Nat → Int) (Ar A249 : Option Addr) (w0 : World) (w : World) : Prop := w.cell? (ad.add (i : Int).toNat) = some (.slice Ar ([rx i, ry i]).length cr) ∧ Kd.C (Kd.int .i64) w Ar ([rx i, ry i]).length ([rx i, ry i]) ∧ ([rx i, ry i]).length ≤ cr ∧ Kd.C (Kd.slice 3 (Kd.int .i64)) w A249 rg.length rg ∧ rg.length ≤ c249 ∧ Below w0.heap.size w0 w ∧ VarsOK w
theorem FS10.stays : Stays (FS10 ad rg i cr c249 rx ry Ar A249 w0) := sY_.and <| sC_.and <| sL_.and <| sC_.and <| sL_.and <| (stays_below _).and sV_
def FS11 (rg : List (List Int)) (i cr c249 : Nat) (rx ry : Nat → Int) (Ar A249 : Option Addr) (w0 : World) (w : World) : Prop := Kd.C (Kd.int .i64) w Ar ([rx i, ry i]).length ([rx i, ry i]) ∧ ([rx i, ry i]).length ≤ cr ∧ Kd.C (Kd.slice 3 (Kd.int .i64)) w A249 rg.length rg ∧ rg.length ≤ c249 ∧ Below w0.heap.size w0 w ∧ VarsOK w
theorem FS11.stays : Stays (FS11 rg i cr c249 rx ry Ar A249 w0) := sC_.and <| sL_.and <| sC_.and <| sL_.and <| (stays_below _).and sV_
def FS12 (a3 : Addr) (rg : List (List Int)) (i cp cr c249 : Nat) (rx ry : Nat → Int) (Ap Ar A249 : Option Addr) (w0 : World) (w : World) : Prop := w.cell? (a3.add ((i - 1 : Nat) : Int).toNat) = some (.slice Ap ([rx (i - 1), ry (i - 1)]).length cp) ∧ Kd.C (Kd.int .i64) w Ap ([rx (i - 1), ry (i - 1)]).length ([rx (i - 1), ry (i - 1)]) ∧ ([rx (i - 1), ry (i - 1)]).length ≤ cp ∧ Kd.C (Kd.int .i64) w Ar ([rx i, ry i]).length ([rx i, ry i]) ∧ ([rx i, ry i]).length ≤ cr ∧ Kd.C (Kd.slice 3 (Kd.int .i64)) w A249 rg.length rg ∧ rg.length ≤ c249 ∧ Below w0.heap.size w0 w ∧ VarsOK w
theorem FS12.stays : Stays (FS12 a3 rg i cp cr c249 rx ry Ap Ar A249 w0) := sY_.and <| sC_.and <| sL_.and <| sC_.and <| sL_.and <| sC_.and <| sL_.and <| (stays_below _).and sV_
def FS13 (rg : List (List Int)) (lf : List Int) (c249 c217 : Nat) (A249 A217 : Option Addr) (w0 : World) (w : World) : Prop := Kd.C (Kd.slice 3 (Kd.int .i64)) w A249 rg.length rg ∧ rg.length ≤ c249 ∧ Kd.C (Kd.int .i64) w A217 lf.length lf ∧ lf.length ≤ c217 ∧ Below w0.heap.size w0 w ∧ VarsOK w
theorem FS13.stays : Stays (FS13 rg lf c249 c217 A249 A217 w0) := sC_.and <| sL_.and <| sC_.and <| sL_.and <| (stays_below _).and sV_
def FS14 (rg sts : List (List Int)) (lf : List Int) (c249 c217 c186 : Nat) (A249 A217 A186 : Option Addr) (w0 : World) (w : World) : Prop := Kd.C (Kd.slice 3 (Kd.int .i64)) w A249 rg.length rg ∧ rg.length ≤ c249 ∧ Kd.C (Kd.int .i64) w A217 lf.length lf ∧ lf.length ≤ c217 ∧ Kd.C (Kd.slice 3 (Kd.int .i64)) w A186 sts.length sts ∧ sts.length ≤ c186 ∧ Below w0.heap.size w0 w ∧ VarsOK w
theorem FS14.stays : Stays (FS14 rg sts lf c249 c217 c186 A249 A217 A186 w0) := sC_.and <| sL_.and <| sC_.and <| sL_.and <| sC_.and <| sL_.and <| (stays_below _).and sV_
def FS15 (ad : Addr) (rg sts : List (List Int)) (lf : List Int) (i cr c249 c217 c186 : Nat) (sx sy : Nat → Int) (Ar A249 A217 A186 : Option Addr) (w0 : World) (w : World) : Prop := w.cell? (ad.add (i : Int).toNat) = some (.slice Ar ([sx i, sy i]).length cr) ∧ Kd.C (Kd.int .i64) w Ar ([sx i, sy i]).length ([sx i, sy i]) ∧ ([sx i, sy i]).length ≤ cr ∧ Kd.C (Kd.slice 3 (Kd.int .i64)) w A249 rg.length rg ∧ rg.length ≤ c249 ∧ Kd.C (Kd.int .i64) w A217 lf.length lf ∧ lf.length ≤ c217 ∧ Kd.C (Kd.slice 3 (Kd.int .i64)) w A186 sts.length sts ∧ sts.length ≤ c186 ∧ Below w0.heap.size w0 w ∧ VarsOK w
theorem FS15.stays : Stays (FS15 ad rg sts lf i cr c249 c217 c186 sx sy Ar A249 A217 A186 w0) := sY_.and <| sC_.and <| sL_.and <| sC_.and <| sL_.and <| sC_.and <| sL_.and <| sC_.and <| sL_.and <| (stays_below _).and sV_
def FS16 (rg sts : List (List Int)) (lf : List Int) (i cr c249 c217 c186 : Nat) (sx sy : Nat → Int) (Ar A249 A217 A186 : Option Addr) (w0 : World) (w : World) : Prop := Kd.C (Kd.int .i64) w Ar ([sx i, sy i]).length ([sx i, sy i]) ∧ ([sx i, sy i]).length ≤ cr ∧ Kd.C (Kd.slice 3 (Kd.int .i64)) w A249 rg.length rg ∧ rg.length ≤ c249 ∧ Kd.C (Kd.int .i64) w A217 lf.length lf ∧ lf.length ≤ c217 ∧ Kd.C (Kd.slice 3 (Kd.int .i64)) w A186 sts.length sts ∧ sts.length ≤ c186 ∧ Below w0.heap.size w0 w ∧ VarsOK w
theorem FS16.stays : Stays (FS16 rg sts lf i cr c249 c217 c186 sx sy Ar A249 A217 A186 w0) := sC_.and <| sL_.and <| sC_.and <| sL_.and <| sC_.and <| sL_.and <| sC_.and <| sL_.and <| (stays_below _).and sV_
def FS17 (a3 : Addr) (rg sts : List (List Int)) (lf : List Int) (i cp cr c249 c217 c186 : Nat) (sx sy : Nat → Int) (Ap Ar A249 A217 A186 : Option Addr) (w0 : World) (w : World) : Prop := w.cell? (a3.add ((i - 1 : Nat) : Int).toNat) = some (.slice Ap ([sx (i - 1), sy (i - 1)]).length cp) ∧ Kd.C (Kd.int .i64) w Ap ([sx (i - 1), sy (i - 1)]).length ([sx (i - 1), sy (i - 1)]) ∧ ([sx (i - 1), sy (i - 1)]).length ≤ cp ∧ Kd.C (Kd.int .i64) w Ar ([sx i, sy i]).length ([sx i, sy i]) ∧ ([sx i, sy i]).length ≤ cr ∧ Kd.C (Kd.slice 3 (Kd.int .i64)) w A249 rg.length rg ∧ rg.length ≤ c249 ∧ Kd.C (Kd.int .i64) w A217 lf.length lf ∧ lf.length ≤ c217 ∧ Kd.C (Kd.slice 3 (Kd.int .i64)) w A186 sts.length sts ∧ sts.length ≤ c186 ∧ Below w0.heap.size w0 w ∧ VarsOK w
theorem FS17.stays : Stays (FS17 a3 rg sts lf i cp cr c249 c217 c186 sx sy Ap Ar A249 A217 A186 w0) := sY_.and <| sC_.and <| sL_.and <| sC_.and <| sL_.and <| sC_.and <| sL_.and <| sC_.and <| sL_.and <| sC_.and <| sL_.and <| (stays_below _).and sV_
def FS18 (a3 : Addr) (sts rg : List (List Int)) (lf : List Int) (cp c249 c217 c186 : Nat) (sx sy : Nat → Int) (Ap A249 A217 A186 : Option Addr) (w0 : World) (w : World) : Prop := w.cell? (a3.add ((sts.length - 1 : Nat) : Int).toNat) = some (.slice Ap ([sx (sts.length - 1), sy (sts.length - 1)]).length cp) ∧ Kd.C (Kd.int .i64) w Ap ([sx (sts.length - 1), sy (sts.length - 1)]).length ([sx (sts.length - 1), sy (sts.length - 1)]) ∧ ([sx (sts.length - 1), sy (sts.length - 1)]).length ≤ cp ∧ Kd.C (Kd.slice 3 (Kd.int .i64)) w A249 rg.length rg ∧ rg.length ≤ c249 ∧ Kd.C (Kd.int .i64) w A217 lf.length lf ∧ lf.length ≤ c217 ∧ Kd.C (Kd.slice 3 (Kd.int .i64)) w A186 sts.length sts ∧ sts.length ≤ c186 ∧ Below w0.heap.size w0 w ∧ VarsOK w
theorem FS18.stays : Stays (FS18 a3 sts rg lf cp c249 c217 c186 sx sy Ap A249 A217 A186 w0) := sY_.and <| sC_.and <| sL_.and <| sC_.and <| sL_.and <| sC_.and <| sL_.and <| sC_.and <| sL_.and <| (stays_below _).and sV_
def FS19 (l1 : List Int) (c1 gq : Nat) (cq : Nat → Int) (A1 : Option Addr) (w0 : World) (w : World) : Prop := Pend (FS1 l1 c1 A1 w0) [(gq, .cells ((cu cq 0).map (Value.int .i64)).toArray 3 (0, 0))] w
theorem FS19.stays : Stays (FS19 l1 c1 gq cq A1 w0) := Pend.stays
def FS20 (l1 : List Int) (c1 gq i : Nat) (cq : Nat → Int) (A1 : Option Addr) (w0 : World) (w : World) : Prop := Pend (FS1 l1 c1 A1 w0) [(gq, .cells ((cu cq i).map (Value.int .i64)).toArray 3 (0, 0))] w
theorem FS20.stays : Stays (FS20 l1 c1 gq i cq A1 w0) := Pend.stays
def FS21 (l1 : List Int) (c1 gq i : Nat) (cq : Nat → Int) (A1 : Option Addr) (w0 : World) (w : World) : Prop := Pend (FS1 l1 c1 A1 w0) [(gq, .cells ((cu cq (i + 1)).map (Value.int .i64)).toArray 3 (0, 0))] w
theorem FS21.stays : Stays (FS21 l1 c1 gq i cq A1 w0) := Pend.stays
def FS22 (l1 : List Int) (gq c1 : Nat) (cq : Nat → Int) (A1 : Option Addr) (w0 : World) (w : World) : Prop := Kd.C (Kd.int .i64) w (some ⟨gq, 0, none⟩) (cl cq).length (cl cq) ∧ (cl cq).length ≤ 10 ∧ Below w0.heap.size w0 w ∧ VarsOK w ∧ Kd.C (Kd.int .u8) w A1 l1.length l1 ∧ l1.length ≤ c1
theorem FS22.stays : Stays (FS22 l1 gq c1 cq A1 w0) := sC_.and <| sL_.and <| (stays_below _).and <| sV_.and <| sC_.and sL_
theorem t81 {a : Act} {w : World} (h : Has 602 a []) (hw : FS8 w0 w) : B81.wp Tryd.prog (Ql w0) a w := by
  refine wp_seq ?_
  refine region_ (K := [(4, (vB true))]) (obs := []) (by kernel_rfl) mix rfl FS8.stays trivial h hw ?_
  clear h hw
  intro a w h hw
  show Code.wp _ Code.ret _ _ _
  refine wp_ret ?_
  exact post_ h rfl (hw.1)
theorem t63 (H : Facts kk l0 l1 mo dg cn ok al cq nn hs one sts thr pl dgs la sev lf md nin a1 b1 sm elv sN rg true sx sy rx ry uq us ov) (hlt : i < rg.length) (hmax_ : rg.length ≤ 9223372036854775807) {a : Act} {w : World} (h : Has 602 a [(50, (vI sN)), (51, (vS A249 rg c249)), (67, (vI (i : Int))), (68, (.slice Ar ([rx i, ry i]).length cr)), (523, (vS A249 rg c249)), (524, (vI (rg.length : Int))), (525, (vI (i : Int)))]) (hw : FS11 rg i cr c249 rx ry Ar A249 w0 w) : B63.wp Tryd.prog (Exit.inBlock 7 (Exit.then (fun a w => Code.wp Tryd.prog (Code.region 84 R84.toArray false) (Exit.then (fun a' w' => ∃ d', d' < rg.length - i ∧ (∃ i : Nat, i ≤ rg.length ∧ d' = rg.length - i ∧ Has 602 a' [(50, (vI sN)), (51, (vS A249 rg c249)), (523, (vS A249 rg c249)), (524, (vI (rg.length : Int))), (525, (vI (i : Int)))] ∧ FS9 rg c249 A249 w0 w')) (Exit.inBlock 6 (Exit.then (fun a w => Code.wp Tryd.prog B77 (Exit.then (fun a w => Code.wp Tryd.prog B81 (Ql w0) a w) (Ql w0)) a w) (Exit.then (fun a w => Code.wp Tryd.prog B81 (Ql w0) a w) (Ql w0))))) a w) (Exit.then (fun a' w' => ∃ d', d' < rg.length - i ∧ (∃ i : Nat, i ≤ rg.length ∧ d' = rg.length - i ∧ Has 602 a' [(50, (vI sN)), (51, (vS A249 rg c249)), (523, (vS A249 rg c249)), (524, (vI (rg.length : Int))), (525, (vI (i : Int)))] ∧ FS9 rg c249 A249 w0 w')) (Exit.inBlock 6 (Exit.then (fun a w => Code.wp Tryd.prog B77 (Exit.then (fun a w => Code.wp Tryd.prog B81 (Ql w0) a w) (Ql w0)) a w) (Exit.then (fun a w => Code.wp Tryd.prog B81 (Ql w0) a w) (Ql w0))))))) a w := by
  refine wp_seq ?_
  obtain ⟨hr1, hr2, hr3, hr4, hr5⟩ := H.hrng rfl i hlt
  obtain ⟨a2, hA2⟩ := C_some (hw.1) (i := 0) (by simp)
  by_cases hx0 : i = 0
  · refine region_ (F := FS11 rg i cr c249 rx ry Ar A249 w0) (K := [(50, (vI sN)), (51, (vS A249 rg c249)), (523, (vS A249 rg c249)), (524, (vI (rg.length : Int))), (525, (vI (i : Int))), (585, (vB false))]) (obs := [lN 29 530 Ar ([rx i, ry i]) cr, cK .neq 531 ((([rx i, ry i]).length : Int)) 2 false, .op (Op.indexAddr 29 (tm 534) (Operand.const (Value.int IntKind.i64 0))) 0 [((tm 534), (.slice Ar ([rx i, ry i]).length cr)), ((Operand.const (Value.int IntKind.i64 0)), (vI 0))] (.pointer (some ((a2.add (0 : Int).toNat)))), .op (Op.load 3 (tm 535)) 3 [((tm 535), (.pointer (some ((a2.add (0 : Int).toNat)))))] (vI (rx i)), cK .lss 536 (rx i) 1 false, .op (Op.indexAddr 29 (tm 540) (Operand.const (Value.int IntKind.i64 0))) 0 [((tm 540), (.slice Ar ([rx i, ry i]).length cr)), ((Operand.const (Value.int IntKind.i64 0)), (vI 0))] (.pointer (some ((a2.add (0 : Int).toNat)))), .op (Op.load 3 (tm 541)) 3 [((tm 541), (.pointer (some ((a2.add (0 : Int).toNat)))))] (vI (rx i)), .op (Op.indexAddr 29 (tm 543) (Operand.const (Value.int IntKind.i64 1))) 0 [((tm 543), (.slice Ar ([rx i, ry i]).length cr)), ((Operand.const (Value.int IntKind.i64 1)), (vI 1))] (.pointer (some ((a2.add (1 : Int).toNat)))), .op (Op.load 3 (tm 544)) 3 [((tm 544), (.pointer (some ((a2.add (1 : Int).toNat)))))] (vI (ry i)), cI .gtr 542 545 (rx i) (ry i) false, .op (Op.indexAddr 29 (tm 549) (Operand.const (Value.int IntKind.i64 0))) 0 [((tm 549), (.slice Ar ([rx i, ry i]).length cr)), ((Operand.const (Value.int IntKind.i64 0)), (vI 0))] (.pointer (some ((a2.add (0 : Int).toNat)))), .op (Op.load 3 (tm 550)) 3 [((tm 550), (.pointer (some ((a2.add (0 : Int).toNat)))))] (vI (rx i)), .op (Op.indexAddr 29 (tm 552) (Operand.const (Value.int IntKind.i64 1))) 0 [((tm 552), (.slice Ar ([rx i, ry i]).length cr)), ((Operand.const (Value.int IntKind.i64 1)), (vI 1))] (.pointer (some ((a2.add (1 : Int).toNat)))), .op (Op.load 3 (tm 553)) 3 [((tm 553), (.pointer (some ((a2.add (1 : Int).toNat)))))] (vI (ry i)), bO .add (tm 551) (tm 554) (rx i) (ry i) (wrap64 ((rx i) + (ry i))), .op (Op.indexAddr 29 (tm 556) (Operand.const (Value.int IntKind.i64 1))) 0 [((tm 556), (.slice Ar ([rx i, ry i]).length cr)), ((Operand.const (Value.int IntKind.i64 1)), (vI 1))] (.pointer (some ((a2.add (1 : Int).toNat)))), .op (Op.load 3 (tm 557)) 3 [((tm 557), (.pointer (some ((a2.add (1 : Int).toNat)))))] (vI (ry i)), .op (Op.indexAddr 29 (tm 559) (Operand.const (Value.int IntKind.i64 0))) 0 [((tm 559), (.slice Ar ([rx i, ry i]).length cr)), ((Operand.const (Value.int IntKind.i64 0)), (vI 0))] (.pointer (some ((a2.add (0 : Int).toNat)))), .op (Op.load 3 (tm 560)) 3 [((tm 560), (.pointer (some ((a2.add (0 : Int).toNat)))))] (vI (rx i)), bO .sub (tm 558) (tm 561) (ry i) (rx i) (wrap64 ((ry i) - (rx i))), bO .add (tm 562) (Operand.const (Value.int IntKind.i64 1)) (wrap64 ((ry i) - (rx i))) 1 (wrap64 ((wrap64 ((ry i) - (rx i))) + 1)), bO .mul (tm 555) (tm 563) (wrap64 ((rx i) + (ry i))) (wrap64 ((wrap64 ((ry i) - (rx i))) + 1)) (wrap64 ((wrap64 ((rx i) + (ry i))) * (wrap64 ((wrap64 ((ry i) - (rx i))) + 1)))), bO .mul (Operand.const (Value.int IntKind.i64 2)) (tm 565) 2 sN (wrap64 (2 * sN)), cI .neq 564 566 (wrap64 ((wrap64 ((rx i) + (ry i))) * (wrap64 ((wrap64 ((ry i) - (rx i))) + 1)))) (wrap64 (2 * sN)) false, cK .gtr 570 (i : Int) 0 false]) (by kernel_rfl) mix lex82 FS11.stays ⟨(ok_len Tryd.underlying29), (ok_neq_int (by simp)), (ok_idxe29 hA2 (by decide) (by simp)), (ok_load3p (fun w hw => (row_cells (hw.1) hA2).1)), (ok_lss_int (decide_eq_false hr2)), (ok_idxe29 hA2 (by decide) (by simp)), (ok_load3p (fun w hw => (row_cells (hw.1) hA2).1)), (ok_idxe29 hA2 (by decide) (by simp)), (ok_load3p (fun w hw => (row_cells (hw.1) hA2).2)), (ok_gtr_int (decide_eq_false hr3)), (ok_idxe29 hA2 (by decide) (by simp)), (ok_load3p (fun w hw => (row_cells (hw.1) hA2).1)), (ok_idxe29 hA2 (by decide) (by simp)), (ok_load3p (fun w hw => (row_cells (hw.1) hA2).2)), (ok_add_int rfl), (ok_idxe29 hA2 (by decide) (by simp)), (ok_load3p (fun w hw => (row_cells (hw.1) hA2).2)), (ok_idxe29 hA2 (by decide) (by simp)), (ok_load3p (fun w hw => (row_cells (hw.1) hA2).1)), (ok_sub_int rfl), (ok_add_int rfl), (ok_mul_int rfl), (ok_mul_int rfl), (ok_neq_int (bne_eq_false_iff_eq.mpr hr4)), (ok_gtr_int (decide_eq_false (by omega))), trivial⟩ h hw ?_
    clear h hw
    intro a w h hw
    show Code.wp _ (Code.cond (tm 585) B62 Code.skip) _ _ _
    refine wp_cond_false (h.opd (by kernel_rfl)) ?_
    refine wp_skip ?_
    show Code.wp _ (Code.region 84 R84.toArray false) _ _ _
    refine region_ (K := [(50, (vI sN)), (51, (vS A249 rg c249)), (523, (vS A249 rg c249)), (524, (vI (rg.length : Int))), (525, (vI (((i + 1 : Nat) : Int))))]) (obs := [bO .add (tm 525) (Operand.const (Value.int IntKind.i64 1)) (i : Int) 1 (((i + 1 : Nat) : Int))]) (by kernel_rfl) mix rfl FS11.stays ⟨(ok_add_int (wadd_ (by omega))), trivial⟩ h hw ?_
    clear h hw
    intro a w h hw
    refine ⟨rg.length - (i + 1), by omega, i + 1, by omega, rfl, ?_, ?_⟩
    · exact h.cut (by kernel_rfl)
    · exact ⟨hw.2.2.1, hw.2.2.2.1, hw.2.2.2.2.1, hw.2.2.2.2.2⟩
  · obtain ⟨hq1, -⟩ := H.hrng rfl (i - 1) (by omega)
    obtain ⟨a3, Ap, cp, hA3, hy1, hy2, hy3⟩ := at_L2 (hw.2.2.1) ((i - 1 : Nat) : Int) (by omega) (by omega)
    rw [hq1] at hy1 hy2 hy3
    obtain ⟨a4, hA4⟩ := C_some hy3 (i := 0) (by simp)
    replace hw : FS12 a3 rg i cp cr c249 rx ry Ap Ar A249 w0 w := ⟨hy1, hy3, hy2, hw⟩
    clear hy1 hy2 hy3
    refine region_ (K := [(50, (vI sN)), (51, (vS A249 rg c249)), (523, (vS A249 rg c249)), (524, (vI (rg.length : Int))), (525, (vI (i : Int))), (585, (vB false))]) (obs := [lN 29 530 Ar ([rx i, ry i]) cr, cK .neq 531 ((([rx i, ry i]).length : Int)) 2 false, .op (Op.indexAddr 29 (tm 534) (Operand.const (Value.int IntKind.i64 0))) 0 [((tm 534), (.slice Ar ([rx i, ry i]).length cr)), ((Operand.const (Value.int IntKind.i64 0)), (vI 0))] (.pointer (some ((a2.add (0 : Int).toNat)))), .op (Op.load 3 (tm 535)) 3 [((tm 535), (.pointer (some ((a2.add (0 : Int).toNat)))))] (vI (rx i)), cK .lss 536 (rx i) 1 false, .op (Op.indexAddr 29 (tm 540) (Operand.const (Value.int IntKind.i64 0))) 0 [((tm 540), (.slice Ar ([rx i, ry i]).length cr)), ((Operand.const (Value.int IntKind.i64 0)), (vI 0))] (.pointer (some ((a2.add (0 : Int).toNat)))), .op (Op.load 3 (tm 541)) 3 [((tm 541), (.pointer (some ((a2.add (0 : Int).toNat)))))] (vI (rx i)), .op (Op.indexAddr 29 (tm 543) (Operand.const (Value.int IntKind.i64 1))) 0 [((tm 543), (.slice Ar ([rx i, ry i]).length cr)), ((Operand.const (Value.int IntKind.i64 1)), (vI 1))] (.pointer (some ((a2.add (1 : Int).toNat)))), .op (Op.load 3 (tm 544)) 3 [((tm 544), (.pointer (some ((a2.add (1 : Int).toNat)))))] (vI (ry i)), cI .gtr 542 545 (rx i) (ry i) false, .op (Op.indexAddr 29 (tm 549) (Operand.const (Value.int IntKind.i64 0))) 0 [((tm 549), (.slice Ar ([rx i, ry i]).length cr)), ((Operand.const (Value.int IntKind.i64 0)), (vI 0))] (.pointer (some ((a2.add (0 : Int).toNat)))), .op (Op.load 3 (tm 550)) 3 [((tm 550), (.pointer (some ((a2.add (0 : Int).toNat)))))] (vI (rx i)), .op (Op.indexAddr 29 (tm 552) (Operand.const (Value.int IntKind.i64 1))) 0 [((tm 552), (.slice Ar ([rx i, ry i]).length cr)), ((Operand.const (Value.int IntKind.i64 1)), (vI 1))] (.pointer (some ((a2.add (1 : Int).toNat)))), .op (Op.load 3 (tm 553)) 3 [((tm 553), (.pointer (some ((a2.add (1 : Int).toNat)))))] (vI (ry i)), bO .add (tm 551) (tm 554) (rx i) (ry i) (wrap64 ((rx i) + (ry i))), .op (Op.indexAddr 29 (tm 556) (Operand.const (Value.int IntKind.i64 1))) 0 [((tm 556), (.slice Ar ([rx i, ry i]).length cr)), ((Operand.const (Value.int IntKind.i64 1)), (vI 1))] (.pointer (some ((a2.add (1 : Int).toNat)))), .op (Op.load 3 (tm 557)) 3 [((tm 557), (.pointer (some ((a2.add (1 : Int).toNat)))))] (vI (ry i)), .op (Op.indexAddr 29 (tm 559) (Operand.const (Value.int IntKind.i64 0))) 0 [((tm 559), (.slice Ar ([rx i, ry i]).length cr)), ((Operand.const (Value.int IntKind.i64 0)), (vI 0))] (.pointer (some ((a2.add (0 : Int).toNat)))), .op (Op.load 3 (tm 560)) 3 [((tm 560), (.pointer (some ((a2.add (0 : Int).toNat)))))] (vI (rx i)), bO .sub (tm 558) (tm 561) (ry i) (rx i) (wrap64 ((ry i) - (rx i))), bO .add (tm 562) (Operand.const (Value.int IntKind.i64 1)) (wrap64 ((ry i) - (rx i))) 1 (wrap64 ((wrap64 ((ry i) - (rx i))) + 1)), bO .mul (tm 555) (tm 563) (wrap64 ((rx i) + (ry i))) (wrap64 ((wrap64 ((ry i) - (rx i))) + 1)) (wrap64 ((wrap64 ((rx i) + (ry i))) * (wrap64 ((wrap64 ((ry i) - (rx i))) + 1)))), bO .mul (Operand.const (Value.int IntKind.i64 2)) (tm 565) 2 sN (wrap64 (2 * sN)), cI .neq 564 566 (wrap64 ((wrap64 ((rx i) + (ry i))) * (wrap64 ((wrap64 ((ry i) - (rx i))) + 1)))) (wrap64 (2 * sN)) false, cK .gtr 570 (i : Int) 0 true, bO .sub (tm 574) (Operand.const (Value.int IntKind.i64 1)) (i : Int) 1 (((i - 1 : Nat) : Int)), .op (Op.indexAddr 33 (tm 573) (tm 575)) 0 [((tm 573), (vS A249 rg c249)), ((tm 575), (vI (((i - 1 : Nat) : Int))))] (.pointer (some ((a3.add ((i - 1 : Nat) : Int).toNat)))), .op (Op.load 29 (tm 576)) 29 [((tm 576), (.pointer (some ((a3.add ((i - 1 : Nat) : Int).toNat)))))] (.slice Ap ([rx (i - 1), ry (i - 1)]).length cp), .op (Op.indexAddr 29 (tm 577) (Operand.const (Value.int IntKind.i64 0))) 0 [((tm 577), (.slice Ap ([rx (i - 1), ry (i - 1)]).length cp)), ((Operand.const (Value.int IntKind.i64 0)), (vI 0))] (.pointer (some ((a4.add (0 : Int).toNat)))), .op (Op.load 3 (tm 578)) 3 [((tm 578), (.pointer (some ((a4.add (0 : Int).toNat)))))] (vI ((rx (i - 1)))), .op (Op.indexAddr 29 (tm 580) (Operand.const (Value.int IntKind.i64 0))) 0 [((tm 580), (.slice Ar ([rx i, ry i]).length cr)), ((Operand.const (Value.int IntKind.i64 0)), (vI 0))] (.pointer (some ((a2.add (0 : Int).toNat)))), .op (Op.load 3 (tm 581)) 3 [((tm 581), (.pointer (some ((a2.add (0 : Int).toNat)))))] (vI (rx i)), cI .geq 579 582 ((rx (i - 1))) (rx i) false]) (by kernel_rfl) mix lex82 FS12.stays ⟨(ok_len Tryd.underlying29), (ok_neq_int (by simp)), (ok_idxe29 hA2 (by decide) (by simp)), (ok_load3p (fun w hw => (row_cells (hw.2.2.2.1) hA2).1)), (ok_lss_int (decide_eq_false hr2)), (ok_idxe29 hA2 (by decide) (by simp)), (ok_load3p (fun w hw => (row_cells (hw.2.2.2.1) hA2).1)), (ok_idxe29 hA2 (by decide) (by simp)), (ok_load3p (fun w hw => (row_cells (hw.2.2.2.1) hA2).2)), (ok_gtr_int (decide_eq_false hr3)), (ok_idxe29 hA2 (by decide) (by simp)), (ok_load3p (fun w hw => (row_cells (hw.2.2.2.1) hA2).1)), (ok_idxe29 hA2 (by decide) (by simp)), (ok_load3p (fun w hw => (row_cells (hw.2.2.2.1) hA2).2)), (ok_add_int rfl), (ok_idxe29 hA2 (by decide) (by simp)), (ok_load3p (fun w hw => (row_cells (hw.2.2.2.1) hA2).2)), (ok_idxe29 hA2 (by decide) (by simp)), (ok_load3p (fun w hw => (row_cells (hw.2.2.2.1) hA2).1)), (ok_sub_int rfl), (ok_add_int rfl), (ok_mul_int rfl), (ok_mul_int rfl), (ok_neq_int (bne_eq_false_iff_eq.mpr hr4)), (ok_gtr_int (decide_eq_true (by omega))), (ok_sub_int (wsub_ (by omega) (by omega))), (ok_idxe33 hA3 (by omega) (by omega)), (ok_load29p (fun w hw => (hw.1))), (ok_idxe29 hA4 (by decide) (by simp)), (ok_load3p (fun w hw => (row_cells (hw.2.1) hA4).1)), (ok_idxe29 hA2 (by decide) (by simp)), (ok_load3p (fun w hw => (row_cells (hw.2.2.2.1) hA2).1)), (ok_geq_int (decide_eq_false (by have := hr5 (by omega); omega))), trivial⟩ h hw ?_
    clear h hw
    intro a w h hw
    show Code.wp _ (Code.cond (tm 585) B62 Code.skip) _ _ _
    refine wp_cond_false (h.opd (by kernel_rfl)) ?_
    refine wp_skip ?_
    show Code.wp _ (Code.region 84 R84.toArray false) _ _ _
    refine region_ (K := [(50, (vI sN)), (51, (vS A249 rg c249)), (523, (vS A249 rg c249)), (524, (vI (rg.length : Int))), (525, (vI (((i + 1 : Nat) : Int))))]) (obs := [bO .add (tm 525) (Operand.const (Value.int IntKind.i64 1)) (i : Int) 1 (((i + 1 : Nat) : Int))]) (by kernel_rfl) mix rfl FS12.stays ⟨(ok_add_int (wadd_ (by omega))), trivial⟩ h hw ?_
    clear h hw
    intro a w h hw
    refine ⟨rg.length - (i + 1), by omega, i + 1, by omega, rfl, ?_, ?_⟩
    · exact h.cut (by kernel_rfl)
    · exact ⟨hw.2.2.2.2.2.1, hw.2.2.2.2.2.2.1, hw.2.2.2.2.2.2.2.1, hw.2.2.2.2.2.2.2.2⟩
theorem t64 (H : Facts kk l0 l1 mo dg cn ok al cq nn hs one sts thr pl dgs la sev lf md nin a1 b1 sm elv sN rg true sx sy rx ry uq us ov) (hlt : i < rg.length) (hmax_ : rg.length ≤ 9223372036854775807) {a : Act} {w : World} (h : Has 602 a [(50, (vI sN)), (51, (vS A249 rg c249)), (523, (vS A249 rg c249)), (524, (vI (rg.length : Int))), (525, (vI (i : Int)))]) (hw : FS9 rg c249 A249 w0 w) : B64.wp Tryd.prog (Exit.inBlock 7 (Exit.then (fun a w => Code.wp Tryd.prog (Code.region 84 R84.toArray false) (Exit.then (fun a' w' => ∃ d', d' < rg.length - i ∧ (∃ i : Nat, i ≤ rg.length ∧ d' = rg.length - i ∧ Has 602 a' [(50, (vI sN)), (51, (vS A249 rg c249)), (523, (vS A249 rg c249)), (524, (vI (rg.length : Int))), (525, (vI (i : Int)))] ∧ FS9 rg c249 A249 w0 w')) (Exit.inBlock 6 (Exit.then (fun a w => Code.wp Tryd.prog B77 (Exit.then (fun a w => Code.wp Tryd.prog B81 (Ql w0) a w) (Ql w0)) a w) (Exit.then (fun a w => Code.wp Tryd.prog B81 (Ql w0) a w) (Ql w0))))) a w) (Exit.then (fun a' w' => ∃ d', d' < rg.length - i ∧ (∃ i : Nat, i ≤ rg.length ∧ d' = rg.length - i ∧ Has 602 a' [(50, (vI sN)), (51, (vS A249 rg c249)), (523, (vS A249 rg c249)), (524, (vI (rg.length : Int))), (525, (vI (i : Int)))] ∧ FS9 rg c249 A249 w0 w')) (Exit.inBlock 6 (Exit.then (fun a w => Code.wp Tryd.prog B77 (Exit.then (fun a w => Code.wp Tryd.prog B81 (Ql w0) a w) (Ql w0)) a w) (Exit.then (fun a w => Code.wp Tryd.prog B81 (Ql w0) a w) (Ql w0))))))) a w := by
  refine wp_seq ?_
  obtain ⟨hr1, -⟩ := H.hrng rfl i hlt
  obtain ⟨ad, Ar, cr, hA, hy1, hy2, hy3⟩ := at_L2 (hw.1) (i : Int) (by omega) (by omega)
  rw [hr1] at hy1 hy2 hy3
  replace hw : FS10 ad rg i cr c249 rx ry Ar A249 w0 w := ⟨hy1, hy3, hy2, hw⟩
  clear hy1 hy2 hy3
  exact region_ (obs := [.op (Op.indexAddr 33 (tm 523) (tm 525)) 0 [((tm 523), (vS A249 rg c249)), ((tm 525), (vI (i : Int)))] (.pointer (some ((ad.add (i : Int).toNat)))), .op (Op.load 29 (tm 528)) 29 [((tm 528), (.pointer (some ((ad.add (i : Int).toNat)))))] (.slice Ar ([rx i, ry i]).length cr)]) (by kernel_rfl) mix rfl FS10.stays ⟨(ok_idxe33 hA (by omega) (by omega)), (ok_load29p (fun w hw => (hw.1))), trivial⟩ h hw fun a w h hw => t63 H hlt hmax_ h hw.2
theorem t65 (H : Facts kk l0 l1 mo dg cn ok al cq nn hs one sts thr pl dgs la sev lf md nin a1 b1 sm elv sN rg true sx sy rx ry uq us ov) (hlt : i < rg.length) (hmax_ : rg.length ≤ 9223372036854775807) {a : Act} {w : World} (h : Has 602 a [(50, (vI sN)), (51, (vS A249 rg c249)), (523, (vS A249 rg c249)), (524, (vI (rg.length : Int))), (525, (vI (i : Int)))]) (hw : FS9 rg c249 A249 w0 w) : B65.wp Tryd.prog (Exit.then (fun a' w' => ∃ d', d' < rg.length - i ∧ (∃ i : Nat, i ≤ rg.length ∧ d' = rg.length - i ∧ Has 602 a' [(50, (vI sN)), (51, (vS A249 rg c249)), (523, (vS A249 rg c249)), (524, (vI (rg.length : Int))), (525, (vI (i : Int)))] ∧ FS9 rg c249 A249 w0 w')) (Exit.inBlock 6 (Exit.then (fun a w => Code.wp Tryd.prog B77 (Exit.then (fun a w => Code.wp Tryd.prog B81 (Ql w0) a w) (Ql w0)) a w) (Exit.then (fun a w => Code.wp Tryd.prog B81 (Ql w0) a w) (Ql w0))))) a w := by
  refine wp_seq ?_
  refine wp_block ?_
  exact t64 H hlt hmax_ h hw
theorem t66 (H : Facts kk l0 l1 mo dg cn ok al cq nn hs one sts thr pl dgs la sev lf md nin a1 b1 sm elv sN rg true sx sy rx ry uq us ov) (hlt : i < rg.length) (hmax_ : rg.length ≤ 9223372036854775807) {a : Act} {w : World} (h : Has 602 a [(50, (vI sN)), (51, (vS A249 rg c249)), (523, (vS A249 rg c249)), (524, (vI (rg.length : Int))), (525, (vI (i : Int))), (526, (vB true))]) (hw : FS9 rg c249 A249 w0 w) : B66.wp Tryd.prog (Exit.then (fun a' w' => ∃ d', d' < rg.length - i ∧ (∃ i : Nat, i ≤ rg.length ∧ d' = rg.length - i ∧ Has 602 a' [(50, (vI sN)), (51, (vS A249 rg c249)), (523, (vS A249 rg c249)), (524, (vI (rg.length : Int))), (525, (vI (i : Int)))] ∧ FS9 rg c249 A249 w0 w')) (Exit.inBlock 6 (Exit.then (fun a w => Code.wp Tryd.prog B77 (Exit.then (fun a w => Code.wp Tryd.prog B81 (Ql w0) a w) (Ql w0)) a w) (Exit.then (fun a w => Code.wp Tryd.prog B81 (Ql w0) a w) (Ql w0))))) a w := by
  refine wp_seq ?_
  refine wp_cond_true (h.opd (by kernel_rfl)) ?_
  refine wp_skip ?_
  exact t65 H hlt hmax_ (h.cut (by kernel_rfl)) hw
theorem t67 (H : Facts kk l0 l1 mo dg cn ok al cq nn hs one sts thr pl dgs la sev lf md nin a1 b1 sm elv sN rg true sx sy rx ry uq us ov) (hlt : i < rg.length) (hmax_ : rg.length ≤ 9223372036854775807) {a : Act} {w : World} (h : Has 602 a [(50, (vI sN)), (51, (vS A249 rg c249)), (523, (vS A249 rg c249)), (524, (vI (rg.length : Int))), (525, (vI (i : Int)))]) (hw : FS9 rg c249 A249 w0 w) : B67.wp Tryd.prog (Exit.then (fun a' w' => ∃ d', d' < rg.length - i ∧ (∃ i : Nat, i ≤ rg.length ∧ d' = rg.length - i ∧ Has 602 a' [(50, (vI sN)), (51, (vS A249 rg c249)), (523, (vS A249 rg c249)), (524, (vI (rg.length : Int))), (525, (vI (i : Int)))] ∧ FS9 rg c249 A249 w0 w')) (Exit.inBlock 6 (Exit.then (fun a w => Code.wp Tryd.prog B77 (Exit.then (fun a w => Code.wp Tryd.prog B81 (Ql w0) a w) (Ql w0)) a w) (Exit.then (fun a w => Code.wp Tryd.prog B81 (Ql w0) a w) (Ql w0))))) a w := by
  refine wp_seq ?_
  exact region_ (obs := [.op (Op.binOp BinOp.lss 3 (tm 525) (tm 524) 3) 0 [((tm 525), (vI (i : Int))), ((tm 524), (vI (rg.length : Int)))] (vB true)]) (by kernel_rfl) mix rfl FS9.stays ⟨(ok_lss_int (decide_eq_true (by omega))), trivial⟩ h hw fun a w h hw => t66 H hlt hmax_ h hw
theorem t70 (hb1 : 1 ≤ sN) (hb2 : sN ≤ 100000) (hlt : i < ((sN.toNat + 1) / 2)) {a : Act} {w : World} (h : Has 602 a [(50, (vI sN)), (51, (vS A249 rg c249)), (69, (vI (oddP sN i))), (70, (vI (((2 * i + 1 : Nat) : Int))))]) (hw : FS9 rg c249 A249 w0 w) : B70.wp Tryd.prog (Exit.inBlock 9 (Exit.then (fun a w => Code.wp Tryd.prog (Code.region 88 R88.toArray false) (Exit.then (fun a' w' => ∃ d', d' < ((sN.toNat + 1) / 2) - i ∧ (∃ i : Nat, i ≤ ((sN.toNat + 1) / 2) ∧ d' = ((sN.toNat + 1) / 2) - i ∧ Has 602 a' [(50, (vI sN)), (51, (vS A249 rg c249)), (69, (vI (oddP sN i))), (70, (vI (((2 * i + 1 : Nat) : Int))))] ∧ FS9 rg c249 A249 w0 w')) (Exit.inBlock 8 (Exit.then (fun a w => Code.wp Tryd.prog B75 (Exit.then (fun a w => Code.wp Tryd.prog B81 (Ql w0) a w) (Ql w0)) a w) (Exit.then (fun a w => Code.wp Tryd.prog B81 (Ql w0) a w) (Ql w0))))) a w) (Exit.then (fun a' w' => ∃ d', d' < ((sN.toNat + 1) / 2) - i ∧ (∃ i : Nat, i ≤ ((sN.toNat + 1) / 2) ∧ d' = ((sN.toNat + 1) / 2) - i ∧ Has 602 a' [(50, (vI sN)), (51, (vS A249 rg c249)), (69, (vI (oddP sN i))), (70, (vI (((2 * i + 1 : Nat) : Int))))] ∧ FS9 rg c249 A249 w0 w')) (Exit.inBlock 8 (Exit.then (fun a w => Code.wp Tryd.prog B75 (Exit.then (fun a w => Code.wp Tryd.prog B81 (Ql w0) a w) (Ql w0)) a w) (Exit.then (fun a w => Code.wp Tryd.prog B81 (Ql w0) a w) (Ql w0))))))) a w := by
  refine wp_seq ?_
  by_cases hx1 : Int.tmod sN ((2 * i + 1 : Nat) : Int) = 0
  · refine region_ (F := FS9 rg c249 A249 w0) (K := [(50, (vI sN)), (51, (vS A249 rg c249)), (69, (vI (oddP sN i))), (70, (vI (((2 * i + 1 : Nat) : Int)))), (595, (vB true))]) (obs := [bO .rem (tm 592) (tm 593) sN (((2 * i + 1 : Nat) : Int)) ((Int.tmod sN ((2 * i + 1 : Nat) : Int))), cK .eql 594 ((Int.tmod sN ((2 * i + 1 : Nat) : Int))) 0 true]) (by kernel_rfl) mix rfl FS9.stays ⟨(ok_rem_int (by omega) rfl (wmod_ hb1 hb2)), (ok_eql_int (beq_iff_eq.mpr hx1)), trivial⟩ h hw ?_
    clear h hw
    intro a w h hw
    show Code.wp _ (Code.cond (tm 595) (Code.region 90 R90.toArray false) Code.skip) _ _ _
    refine wp_cond_true (h.opd (by kernel_rfl)) ?_
    refine region_ (K := [(50, (vI sN)), (51, (vS A249 rg c249)), (69, (vI ((oddP sN (i + 1))))), (70, (vI (((2 * i + 1 : Nat) : Int))))]) (obs := [bO .add (tm 596) (Operand.const (Value.int IntKind.i64 1)) (oddP sN i) 1 ((oddP sN (i + 1)))]) (by kernel_rfl) mix rfl FS9.stays ⟨(ok_add_int (odd_t_ hlt hb2 hx1)), trivial⟩ h hw ?_
    clear h hw
    intro a w h hw
    show Code.wp _ (Code.region 88 R88.toArray false) _ _ _
    refine region_ (K := [(50, (vI sN)), (51, (vS A249 rg c249)), (69, (vI ((oddP sN (i + 1))))), (70, (vI (((2 * (i + 1) + 1 : Nat) : Int))))]) (obs := [bO .add (tm 590) (Operand.const (Value.int IntKind.i64 2)) (((2 * i + 1 : Nat) : Int)) 2 (((2 * (i + 1) + 1 : Nat) : Int))]) (by kernel_rfl) mix rfl FS9.stays ⟨(ok_add_int (wadd2_ hlt rfl hb2)), trivial⟩ h hw ?_
    clear h hw
    intro a w h hw
    refine ⟨((sN.toNat + 1) / 2) - (i + 1), by omega, i + 1, by omega, rfl, ?_, ?_⟩
    · exact h.cut (by kernel_rfl)
    · exact ⟨hw.1, hw.2.1, hw.2.2.1, hw.2.2.2⟩
  · refine region_ (F := FS9 rg c249 A249 w0) (K := [(50, (vI sN)), (51, (vS A249 rg c249)), (69, (vI (oddP sN i))), (70, (vI (((2 * i + 1 : Nat) : Int)))), (595, (vB false))]) (obs := [bO .rem (tm 592) (tm 593) sN (((2 * i + 1 : Nat) : Int)) ((Int.tmod sN ((2 * i + 1 : Nat) : Int))), cK .eql 594 ((Int.tmod sN ((2 * i + 1 : Nat) : Int))) 0 false]) (by kernel_rfl) mix rfl FS9.stays ⟨(ok_rem_int (by omega) rfl (wmod_ hb1 hb2)), (ok_eql_int (beq_eq_false_iff_ne.mpr hx1)), trivial⟩ h hw ?_
    clear h hw
    intro a w h hw
    show Code.wp _ (Code.cond (tm 595) (Code.region 90 R90.toArray false) Code.skip) _ _ _
    refine wp_cond_false (h.opd (by kernel_rfl)) ?_
    refine wp_skip ?_
    show Code.wp _ (Code.region 88 R88.toArray false) _ _ _
    refine region_ (K := [(50, (vI sN)), (51, (vS A249 rg c249)), (69, (vI (oddP sN i))), (70, (vI (((2 * (i + 1) + 1 : Nat) : Int))))]) (obs := [bO .add (tm 590) (Operand.const (Value.int IntKind.i64 2)) (((2 * i + 1 : Nat) : Int)) 2 (((2 * (i + 1) + 1 : Nat) : Int))]) (by kernel_rfl) mix rfl FS9.stays ⟨(ok_add_int (wadd2_ hlt rfl hb2)), trivial⟩ h hw ?_
    clear h hw
    intro a w h hw
    rw [odd_f_ hx1] at h
    refine ⟨((sN.toNat + 1) / 2) - (i + 1), by omega, i + 1, by omega, rfl, ?_, ?_⟩
    · exact h.cut (by kernel_rfl)
    · exact ⟨hw.1, hw.2.1, hw.2.2.1, hw.2.2.2⟩
theorem t71 (hb1 : 1 ≤ sN) (hb2 : sN ≤ 100000) (hlt : i < ((sN.toNat + 1) / 2)) {a : Act} {w : World} (h : Has 602 a [(50, (vI sN)), (51, (vS A249 rg c249)), (69, (vI (oddP sN i))), (70, (vI (((2 * i + 1 : Nat) : Int))))]) (hw : FS9 rg c249 A249 w0 w) : B71.wp Tryd.prog (Exit.then (fun a' w' => ∃ d', d' < ((sN.toNat + 1) / 2) - i ∧ (∃ i : Nat, i ≤ ((sN.toNat + 1) / 2) ∧ d' = ((sN.toNat + 1) / 2) - i ∧ Has 602 a' [(50, (vI sN)), (51, (vS A249 rg c249)), (69, (vI (oddP sN i))), (70, (vI (((2 * i + 1 : Nat) : Int))))] ∧ FS9 rg c249 A249 w0 w')) (Exit.inBlock 8 (Exit.then (fun a w => Code.wp Tryd.prog B75 (Exit.then (fun a w => Code.wp Tryd.prog B81 (Ql w0) a w) (Ql w0)) a w) (Exit.then (fun a w => Code.wp Tryd.prog B81 (Ql w0) a w) (Ql w0))))) a w := by
  refine wp_seq ?_
  refine wp_block ?_
  exact t70 hb1 hb2 hlt h hw
theorem t72 (hb1 : 1 ≤ sN) (hb2 : sN ≤ 100000) (hlt : i < ((sN.toNat + 1) / 2)) {a : Act} {w : World} (h : Has 602 a [(50, (vI sN)), (51, (vS A249 rg c249)), (69, (vI (oddP sN i))), (70, (vI (((2 * i + 1 : Nat) : Int))))]) (hw : FS9 rg c249 A249 w0 w) : B72.wp Tryd.prog (Exit.then (fun a' w' => ∃ d', d' < ((sN.toNat + 1) / 2) - i ∧ (∃ i : Nat, i ≤ ((sN.toNat + 1) / 2) ∧ d' = ((sN.toNat + 1) / 2) - i ∧ Has 602 a' [(50, (vI sN)), (51, (vS A249 rg c249)), (69, (vI (oddP sN i))), (70, (vI (((2 * i + 1 : Nat) : Int))))] ∧ FS9 rg c249 A249 w0 w')) (Exit.inBlock 8 (Exit.then (fun a w => Code.wp Tryd.prog B75 (Exit.then (fun a w => Code.wp Tryd.prog B81 (Ql w0) a w) (Ql w0)) a w) (Exit.then (fun a w => Code.wp Tryd.prog B81 (Ql w0) a w) (Ql w0))))) a w := by
  refine wp_seq ?_
  refine wp_seq ?_
  refine region_ (K := [(50, (vI sN)), (51, (vS A249 rg c249)), (69, (vI (oddP sN i))), (70, (vI (((2 * i + 1 : Nat) : Int)))), (589, (vB true))]) (obs := [cI .leq 587 588 (((2 * i + 1 : Nat) : Int)) sN true]) (by kernel_rfl) mix rfl FS9.stays ⟨(ok_leq_int (decide_eq_true (by omega))), trivial⟩ h hw ?_
  clear h hw
  intro a w h hw
  show Code.wp _ (Code.cond (tm 589) Code.skip (Code.exit 8)) _ _ _
  refine wp_cond_true (h.opd (by kernel_rfl)) ?_
  refine wp_skip ?_
  exact t71 hb1 hb2 hlt (h.cut (by kernel_rfl)) hw
theorem t75 (H : Facts kk l0 l1 mo dg cn ok al cq nn hs one sts thr pl dgs la sev lf md nin a1 b1 sm elv sN rg true sx sy rx ry uq us ov) {a : Act} {w : World} (h : Has 602 a [(51, (vS A249 rg c249)), (69, (vI ((oddP sN ((sN.toNat + 1) / 2)))))]) (hw : FS9 rg c249 A249 w0 w) : B75.wp Tryd.prog (Exit.then (fun a w => Code.wp Tryd.prog B81 (Ql w0) a w) (Ql w0)) a w := by
  refine wp_seq ?_
  refine region_ (K := [(601, (vB false))]) (obs := [lN 33 598 A249 rg c249, cI .neq 599 600 (rg.length : Int) ((oddP sN ((sN.toNat + 1) / 2))) false]) (by kernel_rfl) mix rfl FS9.stays ⟨(ok_len Tryd.underlying33), (ok_neq_int (bne_eq_false_iff_eq.mpr (H.hrl rfl).2.2.2)), trivial⟩ h hw ?_
  clear h hw
  intro a w h hw
  show Code.wp _ (Code.cond (tm 601) B74 Code.skip) _ _ _
  refine wp_cond_false (h.opd (by kernel_rfl)) ?_
  refine wp_skip ?_
  exact t81 (h.cut (by kernel_rfl)) hw.2.2
theorem t76 (H : Facts kk l0 l1 mo dg cn ok al cq nn hs one sts thr pl dgs la sev lf md nin a1 b1 sm elv sN rg true sx sy rx ry uq us ov) {a : Act} {w : World} (h : Has 602 a [(50, (vI sN)), (51, (vS A249 rg c249)), (69, (vI 0))]) (hw : FS9 rg c249 A249 w0 w) : B76.wp Tryd.prog (Exit.then (fun a w => Code.wp Tryd.prog B81 (Ql w0) a w) (Ql w0)) a w := by
  refine wp_seq ?_
  refine wp_seq ?_
  refine region_ (K := [(50, (vI sN)), (51, (vS A249 rg c249)), (69, (vI 0)), (70, (vI 1))]) (obs := []) (by kernel_rfl) mix rfl FS9.stays trivial h hw ?_
  clear h hw
  intro a w h hw
  show Code.wp _ (Code.block 8 (Code.loop B72)) _ _ _
  have hb1 : 1 ≤ sN := (H.hrl rfl).2.1
  have hb2 : sN ≤ 100000 := (H.hrl rfl).2.2.1
  refine wp_block ?_
  replace h : Has 602 a [(50, (vI sN)), (51, (vS A249 rg c249)), (69, (vI (oddP sN 0))), (70, (vI (((2 * 0 + 1 : Nat) : Int))))] := h.cut (by kernel_rfl)
  replace hw : FS9 rg c249 A249 w0 w := ⟨hw.1, hw.2.1, hw.2.2.1, hw.2.2.2⟩
  refine loop_nat (fun d a w => ∃ i : Nat, i ≤ ((sN.toNat + 1) / 2) ∧ d = ((sN.toNat + 1) / 2) - i ∧ Has 602 a [(50, (vI sN)), (51, (vS A249 rg c249)), (69, (vI (oddP sN i))), (70, (vI (((2 * i + 1 : Nat) : Int))))] ∧ FS9 rg c249 A249 w0 w) ?_ ((sN.toNat + 1) / 2) a w ⟨0, Nat.zero_le _, rfl, h, hw⟩
  clear h hw a w
  rintro d a w ⟨i, hi_, rfl, h, hw⟩
  by_cases hlt : i < ((sN.toNat + 1) / 2)
  · exact t72 hb1 hb2 hlt h hw
  · show Code.wp _ (Code.seq B69 B71) _ _ _
    refine wp_seq ?_
    refine wp_seq ?_
    refine region_ (K := [(51, (vS A249 rg c249)), (69, (vI (oddP sN i))), (589, (vB false))]) (obs := [cI .leq 587 588 (((2 * i + 1 : Nat) : Int)) sN false]) (by kernel_rfl) mix rfl FS9.stays ⟨(ok_leq_int (decide_eq_false (by omega))), trivial⟩ h hw ?_
    clear h hw
    intro a w h hw
    show Code.wp _ (Code.cond (tm 589) Code.skip (Code.exit 8)) _ _ _
    refine wp_cond_false (h.opd (by kernel_rfl)) ?_
    refine wp_exit ?_
    show Exit.inBlock 8 (Exit.then (fun a w => Code.wp Tryd.prog B75 (Exit.then (fun a w => Code.wp Tryd.prog B81 (Ql w0) a w) (Ql w0)) a w) (Exit.then (fun a w => Code.wp Tryd.prog B81 (Ql w0) a w) (Ql w0))) (.exit 8) a w
    refine inBlock_exit ?_
    obtain rfl : i = (sN.toNat + 1) / 2 := by omega
    exact t75 H (h.cut (by kernel_rfl)) hw
theorem t77 (H : Facts kk l0 l1 mo dg cn ok al cq nn hs one sts thr pl dgs la sev lf md nin a1 b1 sm elv sN rg true sx sy rx ry uq us ov) {a : Act} {w : World} (h : Has 602 a [(50, (vI sN)), (51, (vS A249 rg c249))]) (hw : FS9 rg c249 A249 w0 w) : B77.wp Tryd.prog (Exit.then (fun a w => Code.wp Tryd.prog B81 (Ql w0) a w) (Ql w0)) a w := by
  refine wp_seq ?_
  exact region_ (obs := []) (by kernel_rfl) mix rfl FS9.stays trivial h hw fun a w h hw => t76 H h hw
theorem t78 (H : Facts kk l0 l1 mo dg cn ok al cq nn hs one sts thr pl dgs la sev lf md nin a1 b1 sm elv sN rg true sx sy rx ry uq us ov) {a : Act} {w : World} (h : Has 602 a [(50, (vI sN)), (51, (vS A249 rg c249))]) (hw : FS9 rg c249 A249 w0 w) : B78.wp Tryd.prog (Exit.then (fun a w => Code.wp Tryd.prog B81 (Ql w0) a w) (Ql w0)) a w := by
  refine wp_seq ?_
  refine wp_seq ?_
  refine region_ (K := [(50, (vI sN)), (51, (vS A249 rg c249)), (523, (vS A249 rg c249)), (524, (vI (rg.length : Int))), (525, (vI 0))]) (obs := [lN 33 523 A249 rg c249]) (by kernel_rfl) mix rfl FS9.stays ⟨(ok_len Tryd.underlying33), trivial⟩ h hw ?_
  clear h hw
  intro a w h hw
  show Code.wp _ (Code.block 6 (Code.loop B67)) _ _ _
  refine wp_block ?_
  replace h : Has 602 a [(50, (vI sN)), (51, (vS A249 rg c249)), (523, (vS A249 rg c249)), (524, (vI (rg.length : Int))), (525, (vI (((0 : Nat) : Int))))] := h.cut (by kernel_rfl)
  replace hw : FS9 rg c249 A249 w0 w := ⟨hw.1, hw.2.1, hw.2.2.1, hw.2.2.2⟩
  refine loop_nat (fun d a w => ∃ i : Nat, i ≤ rg.length ∧ d = rg.length - i ∧ Has 602 a [(50, (vI sN)), (51, (vS A249 rg c249)), (523, (vS A249 rg c249)), (524, (vI (rg.length : Int))), (525, (vI (i : Int)))] ∧ FS9 rg c249 A249 w0 w) ?_ rg.length a w ⟨0, Nat.zero_le _, rfl, h, hw⟩
  clear h hw a w
  rintro d a w ⟨i, hi_, rfl, h, hw⟩
  by_cases hlt : i < rg.length
  · have hmax_ : rg.length ≤ 9223372036854775807 := Kd.C_max (hw.1)
    exact t67 H hlt hmax_ h hw
  · show Code.wp _ (Code.seq (Code.region 80 R80.toArray false) B66) _ _ _
    refine wp_seq ?_
    refine region_ (K := [(50, (vI sN)), (51, (vS A249 rg c249)), (526, (vB false))]) (obs := [.op (Op.binOp BinOp.lss 3 (tm 525) (tm 524) 3) 0 [((tm 525), (vI (i : Int))), ((tm 524), (vI (rg.length : Int)))] (vB false)]) (by kernel_rfl) mix rfl FS9.stays ⟨(ok_lss_int (decide_eq_false (by omega))), trivial⟩ h hw ?_
    clear h hw
    intro a w h hw
    refine wp_seq ?_
    refine wp_cond_false (h.opd (by kernel_rfl)) ?_
    refine wp_exit ?_
    show Exit.inBlock 6 (Exit.then (fun a w => Code.wp Tryd.prog B77 (Exit.then (fun a w => Code.wp Tryd.prog B81 (Ql w0) a w) (Ql w0)) a w) (Exit.then (fun a w => Code.wp Tryd.prog B81 (Ql w0) a w) (Ql w0))) (.exit 6) a w
    refine inBlock_exit ?_
    exact t77 H (h.cut (by kernel_rfl)) hw
theorem t79 (H : Facts kk l0 l1 mo dg cn ok al cq nn hs one sts thr pl dgs la sev lf md nin a1 b1 sm elv sN rg true sx sy rx ry uq us ov) {a : Act} {w : World} (h : Has 602 a [(50, (vI sN)), (51, (vS A249 rg c249))]) (hw : FS9 rg c249 A249 w0 w) : B79.wp Tryd.prog (Exit.then (fun a w => Code.wp Tryd.prog B81 (Ql w0) a w) (Ql w0)) a w := by
  refine wp_seq ?_
  refine wp_seq ?_
  obtain ⟨hn1, -⟩ := H.hrl rfl
  refine region_ (K := [(50, (vI sN)), (51, (vS A249 rg c249)), (522, (vB false))]) (obs := [lN 33 520 A249 rg c249, cK .lss 521 (rg.length : Int) 1 false]) (by kernel_rfl) mix rfl FS9.stays ⟨(ok_len Tryd.underlying33), (ok_lss_int (decide_eq_false (by omega))), trivial⟩ h hw ?_
  clear h hw
  intro a w h hw
  show Code.wp _ (Code.cond (tm 522) B60 Code.skip) _ _ _
  refine wp_cond_false (h.opd (by kernel_rfl)) ?_
  refine wp_skip ?_
  exact t78 H (h.cut (by kernel_rfl)) hw
theorem t82 (H : Facts kk l0 l1 mo dg cn ok al cq nn hs one sts thr pl dgs la sev lf md nin a1 b1 sm elv sN rg thi sx sy rx ry uq us ov) {a : Act} {w : World} (h : Has 602 a [(50, (vI sN)), (51, (vS A249 rg c249)), (52, (vB thi))]) (hw : FS9 rg c249 A249 w0 w) : B82.wp Tryd.prog (Ql w0) a w := by
  refine wp_seq ?_
  refine wp_seq ?_
  refine region_ (K := [(50, (vI sN)), (51, (vS A249 rg c249)), (519, (vB thi))]) (obs := []) (by kernel_rfl) mix rfl FS9.stays trivial h hw ?_
  clear h hw
  intro a w h hw
  show Code.wp _ (Code.cond (tm 519) B79 Code.skip) _ _ _
  cases thi with
  | true =>
    refine wp_cond_true (h.opd (by kernel_rfl)) ?_
    exact t79 H (h.cut (by kernel_rfl)) hw
  | false =>
    refine wp_cond_false (h.opd (by kernel_rfl)) ?_
    refine wp_skip ?_
    exact t81 (h.cut (by kernel_rfl)) hw.2.2
theorem t83 (H : Facts kk l0 l1 mo dg cn ok al cq nn hs one sts thr pl dgs la sev lf md nin a1 b1 sm elv sN rg thi sx sy rx ry uq us ov) {a : Act} {w : World} (h : Has 602 a [(44, (vI a1)), (45, (vI b1)), (46, (vI sm)), (47, (vB elv)), (50, (vI sN)), (51, (vS A249 rg c249)), (52, (vB thi))]) (hw : FS9 rg c249 A249 w0 w) : B83.wp Tryd.prog (Ql w0) a w := by
  refine wp_seq ?_
  refine wp_seq ?_
  cases elv with
  | true =>
    by_cases hx1 : wrap64 (b1 - a1) ≤ 1
    · by_cases hx2 : wrap64 (b1 - a1) = 2
      · refine region_ (F := FS9 rg c249 A249 w0) (K := [(50, (vI sN)), (51, (vS A249 rg c249)), (52, (vB thi)), (518, (vB false))]) (obs := [cK .lss 494 sm 0 false, bO .sub (tm 497) (tm 498) b1 a1 (wrap64 (b1 - a1)), cK .leq 499 (wrap64 (b1 - a1)) 1 true, cK .neq 502 sm 0 false, bO .sub (tm 507) (tm 508) b1 a1 (wrap64 (b1 - a1)), cK .eql 509 (wrap64 (b1 - a1)) 2 true, bO .add (tm 513) (Operand.const (Value.int IntKind.i64 1)) a1 1 (wrap64 (a1 + 1)), cI .neq 512 514 sm (wrap64 (a1 + 1)) false]) (by kernel_rfl) mix rfl FS9.stays ⟨(ok_lss_int (decide_eq_false (H.hs0 rfl))), (ok_sub_int rfl), (ok_leq_int (decide_eq_true hx1)), (ok_neq_int (bne_eq_false_iff_eq.mpr (H.hs1 rfl hx1))), (ok_sub_int rfl), (ok_eql_int (beq_iff_eq.mpr hx2)), (ok_add_int rfl), (ok_neq_int (bne_eq_false_iff_eq.mpr (H.hs2 rfl hx2))), trivial⟩ h hw ?_
        clear h hw
        intro a w h hw
        show Code.wp _ (Code.cond (tm 518) B58 Code.skip) _ _ _
        refine wp_cond_false (h.opd (by kernel_rfl)) ?_
        refine wp_skip ?_
        exact t82 H (h.cut (by kernel_rfl)) hw
      · refine region_ (F := FS9 rg c249 A249 w0) (K := [(50, (vI sN)), (51, (vS A249 rg c249)), (52, (vB thi)), (518, (vB false))]) (obs := [cK .lss 494 sm 0 false, bO .sub (tm 497) (tm 498) b1 a1 (wrap64 (b1 - a1)), cK .leq 499 (wrap64 (b1 - a1)) 1 true, cK .neq 502 sm 0 false, bO .sub (tm 507) (tm 508) b1 a1 (wrap64 (b1 - a1)), cK .eql 509 (wrap64 (b1 - a1)) 2 false]) (by kernel_rfl) mix rfl FS9.stays ⟨(ok_lss_int (decide_eq_false (H.hs0 rfl))), (ok_sub_int rfl), (ok_leq_int (decide_eq_true hx1)), (ok_neq_int (bne_eq_false_iff_eq.mpr (H.hs1 rfl hx1))), (ok_sub_int rfl), (ok_eql_int (beq_eq_false_iff_ne.mpr hx2)), trivial⟩ h hw ?_
        clear h hw
        intro a w h hw
        show Code.wp _ (Code.cond (tm 518) B58 Code.skip) _ _ _
        refine wp_cond_false (h.opd (by kernel_rfl)) ?_
        refine wp_skip ?_
        exact t82 H (h.cut (by kernel_rfl)) hw
    · by_cases hx2 : wrap64 (b1 - a1) = 2
      · refine region_ (F := FS9 rg c249 A249 w0) (K := [(50, (vI sN)), (51, (vS A249 rg c249)), (52, (vB thi)), (518, (vB false))]) (obs := [cK .lss 494 sm 0 false, bO .sub (tm 497) (tm 498) b1 a1 (wrap64 (b1 - a1)), cK .leq 499 (wrap64 (b1 - a1)) 1 false, bO .sub (tm 507) (tm 508) b1 a1 (wrap64 (b1 - a1)), cK .eql 509 (wrap64 (b1 - a1)) 2 true, bO .add (tm 513) (Operand.const (Value.int IntKind.i64 1)) a1 1 (wrap64 (a1 + 1)), cI .neq 512 514 sm (wrap64 (a1 + 1)) false]) (by kernel_rfl) mix rfl FS9.stays ⟨(ok_lss_int (decide_eq_false (H.hs0 rfl))), (ok_sub_int rfl), (ok_leq_int (decide_eq_false hx1)), (ok_sub_int rfl), (ok_eql_int (beq_iff_eq.mpr hx2)), (ok_add_int rfl), (ok_neq_int (bne_eq_false_iff_eq.mpr (H.hs2 rfl hx2))), trivial⟩ h hw ?_
        clear h hw
        intro a w h hw
        show Code.wp _ (Code.cond (tm 518) B58 Code.skip) _ _ _
        refine wp_cond_false (h.opd (by kernel_rfl)) ?_
        refine wp_skip ?_
        exact t82 H (h.cut (by kernel_rfl)) hw
      · refine region_ (F := FS9 rg c249 A249 w0) (K := [(50, (vI sN)), (51, (vS A249 rg c249)), (52, (vB thi)), (518, (vB false))]) (obs := [cK .lss 494 sm 0 false, bO .sub (tm 497) (tm 498) b1 a1 (wrap64 (b1 - a1)), cK .leq 499 (wrap64 (b1 - a1)) 1 false, bO .sub (tm 507) (tm 508) b1 a1 (wrap64 (b1 - a1)), cK .eql 509 (wrap64 (b1 - a1)) 2 false]) (by kernel_rfl) mix rfl FS9.stays ⟨(ok_lss_int (decide_eq_false (H.hs0 rfl))), (ok_sub_int rfl), (ok_leq_int (decide_eq_false hx1)), (ok_sub_int rfl), (ok_eql_int (beq_eq_false_iff_ne.mpr hx2)), trivial⟩ h hw ?_
        clear h hw
        intro a w h hw
        show Code.wp _ (Code.cond (tm 518) B58 Code.skip) _ _ _
        refine wp_cond_false (h.opd (by kernel_rfl)) ?_
        refine wp_skip ?_
        exact t82 H (h.cut (by kernel_rfl)) hw
  | false =>
    refine region_ (K := [(50, (vI sN)), (51, (vS A249 rg c249)), (52, (vB thi)), (518, (vB false))]) (obs := []) (by kernel_rfl) mix rfl FS9.stays trivial h hw ?_
    clear h hw
    intro a w h hw
    show Code.wp _ (Code.cond (tm 518) B58 Code.skip) _ _ _
    refine wp_cond_false (h.opd (by kernel_rfl)) ?_
    refine wp_skip ?_
    exact t82 H (h.cut (by kernel_rfl)) hw
theorem t50 (H : Facts kk l0 l1 mo dg cn ok al cq nn hs one sts thr pl dgs la sev lf md true a1 b1 sm elv sN rg thi sx sy rx ry uq us ov) (hx1 : md > 0) (hx2 : md ≤ 5000) (hlt : i < lf.length) (hmax_ : lf.length ≤ 9223372036854775807) {a : Act} {w : World} (h : Has 602 a [(40, (vI md)), (44, (vI a1)), (45, (vI b1)), (46, (vI sm)), (47, (vB elv)), (50, (vI sN)), (51, (vS A249 rg c249)), (52, (vB thi)), (64, (vI (lf.getD i 0))), (65, (vI (uq i))), (66, (vB true)), (471, (vS A217 lf c217)), (472, (vI (lf.length : Int))), (473, (vI (i : Int)))]) (hw : FS13 rg lf c249 c217 A249 A217 w0 w) : B50.wp Tryd.prog (Exit.inBlock 5 (Exit.then (fun a w => Code.wp Tryd.prog (Code.region 73 R73.toArray false) (Exit.then (fun a' w' => ∃ d', d' < lf.length - i ∧ (∃ i : Nat, i ≤ lf.length ∧ d' = lf.length - i ∧ Has 602 a' [(40, (vI md)), (44, (vI a1)), (45, (vI b1)), (46, (vI sm)), (47, (vB elv)), (50, (vI sN)), (51, (vS A249 rg c249)), (52, (vB thi)), (471, (vS A217 lf c217)), (472, (vI (lf.length : Int))), (473, (vI (i : Int)))] ∧ FS13 rg lf c249 c217 A249 A217 w0 w')) (Exit.inBlock 4 (Exit.then (fun a w => Code.wp Tryd.prog B83 (Ql w0) a w) (Ql w0)))) a w) (Exit.then (fun a' w' => ∃ d', d' < lf.length - i ∧ (∃ i : Nat, i ≤ lf.length ∧ d' = lf.length - i ∧ Has 602 a' [(40, (vI md)), (44, (vI a1)), (45, (vI b1)), (46, (vI sm)), (47, (vB elv)), (50, (vI sN)), (51, (vS A249 rg c249)), (52, (vB thi)), (471, (vS A217 lf c217)), (472, (vI (lf.length : Int))), (473, (vI (i : Int)))] ∧ FS13 rg lf c249 c217 A249 A217 w0 w')) (Exit.inBlock 4 (Exit.then (fun a w => Code.wp Tryd.prog B83 (Ql w0) a w) (Ql w0)))))) a w := by
  refine wp_seq ?_
  refine region_ (K := [(40, (vI md)), (44, (vI a1)), (45, (vI b1)), (46, (vI sm)), (47, (vB elv)), (50, (vI sN)), (51, (vS A249 rg c249)), (52, (vB thi)), (471, (vS A217 lf c217)), (472, (vI (lf.length : Int))), (473, (vI (i : Int))), (490, (vB false))]) (obs := [cI .gtr 487 488 (uq i) (lf.getD i 0) false]) (by kernel_rfl) mix rfl FS13.stays ⟨(ok_gtr_int (decide_eq_false (H.huq rfl hx1 hx2 i hlt).2)), trivial⟩ h hw ?_
  clear h hw
  intro a w h hw
  show Code.wp _ (Code.cond (tm 490) B49 Code.skip) _ _ _
  refine wp_cond_false (h.opd (by kernel_rfl)) ?_
  refine wp_skip ?_
  show Code.wp _ (Code.region 73 R73.toArray false) _ _ _
  refine region_ (K := [(40, (vI md)), (44, (vI a1)), (45, (vI b1)), (46, (vI sm)), (47, (vB elv)), (50, (vI sN)), (51, (vS A249 rg c249)), (52, (vB thi)), (471, (vS A217 lf c217)), (472, (vI (lf.length : Int))), (473, (vI (((i + 1 : Nat) : Int))))]) (obs := [bO .add (tm 473) (Operand.const (Value.int IntKind.i64 1)) (i : Int) 1 (((i + 1 : Nat) : Int))]) (by kernel_rfl) mix rfl FS13.stays ⟨(ok_add_int (wadd_ (by omega))), trivial⟩ h hw ?_
  clear h hw
  intro a w h hw
  refine ⟨lf.length - (i + 1), by omega, i + 1, by omega, rfl, ?_, ?_⟩
  · exact h.cut (by kernel_rfl)
  · exact ⟨hw.1, hw.2.1, hw.2.2.1, hw.2.2.2.1, hw.2.2.2.2.1, hw.2.2.2.2.2⟩
theorem t51 (H : Facts kk l0 l1 mo dg cn ok al cq nn hs one sts thr pl dgs la sev lf md true a1 b1 sm elv sN rg thi sx sy rx ry uq us ov) (hx1 : md > 0) (hx2 : md ≤ 5000) (hlt : i < lf.length) (hmax_ : lf.length ≤ 9223372036854775807) {a : Act} {w : World} (h : Has 602 a [(40, (vI md)), (44, (vI a1)), (45, (vI b1)), (46, (vI sm)), (47, (vB elv)), (50, (vI sN)), (51, (vS A249 rg c249)), (52, (vB thi)), (63, (vI (i : Int))), (64, (vI (lf.getD i 0))), (471, (vS A217 lf c217)), (472, (vI (lf.length : Int))), (473, (vI (i : Int)))]) (hw : FS13 rg lf c249 c217 A249 A217 w0 w) : B51.wp Tryd.prog (Exit.inBlock 5 (Exit.then (fun a w => Code.wp Tryd.prog (Code.region 73 R73.toArray false) (Exit.then (fun a' w' => ∃ d', d' < lf.length - i ∧ (∃ i : Nat, i ≤ lf.length ∧ d' = lf.length - i ∧ Has 602 a' [(40, (vI md)), (44, (vI a1)), (45, (vI b1)), (46, (vI sm)), (47, (vB elv)), (50, (vI sN)), (51, (vS A249 rg c249)), (52, (vB thi)), (471, (vS A217 lf c217)), (472, (vI (lf.length : Int))), (473, (vI (i : Int)))] ∧ FS13 rg lf c249 c217 A249 A217 w0 w')) (Exit.inBlock 4 (Exit.then (fun a w => Code.wp Tryd.prog B83 (Ql w0) a w) (Ql w0)))) a w) (Exit.then (fun a' w' => ∃ d', d' < lf.length - i ∧ (∃ i : Nat, i ≤ lf.length ∧ d' = lf.length - i ∧ Has 602 a' [(40, (vI md)), (44, (vI a1)), (45, (vI b1)), (46, (vI sm)), (47, (vB elv)), (50, (vI sN)), (51, (vS A249 rg c249)), (52, (vB thi)), (471, (vS A217 lf c217)), (472, (vI (lf.length : Int))), (473, (vI (i : Int)))] ∧ FS13 rg lf c249 c217 A249 A217 w0 w')) (Exit.inBlock 4 (Exit.then (fun a w => Code.wp Tryd.prog B83 (Ql w0) a w) (Ql w0)))))) a w := by
  refine wp_seq ?_
  exact region_ (obs := [.call 6 [(vI md), (vI (i : Int))] (.tuple #[(vI (uq i)), (vB true)])]) (by kernel_rfl) mix rfl FS13.stays ⟨⟨⟨_, Tryd.func6, by kernel_rfl, by kernel_rfl⟩, fun w hw => FS13.stays.callsD hw (impl_CountDigit.calls _ _ _ _ _ _ (H.huq rfl hx1 hx2 i hlt).1)⟩, trivial⟩ h hw fun a w h hw => t50 H hx1 hx2 hlt hmax_ h hw
theorem t52 (H : Facts kk l0 l1 mo dg cn ok al cq nn hs one sts thr pl dgs la sev lf md true a1 b1 sm elv sN rg thi sx sy rx ry uq us ov) (hx1 : md > 0) (hx2 : md ≤ 5000) (hlt : i < lf.length) (hmax_ : lf.length ≤ 9223372036854775807) {a : Act} {w : World} (h : Has 602 a [(40, (vI md)), (44, (vI a1)), (45, (vI b1)), (46, (vI sm)), (47, (vB elv)), (50, (vI sN)), (51, (vS A249 rg c249)), (52, (vB thi)), (471, (vS A217 lf c217)), (472, (vI (lf.length : Int))), (473, (vI (i : Int)))]) (hw : FS13 rg lf c249 c217 A249 A217 w0 w) : B52.wp Tryd.prog (Exit.inBlock 5 (Exit.then (fun a w => Code.wp Tryd.prog (Code.region 73 R73.toArray false) (Exit.then (fun a' w' => ∃ d', d' < lf.length - i ∧ (∃ i : Nat, i ≤ lf.length ∧ d' = lf.length - i ∧ Has 602 a' [(40, (vI md)), (44, (vI a1)), (45, (vI b1)), (46, (vI sm)), (47, (vB elv)), (50, (vI sN)), (51, (vS A249 rg c249)), (52, (vB thi)), (471, (vS A217 lf c217)), (472, (vI (lf.length : Int))), (473, (vI (i : Int)))] ∧ FS13 rg lf c249 c217 A249 A217 w0 w')) (Exit.inBlock 4 (Exit.then (fun a w => Code.wp Tryd.prog B83 (Ql w0) a w) (Ql w0)))) a w) (Exit.then (fun a' w' => ∃ d', d' < lf.length - i ∧ (∃ i : Nat, i ≤ lf.length ∧ d' = lf.length - i ∧ Has 602 a' [(40, (vI md)), (44, (vI a1)), (45, (vI b1)), (46, (vI sm)), (47, (vB elv)), (50, (vI sN)), (51, (vS A249 rg c249)), (52, (vB thi)), (471, (vS A217 lf c217)), (472, (vI (lf.length : Int))), (473, (vI (i : Int)))] ∧ FS13 rg lf c249 c217 A249 A217 w0 w')) (Exit.inBlock 4 (Exit.then (fun a w => Code.wp Tryd.prog B83 (Ql w0) a w) (Ql w0)))))) a w := by
  refine wp_seq ?_
  obtain ⟨ad, hA⟩ := C_some (hw.2.2.1) hlt
  exact region_ (obs := [.op (Op.indexAddr 29 (tm 471) (tm 473)) 0 [((tm 471), (vS A217 lf c217)), ((tm 473), (vI (i : Int)))] (.pointer (some ((ad.add (i : Int).toNat)))), .op (Op.load 3 (tm 476)) 3 [((tm 476), (.pointer (some ((ad.add (i : Int).toNat)))))] (vI (lf.getD i 0))]) (by kernel_rfl) mix rfl FS13.stays ⟨(ok_idxe29 hA (by omega) (by omega)), (ok_load3p (fun w hw => C_cellD (hw.2.2.1) hA hlt)), trivial⟩ h hw fun a w h hw => t51 H hx1 hx2 hlt hmax_ h hw
theorem t53 (H : Facts kk l0 l1 mo dg cn ok al cq nn hs one sts thr pl dgs la sev lf md true a1 b1 sm elv sN rg thi sx sy rx ry uq us ov) (hx1 : md > 0) (hx2 : md ≤ 5000) (hlt : i < lf.length) (hmax_ : lf.length ≤ 9223372036854775807) {a : Act} {w : World} (h : Has 602 a [(40, (vI md)), (44, (vI a1)), (45, (vI b1)), (46, (vI sm)), (47, (vB elv)), (50, (vI sN)), (51, (vS A249 rg c249)), (52, (vB thi)), (471, (vS A217 lf c217)), (472, (vI (lf.length : Int))), (473, (vI (i : Int)))]) (hw : FS13 rg lf c249 c217 A249 A217 w0 w) : B53.wp Tryd.prog (Exit.then (fun a' w' => ∃ d', d' < lf.length - i ∧ (∃ i : Nat, i ≤ lf.length ∧ d' = lf.length - i ∧ Has 602 a' [(40, (vI md)), (44, (vI a1)), (45, (vI b1)), (46, (vI sm)), (47, (vB elv)), (50, (vI sN)), (51, (vS A249 rg c249)), (52, (vB thi)), (471, (vS A217 lf c217)), (472, (vI (lf.length : Int))), (473, (vI (i : Int)))] ∧ FS13 rg lf c249 c217 A249 A217 w0 w')) (Exit.inBlock 4 (Exit.then (fun a w => Code.wp Tryd.prog B83 (Ql w0) a w) (Ql w0)))) a w := by
  refine wp_seq ?_
  refine wp_block ?_
  exact t52 H hx1 hx2 hlt hmax_ h hw
theorem t54 (H : Facts kk l0 l1 mo dg cn ok al cq nn hs one sts thr pl dgs la sev lf md true a1 b1 sm elv sN rg thi sx sy rx ry uq us ov) (hx1 : md > 0) (hx2 : md ≤ 5000) (hlt : i < lf.length) (hmax_ : lf.length ≤ 9223372036854775807) {a : Act} {w : World} (h : Has 602 a [(40, (vI md)), (44, (vI a1)), (45, (vI b1)), (46, (vI sm)), (47, (vB elv)), (50, (vI sN)), (51, (vS A249 rg c249)), (52, (vB thi)), (471, (vS A217 lf c217)), (472, (vI (lf.length : Int))), (473, (vI (i : Int))), (474, (vB true))]) (hw : FS13 rg lf c249 c217 A249 A217 w0 w) : B54.wp Tryd.prog (Exit.then (fun a' w' => ∃ d', d' < lf.length - i ∧ (∃ i : Nat, i ≤ lf.length ∧ d' = lf.length - i ∧ Has 602 a' [(40, (vI md)), (44, (vI a1)), (45, (vI b1)), (46, (vI sm)), (47, (vB elv)), (50, (vI sN)), (51, (vS A249 rg c249)), (52, (vB thi)), (471, (vS A217 lf c217)), (472, (vI (lf.length : Int))), (473, (vI (i : Int)))] ∧ FS13 rg lf c249 c217 A249 A217 w0 w')) (Exit.inBlock 4 (Exit.then (fun a w => Code.wp Tryd.prog B83 (Ql w0) a w) (Ql w0)))) a w := by
  refine wp_seq ?_
  refine wp_cond_true (h.opd (by kernel_rfl)) ?_
  refine wp_skip ?_
  exact t53 H hx1 hx2 hlt hmax_ (h.cut (by kernel_rfl)) hw
theorem t55 (H : Facts kk l0 l1 mo dg cn ok al cq nn hs one sts thr pl dgs la sev lf md true a1 b1 sm elv sN rg thi sx sy rx ry uq us ov) (hx1 : md > 0) (hx2 : md ≤ 5000) (hlt : i < lf.length) (hmax_ : lf.length ≤ 9223372036854775807) {a : Act} {w : World} (h : Has 602 a [(40, (vI md)), (44, (vI a1)), (45, (vI b1)), (46, (vI sm)), (47, (vB elv)), (50, (vI sN)), (51, (vS A249 rg c249)), (52, (vB thi)), (471, (vS A217 lf c217)), (472, (vI (lf.length : Int))), (473, (vI (i : Int)))]) (hw : FS13 rg lf c249 c217 A249 A217 w0 w) : B55.wp Tryd.prog (Exit.then (fun a' w' => ∃ d', d' < lf.length - i ∧ (∃ i : Nat, i ≤ lf.length ∧ d' = lf.length - i ∧ Has 602 a' [(40, (vI md)), (44, (vI a1)), (45, (vI b1)), (46, (vI sm)), (47, (vB elv)), (50, (vI sN)), (51, (vS A249 rg c249)), (52, (vB thi)), (471, (vS A217 lf c217)), (472, (vI (lf.length : Int))), (473, (vI (i : Int)))] ∧ FS13 rg lf c249 c217 A249 A217 w0 w')) (Exit.inBlock 4 (Exit.then (fun a w => Code.wp Tryd.prog B83 (Ql w0) a w) (Ql w0)))) a w := by
  refine wp_seq ?_
  exact region_ (obs := [.op (Op.binOp BinOp.lss 3 (tm 473) (tm 472) 3) 0 [((tm 473), (vI (i : Int))), ((tm 472), (vI (lf.length : Int)))] (vB true)]) (by kernel_rfl) mix rfl FS13.stays ⟨(ok_lss_int (decide_eq_true (by omega))), trivial⟩ h hw fun a w h hw => t54 H hx1 hx2 hlt hmax_ h hw
theorem t56 (H : Facts kk l0 l1 mo dg cn ok al cq nn hs one sts thr pl dgs la sev lf md true a1 b1 sm elv sN rg thi sx sy rx ry uq us ov) (hx1 : md > 0) (hx2 : md ≤ 5000) {a : Act} {w : World} (h : Has 602 a [(39, (vS A217 lf c217)), (40, (vI md)), (44, (vI a1)), (45, (vI b1)), (46, (vI sm)), (47, (vB elv)), (50, (vI sN)), (51, (vS A249 rg c249)), (52, (vB thi))]) (hw : FS13 rg lf c249 c217 A249 A217 w0 w) : B56.wp Tryd.prog (Exit.then (fun a w => Code.wp Tryd.prog B83 (Ql w0) a w) (Ql w0)) a w := by
  refine wp_seq ?_
  refine region_ (K := [(40, (vI md)), (44, (vI a1)), (45, (vI b1)), (46, (vI sm)), (47, (vB elv)), (50, (vI sN)), (51, (vS A249 rg c249)), (52, (vB thi)), (471, (vS A217 lf c217)), (472, (vI (lf.length : Int))), (473, (vI 0))]) (obs := [lN 29 471 A217 lf c217]) (by kernel_rfl) mix rfl FS13.stays ⟨(ok_len Tryd.underlying29), trivial⟩ h hw ?_
  clear h hw
  intro a w h hw
  show Code.wp _ (Code.block 4 (Code.loop B55)) _ _ _
  refine wp_block ?_
  replace h : Has 602 a [(40, (vI md)), (44, (vI a1)), (45, (vI b1)), (46, (vI sm)), (47, (vB elv)), (50, (vI sN)), (51, (vS A249 rg c249)), (52, (vB thi)), (471, (vS A217 lf c217)), (472, (vI (lf.length : Int))), (473, (vI (((0 : Nat) : Int))))] := h.cut (by kernel_rfl)
  replace hw : FS13 rg lf c249 c217 A249 A217 w0 w := ⟨hw.1, hw.2.1, hw.2.2.1, hw.2.2.2.1, hw.2.2.2.2.1, hw.2.2.2.2.2⟩
  refine loop_nat (fun d a w => ∃ i : Nat, i ≤ lf.length ∧ d = lf.length - i ∧ Has 602 a [(40, (vI md)), (44, (vI a1)), (45, (vI b1)), (46, (vI sm)), (47, (vB elv)), (50, (vI sN)), (51, (vS A249 rg c249)), (52, (vB thi)), (471, (vS A217 lf c217)), (472, (vI (lf.length : Int))), (473, (vI (i : Int)))] ∧ FS13 rg lf c249 c217 A249 A217 w0 w) ?_ lf.length a w ⟨0, Nat.zero_le _, rfl, h, hw⟩
  clear h hw a w
  rintro d a w ⟨i, hi_, rfl, h, hw⟩
  by_cases hlt : i < lf.length
  · have hmax_ : lf.length ≤ 9223372036854775807 := Kd.C_max (hw.2.2.1)
    exact t55 H hx1 hx2 hlt hmax_ h hw
  · show Code.wp _ (Code.seq (Code.region 68 R68.toArray false) B54) _ _ _
    refine wp_seq ?_
    refine region_ (K := [(44, (vI a1)), (45, (vI b1)), (46, (vI sm)), (47, (vB elv)), (50, (vI sN)), (51, (vS A249 rg c249)), (52, (vB thi)), (474, (vB false))]) (obs := [.op (Op.binOp BinOp.lss 3 (tm 473) (tm 472) 3) 0 [((tm 473), (vI (i : Int))), ((tm 472), (vI (lf.length : Int)))] (vB false)]) (by kernel_rfl) mix rfl FS13.stays ⟨(ok_lss_int (decide_eq_false (by omega))), trivial⟩ h hw ?_
    clear h hw
    intro a w h hw
    refine wp_seq ?_
    refine wp_cond_false (h.opd (by kernel_rfl)) ?_
    refine wp_exit ?_
    show Exit.inBlock 4 (Exit.then (fun a w => Code.wp Tryd.prog B83 (Ql w0) a w) (Ql w0)) (.exit 4) a w
    refine inBlock_exit ?_
    exact t83 H (h.cut (by kernel_rfl)) (let ⟨p,q,_,_,r⟩ := hw; ⟨p,q,r⟩)
theorem t84 (H : Facts kk l0 l1 mo dg cn ok al cq nn hs one sts thr pl dgs la sev lf md nin a1 b1 sm elv sN rg thi sx sy rx ry uq us ov) {a : Act} {w : World} (h : Has 602 a [(39, (vS A217 lf c217)), (40, (vI md)), (41, (vB nin)), (44, (vI a1)), (45, (vI b1)), (46, (vI sm)), (47, (vB elv)), (50, (vI sN)), (51, (vS A249 rg c249)), (52, (vB thi))]) (hw : FS13 rg lf c249 c217 A249 A217 w0 w) : B84.wp Tryd.prog (Ql w0) a w := by
  refine wp_seq ?_
  refine wp_seq ?_
  cases nin with
  | true =>
    by_cases hx1 : md > 0
    · by_cases hx2 : md ≤ 5000
      · refine region_ (F := FS13 rg lf c249 c217 A249 A217 w0) (K := [(39, (vS A217 lf c217)), (40, (vI md)), (44, (vI a1)), (45, (vI b1)), (46, (vI sm)), (47, (vB elv)), (50, (vI sN)), (51, (vS A249 rg c249)), (52, (vB thi)), (470, (vB true))]) (obs := [cK .gtr 464 md 0 true, cK .leq 468 md 5000 true]) (by kernel_rfl) mix rfl FS13.stays ⟨(ok_gtr_int (decide_eq_true hx1)), (ok_leq_int (decide_eq_true hx2)), trivial⟩ h hw ?_
        clear h hw
        intro a w h hw
        show Code.wp _ (Code.cond (tm 470) B56 Code.skip) _ _ _
        refine wp_cond_true (h.opd (by kernel_rfl)) ?_
        exact t56 H hx1 hx2 (h.cut (by kernel_rfl)) hw
      · refine region_ (F := FS13 rg lf c249 c217 A249 A217 w0) (K := [(39, (vS A217 lf c217)), (40, (vI md)), (44, (vI a1)), (45, (vI b1)), (46, (vI sm)), (47, (vB elv)), (50, (vI sN)), (51, (vS A249 rg c249)), (52, (vB thi)), (470, (vB false))]) (obs := [cK .gtr 464 md 0 true, cK .leq 468 md 5000 false]) (by kernel_rfl) mix rfl FS13.stays ⟨(ok_gtr_int (decide_eq_true hx1)), (ok_leq_int (decide_eq_false hx2)), trivial⟩ h hw ?_
        clear h hw
        intro a w h hw
        show Code.wp _ (Code.cond (tm 470) B56 Code.skip) _ _ _
        refine wp_cond_false (h.opd (by kernel_rfl)) ?_
        refine wp_skip ?_
        exact t83 H (h.cut (by kernel_rfl)) (let ⟨p,q,_,_,r⟩ := hw; ⟨p,q,r⟩)
    · refine region_ (F := FS13 rg lf c249 c217 A249 A217 w0) (K := [(39, (vS A217 lf c217)), (40, (vI md)), (44, (vI a1)), (45, (vI b1)), (46, (vI sm)), (47, (vB elv)), (50, (vI sN)), (51, (vS A249 rg c249)), (52, (vB thi)), (470, (vB false))]) (obs := [cK .gtr 464 md 0 false]) (by kernel_rfl) mix rfl FS13.stays ⟨(ok_gtr_int (decide_eq_false hx1)), trivial⟩ h hw ?_
      clear h hw
      intro a w h hw
      show Code.wp _ (Code.cond (tm 470) B56 Code.skip) _ _ _
      refine wp_cond_false (h.opd (by kernel_rfl)) ?_
      refine wp_skip ?_
      exact t83 H (h.cut (by kernel_rfl)) (let ⟨p,q,_,_,r⟩ := hw; ⟨p,q,r⟩)
  | false =>
    refine region_ (K := [(39, (vS A217 lf c217)), (40, (vI md)), (44, (vI a1)), (45, (vI b1)), (46, (vI sm)), (47, (vB elv)), (50, (vI sN)), (51, (vS A249 rg c249)), (52, (vB thi)), (470, (vB false))]) (obs := []) (by kernel_rfl) mix rfl FS13.stays trivial h hw ?_
    clear h hw
    intro a w h hw
    show Code.wp _ (Code.cond (tm 470) B56 Code.skip) _ _ _
    refine wp_cond_false (h.opd (by kernel_rfl)) ?_
    refine wp_skip ?_
    exact t83 H (h.cut (by kernel_rfl)) (let ⟨p,q,_,_,r⟩ := hw; ⟨p,q,r⟩)
theorem t43 (H : Facts kk l0 l1 mo dg cn ok al cq nn hs one sts thr pl dgs la true lf md nin a1 b1 sm elv sN rg thi sx sy rx ry uq us ov) (hx1 : la > 0) (hx2 : la < 1000000) {a : Act} {w : World} (h : Has 602 a [(34, (vI dgs)), (39, (vS A217 lf c217)), (40, (vI md)), (41, (vB nin)), (44, (vI a1)), (45, (vI b1)), (46, (vI sm)), (47, (vB elv)), (50, (vI sN)), (51, (vS A249 rg c249)), (52, (vB thi)), (61, (vI ov)), (62, (vB true))]) (hw : FS13 rg lf c249 c217 A249 A217 w0 w) : B43.wp Tryd.prog (Exit.then (fun a w => Code.wp Tryd.prog B84 (Ql w0) a w) (Ql w0)) a w := by
  refine wp_seq ?_
  refine region_ (K := [(39, (vS A217 lf c217)), (40, (vI md)), (41, (vB nin)), (44, (vI a1)), (45, (vI b1)), (46, (vI sm)), (47, (vB elv)), (50, (vI sN)), (51, (vS A249 rg c249)), (52, (vB thi)), (461, (vB false))]) (obs := [cI .leq 458 459 ov dgs false]) (by kernel_rfl) mix rfl FS13.stays ⟨(ok_leq_int (decide_eq_false (H.hov rfl hx1 hx2))), trivial⟩ h hw ?_
  clear h hw
  intro a w h hw
  show Code.wp _ (Code.cond (tm 461) B42 Code.skip) _ _ _
  refine wp_cond_false (h.opd (by kernel_rfl)) ?_
  refine wp_skip ?_
  exact t84 H (h.cut (by kernel_rfl)) hw
theorem t44 (H : Facts kk l0 l1 mo dg cn ok al cq nn hs one sts thr pl dgs la true lf md nin a1 b1 sm elv sN rg thi sx sy rx ry uq us ov) (hx1 : la > 0) (hx2 : la < 1000000) {a : Act} {w : World} (h : Has 602 a [(34, (vI dgs)), (35, (vI la)), (39, (vS A217 lf c217)), (40, (vI md)), (41, (vB nin)), (44, (vI a1)), (45, (vI b1)), (46, (vI sm)), (47, (vB elv)), (50, (vI sN)), (51, (vS A249 rg c249)), (52, (vB thi))]) (hw : FS13 rg lf c249 c217 A249 A217 w0 w) : B44.wp Tryd.prog (Exit.then (fun a w => Code.wp Tryd.prog B84 (Ql w0) a w) (Ql w0)) a w := by
  refine wp_seq ?_
  exact region_ (obs := [bO .add (tm 450) (Operand.const (Value.int IntKind.i64 1)) la 1 (wrap64 (la + 1)), .call 8 [(vI (wrap64 (la + 1)))] (.tuple #[(vI ov), (vB true)])]) (by kernel_rfl) mix rfl FS13.stays ⟨(ok_add_int rfl), ⟨⟨_, Tryd.func8, by kernel_rfl, by kernel_rfl⟩, fun w hw => FS13.stays.callsD hw (impl_DigitsOnPlates.calls _ _ _ _ _ (H.f63_2 rfl hx1 hx2))⟩, trivial⟩ h hw fun a w h hw => t43 H hx1 hx2 h hw
theorem t45 (H : Facts kk l0 l1 mo dg cn ok al cq nn hs one sts thr pl dgs la true lf md nin a1 b1 sm elv sN rg thi sx sy rx ry uq us ov) (hx1 : la > 0) {a : Act} {w : World} (h : Has 602 a [(34, (vI dgs)), (35, (vI la)), (39, (vS A217 lf c217)), (40, (vI md)), (41, (vB nin)), (44, (vI a1)), (45, (vI b1)), (46, (vI sm)), (47, (vB elv)), (50, (vI sN)), (51, (vS A249 rg c249)), (52, (vB thi))]) (hw : FS13 rg lf c249 c217 A249 A217 w0 w) : B45.wp Tryd.prog (Exit.then (fun a w => Code.wp Tryd.prog B84 (Ql w0) a w) (Ql w0)) a w := by
  refine wp_seq ?_
  by_cases hx2 : la < 1000000
  · refine region_ (F := FS13 rg lf c249 c217 A249 A217 w0) (K := [(34, (vI dgs)), (35, (vI la)), (39, (vS A217 lf c217)), (40, (vI md)), (41, (vB nin)), (44, (vI a1)), (45, (vI b1)), (46, (vI sm)), (47, (vB elv)), (50, (vI sN)), (51, (vS A249 rg c249)), (52, (vB thi)), (448, (vB true))]) (obs := [cK .lss 447 la 1000000 true]) (by kernel_rfl) mix rfl FS13.stays ⟨(ok_lss_int (decide_eq_true hx2)), trivial⟩ h hw ?_
    clear h hw
    intro a w h hw
    show Code.wp _ (Code.cond (tm 448) B44 Code.skip) _ _ _
    refine wp_cond_true (h.opd (by kernel_rfl)) ?_
    exact t44 H hx1 hx2 (h.cut (by kernel_rfl)) hw
  · refine region_ (F := FS13 rg lf c249 c217 A249 A217 w0) (K := [(34, (vI dgs)), (35, (vI la)), (39, (vS A217 lf c217)), (40, (vI md)), (41, (vB nin)), (44, (vI a1)), (45, (vI b1)), (46, (vI sm)), (47, (vB elv)), (50, (vI sN)), (51, (vS A249 rg c249)), (52, (vB thi)), (448, (vB false))]) (obs := [cK .lss 447 la 1000000 false]) (by kernel_rfl) mix rfl FS13.stays ⟨(ok_lss_int (decide_eq_false hx2)), trivial⟩ h hw ?_
    clear h hw
    intro a w h hw
    show Code.wp _ (Code.cond (tm 448) B44 Code.skip) _ _ _
    refine wp_cond_false (h.opd (by kernel_rfl)) ?_
    refine wp_skip ?_
    exact t84 H (h.cut (by kernel_rfl)) hw
theorem t46 (H : Facts kk l0 l1 mo dg cn ok al cq nn hs one sts thr pl dgs la true lf md nin a1 b1 sm elv sN rg thi sx sy rx ry uq us ov) (hx1 : la > 0) {a : Act} {w : World} (h : Has 602 a [(34, (vI dgs)), (35, (vI la)), (39, (vS A217 lf c217)), (40, (vI md)), (41, (vB nin)), (44, (vI a1)), (45, (vI b1)), (46, (vI sm)), (47, (vB elv)), (50, (vI sN)), (51, (vS A249 rg c249)), (52, (vB thi)), (59, (vI us)), (60, (vB true))]) (hw : FS13 rg lf c249 c217 A249 A217 w0 w) : B46.wp Tryd.prog (Exit.then (fun a w => Code.wp Tryd.prog B84 (Ql w0) a w) (Ql w0)) a w := by
  refine wp_seq ?_
  refine wp_seq ?_
  refine region_ (K := [(34, (vI dgs)), (35, (vI la)), (39, (vS A217 lf c217)), (40, (vI md)), (41, (vB nin)), (44, (vI a1)), (45, (vI b1)), (46, (vI sm)), (47, (vB elv)), (50, (vI sN)), (51, (vS A249 rg c249)), (52, (vB thi)), (446, (vB false))]) (obs := [cI .gtr 443 444 us dgs false]) (by kernel_rfl) mix rfl FS13.stays ⟨(ok_gtr_int (decide_eq_false (H.hus rfl hx1))), trivial⟩ h hw ?_
  clear h hw
  intro a w h hw
  show Code.wp _ (Code.cond (tm 446) B40 Code.skip) _ _ _
  refine wp_cond_false (h.opd (by kernel_rfl)) ?_
  refine wp_skip ?_
  exact t45 H hx1 (h.cut (by kernel_rfl)) hw
theorem t47 (H : Facts kk l0 l1 mo dg cn ok al cq nn hs one sts thr pl dgs la true lf md nin a1 b1 sm elv sN rg thi sx sy rx ry uq us ov) (hx1 : la > 0) {a : Act} {w : World} (h : Has 602 a [(34, (vI dgs)), (35, (vI la)), (39, (vS A217 lf c217)), (40, (vI md)), (41, (vB nin)), (44, (vI a1)), (45, (vI b1)), (46, (vI sm)), (47, (vB elv)), (50, (vI sN)), (51, (vS A249 rg c249)), (52, (vB thi))]) (hw : FS13 rg lf c249 c217 A249 A217 w0 w) : B47.wp Tryd.prog (Exit.then (fun a w => Code.wp Tryd.prog B84 (Ql w0) a w) (Ql w0)) a w := by
  refine wp_seq ?_
  exact region_ (obs := [.call 8 [(vI la)] (.tuple #[(vI us), (vB true)])]) (by kernel_rfl) mix rfl FS13.stays ⟨⟨⟨_, Tryd.func8, by kernel_rfl, by kernel_rfl⟩, fun w hw => FS13.stays.callsD hw (impl_DigitsOnPlates.calls _ _ _ _ _ (H.f59_1 rfl hx1))⟩, trivial⟩ h hw fun a w h hw => t46 H hx1 h hw
theorem t85 (H : Facts kk l0 l1 mo dg cn ok al cq nn hs one sts thr pl dgs la sev lf md nin a1 b1 sm elv sN rg thi sx sy rx ry uq us ov) {a : Act} {w : World} (h : Has 602 a [(34, (vI dgs)), (35, (vI la)), (36, (vB sev)), (39, (vS A217 lf c217)), (40, (vI md)), (41, (vB nin)), (44, (vI a1)), (45, (vI b1)), (46, (vI sm)), (47, (vB elv)), (50, (vI sN)), (51, (vS A249 rg c249)), (52, (vB thi))]) (hw : FS13 rg lf c249 c217 A249 A217 w0 w) : B85.wp Tryd.prog (Ql w0) a w := by
  refine wp_seq ?_
  refine wp_seq ?_
  cases sev with
  | true =>
    by_cases hx1 : la > 0
    · refine region_ (F := FS13 rg lf c249 c217 A249 A217 w0) (K := [(34, (vI dgs)), (35, (vI la)), (39, (vS A217 lf c217)), (40, (vI md)), (41, (vB nin)), (44, (vI a1)), (45, (vI b1)), (46, (vI sm)), (47, (vB elv)), (50, (vI sN)), (51, (vS A249 rg c249)), (52, (vB thi)), (434, (vB true))]) (obs := [cK .gtr 432 la 0 true]) (by kernel_rfl) mix rfl FS13.stays ⟨(ok_gtr_int (decide_eq_true hx1)), trivial⟩ h hw ?_
      clear h hw
      intro a w h hw
      show Code.wp _ (Code.cond (tm 434) B47 Code.skip) _ _ _
      refine wp_cond_true (h.opd (by kernel_rfl)) ?_
      exact t47 H hx1 (h.cut (by kernel_rfl)) hw
    · refine region_ (F := FS13 rg lf c249 c217 A249 A217 w0) (K := [(34, (vI dgs)), (35, (vI la)), (39, (vS A217 lf c217)), (40, (vI md)), (41, (vB nin)), (44, (vI a1)), (45, (vI b1)), (46, (vI sm)), (47, (vB elv)), (50, (vI sN)), (51, (vS A249 rg c249)), (52, (vB thi)), (434, (vB false))]) (obs := [cK .gtr 432 la 0 false]) (by kernel_rfl) mix rfl FS13.stays ⟨(ok_gtr_int (decide_eq_false hx1)), trivial⟩ h hw ?_
      clear h hw
      intro a w h hw
      show Code.wp _ (Code.cond (tm 434) B47 Code.skip) _ _ _
      refine wp_cond_false (h.opd (by kernel_rfl)) ?_
      refine wp_skip ?_
      exact t84 H (h.cut (by kernel_rfl)) hw
  | false =>
    refine region_ (K := [(34, (vI dgs)), (35, (vI la)), (39, (vS A217 lf c217)), (40, (vI md)), (41, (vB nin)), (44, (vI a1)), (45, (vI b1)), (46, (vI sm)), (47, (vB elv)), (50, (vI sN)), (51, (vS A249 rg c249)), (52, (vB thi)), (434, (vB false))]) (obs := []) (by kernel_rfl) mix rfl FS13.stays trivial h hw ?_
    clear h hw
    intro a w h hw
    show Code.wp _ (Code.cond (tm 434) B47 Code.skip) _ _ _
    refine wp_cond_false (h.opd (by kernel_rfl)) ?_
    refine wp_skip ?_
    exact t84 H (h.cut (by kernel_rfl)) hw
theorem t28 (hlt : i < sts.length) (hmax_ : sts.length ≤ 9223372036854775807) {a : Act} {w : World} (h : Has 602 a [(21, (vI nn)), (23, (vB one)), (26, (vS A186 sts c186)), (34, (vI dgs)), (35, (vI la)), (36, (vB sev)), (39, (vS A217 lf c217)), (40, (vI md)), (41, (vB nin)), (44, (vI a1)), (45, (vI b1)), (46, (vI sm)), (47, (vB elv)), (50, (vI sN)), (51, (vS A249 rg c249)), (52, (vB thi)), (56, (.slice Ar ([sx i, sy i]).length cr)), (57, (vI (sy i))), (58, (vB true)), (357, (vS A186 sts c186)), (358, (vI (sts.length : Int))), (359, (vI (i : Int)))]) (hw : FS16 rg sts lf i cr c249 c217 c186 sx sy Ar A249 A217 A186 w0 w) : B28.wp Tryd.prog (Exit.inBlock 3 (Exit.then (fun a w => Code.wp Tryd.prog (Code.region 55 R55.toArray false) (Exit.then (fun a' w' => ∃ d', d' < sts.length - i ∧ (∃ i : Nat, i ≤ sts.length ∧ d' = sts.length - i ∧ Has 602 a' [(21, (vI nn)), (23, (vB one)), (26, (vS A186 sts c186)), (34, (vI dgs)), (35, (vI la)), (36, (vB sev)), (39, (vS A217 lf c217)), (40, (vI md)), (41, (vB nin)), (44, (vI a1)), (45, (vI b1)), (46, (vI sm)), (47, (vB elv)), (50, (vI sN)), (51, (vS A249 rg c249)), (52, (vB thi)), (357, (vS A186 sts c186)), (358, (vI (sts.length : Int))), (359, (vI (i : Int)))] ∧ FS14 rg sts lf c249 c217 c186 A249 A217 A186 w0 w')) (Exit.inBlock 2 (Exit.then (fun a w => Code.wp Tryd.prog B37 (Exit.then (fun a w => Code.wp Tryd.prog B85 (Ql w0) a w) (Ql w0)) a w) (Exit.then (fun a w => Code.wp Tryd.prog B85 (Ql w0) a w) (Ql w0))))) a w) (Exit.then (fun a' w' => ∃ d', d' < sts.length - i ∧ (∃ i : Nat, i ≤ sts.length ∧ d' = sts.length - i ∧ Has 602 a' [(21, (vI nn)), (23, (vB one)), (26, (vS A186 sts c186)), (34, (vI dgs)), (35, (vI la)), (36, (vB sev)), (39, (vS A217 lf c217)), (40, (vI md)), (41, (vB nin)), (44, (vI a1)), (45, (vI b1)), (46, (vI sm)), (47, (vB elv)), (50, (vI sN)), (51, (vS A249 rg c249)), (52, (vB thi)), (357, (vS A186 sts c186)), (358, (vI (sts.length : Int))), (359, (vI (i : Int)))] ∧ FS14 rg sts lf c249 c217 c186 A249 A217 A186 w0 w')) (Exit.inBlock 2 (Exit.then (fun a w => Code.wp Tryd.prog B37 (Exit.then (fun a w => Code.wp Tryd.prog B85 (Ql w0) a w) (Ql w0)) a w) (Exit.then (fun a w => Code.wp Tryd.prog B85 (Ql w0) a w) (Ql w0))))))) a w := by
  refine wp_seq ?_
  obtain ⟨a2, hA2⟩ := C_some (hw.1) (i := 0) (by simp)
  refine region_ (K := [(21, (vI nn)), (23, (vB one)), (26, (vS A186 sts c186)), (34, (vI dgs)), (35, (vI la)), (36, (vB sev)), (39, (vS A217 lf c217)), (40, (vI md)), (41, (vB nin)), (44, (vI a1)), (45, (vI b1)), (46, (vI sm)), (47, (vB elv)), (50, (vI sN)), (51, (vS A249 rg c249)), (52, (vB thi)), (357, (vS A186 sts c186)), (358, (vI (sts.length : Int))), (359, (vI (i : Int))), (406, (vB false))]) (obs := [.op (Op.indexAddr 29 (tm 402) (Operand.const (Value.int IntKind.i64 1))) 0 [((tm 402), (.slice Ar ([sx i, sy i]).length cr)), ((Operand.const (Value.int IntKind.i64 1)), (vI 1))] (.pointer (some ((a2.add (1 : Int).toNat)))), .op (Op.load 3 (tm 403)) 3 [((tm 403), (.pointer (some ((a2.add (1 : Int).toNat)))))] (vI (sy i)), cI .neq 401 404 (sy i) (sy i) false]) (by kernel_rfl) mix rfl FS16.stays ⟨(ok_idxe29 hA2 (by decide) (by simp)), (ok_load3p (fun w hw => (row_cells (hw.1) hA2).2)), (ok_neq_int (bne_self_eq_false _)), trivial⟩ h hw ?_
  clear h hw
  intro a w h hw
  show Code.wp _ (Code.cond (tm 406) B27 Code.skip) _ _ _
  refine wp_cond_false (h.opd (by kernel_rfl)) ?_
  refine wp_skip ?_
  show Code.wp _ (Code.region 55 R55.toArray false) _ _ _
  refine region_ (K := [(21, (vI nn)), (23, (vB one)), (26, (vS A186 sts c186)), (34, (vI dgs)), (35, (vI la)), (36, (vB sev)), (39, (vS A217 lf c217)), (40, (vI md)), (41, (vB nin)), (44, (vI a1)), (45, (vI b1)), (46, (vI sm)), (47, (vB elv)), (50, (vI sN)), (51, (vS A249 rg c249)), (52, (vB thi)), (357, (vS A186 sts c186)), (358, (vI (sts.length : Int))), (359, (vI (((i + 1 : Nat) : Int))))]) (obs := [bO .add (tm 359) (Operand.const (Value.int IntKind.i64 1)) (i : Int) 1 (((i + 1 : Nat) : Int))]) (by kernel_rfl) mix rfl FS16.stays ⟨(ok_add_int (wadd_ (by omega))), trivial⟩ h hw ?_
  clear h hw
  intro a w h hw
  refine ⟨sts.length - (i + 1), by omega, i + 1, by omega, rfl, ?_, ?_⟩
  · exact h.cut (by kernel_rfl)
  · exact ⟨hw.2.2.1, hw.2.2.2.1, hw.2.2.2.2.1, hw.2.2.2.2.2.1, hw.2.2.2.2.2.2.1, hw.2.2.2.2.2.2.2.1, hw.2.2.2.2.2.2.2.2.1, hw.2.2.2.2.2.2.2.2.2⟩
theorem t29 (H : Facts kk l0 l1 mo dg cn ok al cq nn hs one sts true pl dgs la sev lf md nin a1 b1 sm elv sN rg thi sx sy rx ry uq us ov) (hlt : i < sts.length) (hmax_ : sts.length ≤ 9223372036854775807) {a : Act} {w : World} (h : Has 602 a [(21, (vI nn)), (23, (vB one)), (26, (vS A186 sts c186)), (34, (vI dgs)), (35, (vI la)), (36, (vB sev)), (39, (vS A217 lf c217)), (40, (vI md)), (41, (vB nin)), (44, (vI a1)), (45, (vI b1)), (46, (vI sm)), (47, (vB elv)), (50, (vI sN)), (51, (vS A249 rg c249)), (52, (vB thi)), (56, (.slice Ar ([sx i, sy i]).length cr)), (357, (vS A186 sts c186)), (358, (vI (sts.length : Int))), (359, (vI (i : Int)))]) (hw : FS16 rg sts lf i cr c249 c217 c186 sx sy Ar A249 A217 A186 w0 w) : B29.wp Tryd.prog (Exit.inBlock 3 (Exit.then (fun a w => Code.wp Tryd.prog (Code.region 55 R55.toArray false) (Exit.then (fun a' w' => ∃ d', d' < sts.length - i ∧ (∃ i : Nat, i ≤ sts.length ∧ d' = sts.length - i ∧ Has 602 a' [(21, (vI nn)), (23, (vB one)), (26, (vS A186 sts c186)), (34, (vI dgs)), (35, (vI la)), (36, (vB sev)), (39, (vS A217 lf c217)), (40, (vI md)), (41, (vB nin)), (44, (vI a1)), (45, (vI b1)), (46, (vI sm)), (47, (vB elv)), (50, (vI sN)), (51, (vS A249 rg c249)), (52, (vB thi)), (357, (vS A186 sts c186)), (358, (vI (sts.length : Int))), (359, (vI (i : Int)))] ∧ FS14 rg sts lf c249 c217 c186 A249 A217 A186 w0 w')) (Exit.inBlock 2 (Exit.then (fun a w => Code.wp Tryd.prog B37 (Exit.then (fun a w => Code.wp Tryd.prog B85 (Ql w0) a w) (Ql w0)) a w) (Exit.then (fun a w => Code.wp Tryd.prog B85 (Ql w0) a w) (Ql w0))))) a w) (Exit.then (fun a' w' => ∃ d', d' < sts.length - i ∧ (∃ i : Nat, i ≤ sts.length ∧ d' = sts.length - i ∧ Has 602 a' [(21, (vI nn)), (23, (vB one)), (26, (vS A186 sts c186)), (34, (vI dgs)), (35, (vI la)), (36, (vB sev)), (39, (vS A217 lf c217)), (40, (vI md)), (41, (vB nin)), (44, (vI a1)), (45, (vI b1)), (46, (vI sm)), (47, (vB elv)), (50, (vI sN)), (51, (vS A249 rg c249)), (52, (vB thi)), (357, (vS A186 sts c186)), (358, (vI (sts.length : Int))), (359, (vI (i : Int)))] ∧ FS14 rg sts lf c249 c217 c186 A249 A217 A186 w0 w')) (Exit.inBlock 2 (Exit.then (fun a w => Code.wp Tryd.prog B37 (Exit.then (fun a w => Code.wp Tryd.prog B85 (Ql w0) a w) (Ql w0)) a w) (Exit.then (fun a w => Code.wp Tryd.prog B85 (Ql w0) a w) (Ql w0))))))) a w := by
  refine wp_seq ?_
  obtain ⟨hr1, hr2, hr3, hr4⟩ := H.hrow rfl i hlt
  obtain ⟨a2, hA2⟩ := C_some (hw.1) (i := 0) (by simp)
  exact region_ (K := [(21, (vI nn)), (23, (vB one)), (26, (vS A186 sts c186)), (34, (vI dgs)), (35, (vI la)), (36, (vB sev)), (39, (vS A217 lf c217)), (40, (vI md)), (41, (vB nin)), (44, (vI a1)), (45, (vI b1)), (46, (vI sm)), (47, (vB elv)), (50, (vI sN)), (51, (vS A249 rg c249)), (52, (vB thi)), (56, (.slice Ar ([sx i, sy i]).length cr)), (57, (vI (sy i))), (58, (vB true)), (357, (vS A186 sts c186)), (358, (vI (sts.length : Int))), (359, (vI (i : Int)))]) (obs := [.op (Op.indexAddr 29 (tm 392) (Operand.const (Value.int IntKind.i64 0))) 0 [((tm 392), (.slice Ar ([sx i, sy i]).length cr)), ((Operand.const (Value.int IntKind.i64 0)), (vI 0))] (.pointer (some ((a2.add (0 : Int).toNat)))), .op (Op.load 3 (tm 393)) 3 [((tm 393), (.pointer (some ((a2.add (0 : Int).toNat)))))] (vI (sx i)), .call 13 [(vI (sx i))] (.tuple #[(vI (sy i)), (vB true)])]) (by kernel_rfl) mix rfl FS16.stays ⟨(ok_idxe29 hA2 (by decide) (by simp)), (ok_load3p (fun w hw => (row_cells (hw.1) hA2).1)), ⟨⟨_, Tryd.func13, by kernel_rfl, by kernel_rfl⟩, fun w hw => FS16.stays.callsD hw (impl_BalancedHouse.calls _ _ _ _ hr4)⟩, trivial⟩ h hw fun a w h hw => t28 hlt hmax_ h hw
theorem t30 (H : Facts kk l0 l1 mo dg cn ok al cq nn hs one sts true pl dgs la sev lf md nin a1 b1 sm elv sN rg thi sx sy rx ry uq us ov) (hlt : i < sts.length) (hmax_ : sts.length ≤ 9223372036854775807) {a : Act} {w : World} (h : Has 602 a [(21, (vI nn)), (23, (vB one)), (26, (vS A186 sts c186)), (34, (vI dgs)), (35, (vI la)), (36, (vB sev)), (39, (vS A217 lf c217)), (40, (vI md)), (41, (vB nin)), (44, (vI a1)), (45, (vI b1)), (46, (vI sm)), (47, (vB elv)), (50, (vI sN)), (51, (vS A249 rg c249)), (52, (vB thi)), (55, (vI (i : Int))), (56, (.slice Ar ([sx i, sy i]).length cr)), (357, (vS A186 sts c186)), (358, (vI (sts.length : Int))), (359, (vI (i : Int)))]) (hw : FS16 rg sts lf i cr c249 c217 c186 sx sy Ar A249 A217 A186 w0 w) : B30.wp Tryd.prog (Exit.inBlock 3 (Exit.then (fun a w => Code.wp Tryd.prog (Code.region 55 R55.toArray false) (Exit.then (fun a' w' => ∃ d', d' < sts.length - i ∧ (∃ i : Nat, i ≤ sts.length ∧ d' = sts.length - i ∧ Has 602 a' [(21, (vI nn)), (23, (vB one)), (26, (vS A186 sts c186)), (34, (vI dgs)), (35, (vI la)), (36, (vB sev)), (39, (vS A217 lf c217)), (40, (vI md)), (41, (vB nin)), (44, (vI a1)), (45, (vI b1)), (46, (vI sm)), (47, (vB elv)), (50, (vI sN)), (51, (vS A249 rg c249)), (52, (vB thi)), (357, (vS A186 sts c186)), (358, (vI (sts.length : Int))), (359, (vI (i : Int)))] ∧ FS14 rg sts lf c249 c217 c186 A249 A217 A186 w0 w')) (Exit.inBlock 2 (Exit.then (fun a w => Code.wp Tryd.prog B37 (Exit.then (fun a w => Code.wp Tryd.prog B85 (Ql w0) a w) (Ql w0)) a w) (Exit.then (fun a w => Code.wp Tryd.prog B85 (Ql w0) a w) (Ql w0))))) a w) (Exit.then (fun a' w' => ∃ d', d' < sts.length - i ∧ (∃ i : Nat, i ≤ sts.length ∧ d' = sts.length - i ∧ Has 602 a' [(21, (vI nn)), (23, (vB one)), (26, (vS A186 sts c186)), (34, (vI dgs)), (35, (vI la)), (36, (vB sev)), (39, (vS A217 lf c217)), (40, (vI md)), (41, (vB nin)), (44, (vI a1)), (45, (vI b1)), (46, (vI sm)), (47, (vB elv)), (50, (vI sN)), (51, (vS A249 rg c249)), (52, (vB thi)), (357, (vS A186 sts c186)), (358, (vI (sts.length : Int))), (359, (vI (i : Int)))] ∧ FS14 rg sts lf c249 c217 c186 A249 A217 A186 w0 w')) (Exit.inBlock 2 (Exit.then (fun a w => Code.wp Tryd.prog B37 (Exit.then (fun a w => Code.wp Tryd.prog B85 (Ql w0) a w) (Ql w0)) a w) (Exit.then (fun a w => Code.wp Tryd.prog B85 (Ql w0) a w) (Ql w0))))))) a w := by
  refine wp_seq ?_
  refine wp_seq ?_
  obtain ⟨hr1, hr2, hr3, hr4⟩ := H.hrow rfl i hlt
  obtain ⟨a2, hA2⟩ := C_some (hw.1) (i := 0) (by simp)
  by_cases hx0 : i = 0
  · refine region_ (F := FS16 rg sts lf i cr c249 c217 c186 sx sy Ar A249 A217 A186 w0) (K := [(21, (vI nn)), (23, (vB one)), (26, (vS A186 sts c186)), (34, (vI dgs)), (35, (vI la)), (36, (vB sev)), (39, (vS A217 lf c217)), (40, (vI md)), (41, (vB nin)), (44, (vI a1)), (45, (vI b1)), (46, (vI sm)), (47, (vB elv)), (50, (vI sN)), (51, (vS A249 rg c249)), (52, (vB thi)), (56, (.slice Ar ([sx i, sy i]).length cr)), (357, (vS A186 sts c186)), (358, (vI (sts.length : Int))), (359, (vI (i : Int))), (390, (vB false))]) (obs := [lN 29 364 Ar ([sx i, sy i]) cr, cK .neq 365 ((([sx i, sy i]).length : Int)) 2 false, .op (Op.indexAddr 29 (tm 368) (Operand.const (Value.int IntKind.i64 0))) 0 [((tm 368), (.slice Ar ([sx i, sy i]).length cr)), ((Operand.const (Value.int IntKind.i64 0)), (vI 0))] (.pointer (some ((a2.add (0 : Int).toNat)))), .op (Op.load 3 (tm 369)) 3 [((tm 369), (.pointer (some ((a2.add (0 : Int).toNat)))))] (vI (sx i)), cI .gtr 370 371 (sx i) nn false, cK .gtr 375 (i : Int) 0 false]) (by kernel_rfl) mix lex50 FS16.stays ⟨(ok_len Tryd.underlying29), (ok_neq_int (by simp)), (ok_idxe29 hA2 (by decide) (by simp)), (ok_load3p (fun w hw => (row_cells (hw.1) hA2).1)), (ok_gtr_int (decide_eq_false hr2)), (ok_gtr_int (decide_eq_false (by omega))), trivial⟩ h hw ?_
    clear h hw
    intro a w h hw
    show Code.wp _ (Code.cond (tm 390) B25 Code.skip) _ _ _
    refine wp_cond_false (h.opd (by kernel_rfl)) ?_
    refine wp_skip ?_
    exact t29 H hlt hmax_ (h.cut (by kernel_rfl)) hw
  · obtain ⟨hq1, -⟩ := H.hrow rfl (i - 1) (by omega)
    obtain ⟨a3, Ap, cp, hA3, hy1, hy2, hy3⟩ := at_L2 (hw.2.2.2.2.2.2.1) ((i - 1 : Nat) : Int) (by omega) (by omega)
    rw [hq1] at hy1 hy2 hy3
    obtain ⟨a4, hA4⟩ := C_some hy3 (i := 0) (by simp)
    replace hw : FS17 a3 rg sts lf i cp cr c249 c217 c186 sx sy Ap Ar A249 A217 A186 w0 w := ⟨hy1, hy3, hy2, hw⟩
    clear hy1 hy2 hy3
    refine region_ (K := [(21, (vI nn)), (23, (vB one)), (26, (vS A186 sts c186)), (34, (vI dgs)), (35, (vI la)), (36, (vB sev)), (39, (vS A217 lf c217)), (40, (vI md)), (41, (vB nin)), (44, (vI a1)), (45, (vI b1)), (46, (vI sm)), (47, (vB elv)), (50, (vI sN)), (51, (vS A249 rg c249)), (52, (vB thi)), (56, (.slice Ar ([sx i, sy i]).length cr)), (357, (vS A186 sts c186)), (358, (vI (sts.length : Int))), (359, (vI (i : Int))), (390, (vB false))]) (obs := [lN 29 364 Ar ([sx i, sy i]) cr, cK .neq 365 ((([sx i, sy i]).length : Int)) 2 false, .op (Op.indexAddr 29 (tm 368) (Operand.const (Value.int IntKind.i64 0))) 0 [((tm 368), (.slice Ar ([sx i, sy i]).length cr)), ((Operand.const (Value.int IntKind.i64 0)), (vI 0))] (.pointer (some ((a2.add (0 : Int).toNat)))), .op (Op.load 3 (tm 369)) 3 [((tm 369), (.pointer (some ((a2.add (0 : Int).toNat)))))] (vI (sx i)), cI .gtr 370 371 (sx i) nn false, cK .gtr 375 (i : Int) 0 true, bO .sub (tm 379) (Operand.const (Value.int IntKind.i64 1)) (i : Int) 1 (((i - 1 : Nat) : Int)), .op (Op.indexAddr 33 (tm 378) (tm 380)) 0 [((tm 378), (vS A186 sts c186)), ((tm 380), (vI (((i - 1 : Nat) : Int))))] (.pointer (some ((a3.add ((i - 1 : Nat) : Int).toNat)))), .op (Op.load 29 (tm 381)) 29 [((tm 381), (.pointer (some ((a3.add ((i - 1 : Nat) : Int).toNat)))))] (.slice Ap ([sx (i - 1), sy (i - 1)]).length cp), .op (Op.indexAddr 29 (tm 382) (Operand.const (Value.int IntKind.i64 0))) 0 [((tm 382), (.slice Ap ([sx (i - 1), sy (i - 1)]).length cp)), ((Operand.const (Value.int IntKind.i64 0)), (vI 0))] (.pointer (some ((a4.add (0 : Int).toNat)))), .op (Op.load 3 (tm 383)) 3 [((tm 383), (.pointer (some ((a4.add (0 : Int).toNat)))))] (vI ((sx (i - 1)))), .op (Op.indexAddr 29 (tm 385) (Operand.const (Value.int IntKind.i64 0))) 0 [((tm 385), (.slice Ar ([sx i, sy i]).length cr)), ((Operand.const (Value.int IntKind.i64 0)), (vI 0))] (.pointer (some ((a2.add (0 : Int).toNat)))), .op (Op.load 3 (tm 386)) 3 [((tm 386), (.pointer (some ((a2.add (0 : Int).toNat)))))] (vI (sx i)), cI .geq 384 387 ((sx (i - 1))) (sx i) false]) (by kernel_rfl) mix lex50 FS17.stays ⟨(ok_len Tryd.underlying29), (ok_neq_int (by simp)), (ok_idxe29 hA2 (by decide) (by simp)), (ok_load3p (fun w hw => (row_cells (hw.2.2.2.1) hA2).1)), (ok_gtr_int (decide_eq_false hr2)), (ok_gtr_int (decide_eq_true (by omega))), (ok_sub_int (wsub_ (by omega) (by omega))), (ok_idxe33 hA3 (by omega) (by omega)), (ok_load29p (fun w hw => (hw.1))), (ok_idxe29 hA4 (by decide) (by simp)), (ok_load3p (fun w hw => (row_cells (hw.2.1) hA4).1)), (ok_idxe29 hA2 (by decide) (by simp)), (ok_load3p (fun w hw => (row_cells (hw.2.2.2.1) hA2).1)), (ok_geq_int (decide_eq_false (by have := hr3 (by omega); omega))), trivial⟩ h hw ?_
    clear h hw
    intro a w h hw
    show Code.wp _ (Code.cond (tm 390) B25 Code.skip) _ _ _
    refine wp_cond_false (h.opd (by kernel_rfl)) ?_
    refine wp_skip ?_
    exact t29 H hlt hmax_ (h.cut (by kernel_rfl)) hw.2.2.2
theorem t31 (H : Facts kk l0 l1 mo dg cn ok al cq nn hs one sts true pl dgs la sev lf md nin a1 b1 sm elv sN rg thi sx sy rx ry uq us ov) (hlt : i < sts.length) (hmax_ : sts.length ≤ 9223372036854775807) {a : Act} {w : World} (h : Has 602 a [(21, (vI nn)), (23, (vB one)), (26, (vS A186 sts c186)), (34, (vI dgs)), (35, (vI la)), (36, (vB sev)), (39, (vS A217 lf c217)), (40, (vI md)), (41, (vB nin)), (44, (vI a1)), (45, (vI b1)), (46, (vI sm)), (47, (vB elv)), (50, (vI sN)), (51, (vS A249 rg c249)), (52, (vB thi)), (357, (vS A186 sts c186)), (358, (vI (sts.length : Int))), (359, (vI (i : Int)))]) (hw : FS14 rg sts lf c249 c217 c186 A249 A217 A186 w0 w) : B31.wp Tryd.prog (Exit.inBlock 3 (Exit.then (fun a w => Code.wp Tryd.prog (Code.region 55 R55.toArray false) (Exit.then (fun a' w' => ∃ d', d' < sts.length - i ∧ (∃ i : Nat, i ≤ sts.length ∧ d' = sts.length - i ∧ Has 602 a' [(21, (vI nn)), (23, (vB one)), (26, (vS A186 sts c186)), (34, (vI dgs)), (35, (vI la)), (36, (vB sev)), (39, (vS A217 lf c217)), (40, (vI md)), (41, (vB nin)), (44, (vI a1)), (45, (vI b1)), (46, (vI sm)), (47, (vB elv)), (50, (vI sN)), (51, (vS A249 rg c249)), (52, (vB thi)), (357, (vS A186 sts c186)), (358, (vI (sts.length : Int))), (359, (vI (i : Int)))] ∧ FS14 rg sts lf c249 c217 c186 A249 A217 A186 w0 w')) (Exit.inBlock 2 (Exit.then (fun a w => Code.wp Tryd.prog B37 (Exit.then (fun a w => Code.wp Tryd.prog B85 (Ql w0) a w) (Ql w0)) a w) (Exit.then (fun a w => Code.wp Tryd.prog B85 (Ql w0) a w) (Ql w0))))) a w) (Exit.then (fun a' w' => ∃ d', d' < sts.length - i ∧ (∃ i : Nat, i ≤ sts.length ∧ d' = sts.length - i ∧ Has 602 a' [(21, (vI nn)), (23, (vB one)), (26, (vS A186 sts c186)), (34, (vI dgs)), (35, (vI la)), (36, (vB sev)), (39, (vS A217 lf c217)), (40, (vI md)), (41, (vB nin)), (44, (vI a1)), (45, (vI b1)), (46, (vI sm)), (47, (vB elv)), (50, (vI sN)), (51, (vS A249 rg c249)), (52, (vB thi)), (357, (vS A186 sts c186)), (358, (vI (sts.length : Int))), (359, (vI (i : Int)))] ∧ FS14 rg sts lf c249 c217 c186 A249 A217 A186 w0 w')) (Exit.inBlock 2 (Exit.then (fun a w => Code.wp Tryd.prog B37 (Exit.then (fun a w => Code.wp Tryd.prog B85 (Ql w0) a w) (Ql w0)) a w) (Exit.then (fun a w => Code.wp Tryd.prog B85 (Ql w0) a w) (Ql w0))))))) a w := by
  refine wp_seq ?_
  obtain ⟨hr1, -⟩ := H.hrow rfl i hlt
  obtain ⟨ad, Ar, cr, hA, hy1, hy2, hy3⟩ := at_L2 (hw.2.2.2.2.1) (i : Int) (by omega) (by omega)
  rw [hr1] at hy1 hy2 hy3
  replace hw : FS15 ad rg sts lf i cr c249 c217 c186 sx sy Ar A249 A217 A186 w0 w := ⟨hy1, hy3, hy2, hw⟩
  clear hy1 hy2 hy3
  exact region_ (obs := [.op (Op.indexAddr 33 (tm 357) (tm 359)) 0 [((tm 357), (vS A186 sts c186)), ((tm 359), (vI (i : Int)))] (.pointer (some ((ad.add (i : Int).toNat)))), .op (Op.load 29 (tm 362)) 29 [((tm 362), (.pointer (some ((ad.add (i : Int).toNat)))))] (.slice Ar ([sx i, sy i]).length cr)]) (by kernel_rfl) mix rfl FS15.stays ⟨(ok_idxe33 hA (by omega) (by omega)), (ok_load29p (fun w hw => (hw.1))), trivial⟩ h hw fun a w h hw => t30 H hlt hmax_ h hw.2
theorem t32 (H : Facts kk l0 l1 mo dg cn ok al cq nn hs one sts true pl dgs la sev lf md nin a1 b1 sm elv sN rg thi sx sy rx ry uq us ov) (hlt : i < sts.length) (hmax_ : sts.length ≤ 9223372036854775807) {a : Act} {w : World} (h : Has 602 a [(21, (vI nn)), (23, (vB one)), (26, (vS A186 sts c186)), (34, (vI dgs)), (35, (vI la)), (36, (vB sev)), (39, (vS A217 lf c217)), (40, (vI md)), (41, (vB nin)), (44, (vI a1)), (45, (vI b1)), (46, (vI sm)), (47, (vB elv)), (50, (vI sN)), (51, (vS A249 rg c249)), (52, (vB thi)), (357, (vS A186 sts c186)), (358, (vI (sts.length : Int))), (359, (vI (i : Int)))]) (hw : FS14 rg sts lf c249 c217 c186 A249 A217 A186 w0 w) : B32.wp Tryd.prog (Exit.then (fun a' w' => ∃ d', d' < sts.length - i ∧ (∃ i : Nat, i ≤ sts.length ∧ d' = sts.length - i ∧ Has 602 a' [(21, (vI nn)), (23, (vB one)), (26, (vS A186 sts c186)), (34, (vI dgs)), (35, (vI la)), (36, (vB sev)), (39, (vS A217 lf c217)), (40, (vI md)), (41, (vB nin)), (44, (vI a1)), (45, (vI b1)), (46, (vI sm)), (47, (vB elv)), (50, (vI sN)), (51, (vS A249 rg c249)), (52, (vB thi)), (357, (vS A186 sts c186)), (358, (vI (sts.length : Int))), (359, (vI (i : Int)))] ∧ FS14 rg sts lf c249 c217 c186 A249 A217 A186 w0 w')) (Exit.inBlock 2 (Exit.then (fun a w => Code.wp Tryd.prog B37 (Exit.then (fun a w => Code.wp Tryd.prog B85 (Ql w0) a w) (Ql w0)) a w) (Exit.then (fun a w => Code.wp Tryd.prog B85 (Ql w0) a w) (Ql w0))))) a w := by
  refine wp_seq ?_
  refine wp_block ?_
  exact t31 H hlt hmax_ h hw
theorem t33 (H : Facts kk l0 l1 mo dg cn ok al cq nn hs one sts true pl dgs la sev lf md nin a1 b1 sm elv sN rg thi sx sy rx ry uq us ov) (hlt : i < sts.length) (hmax_ : sts.length ≤ 9223372036854775807) {a : Act} {w : World} (h : Has 602 a [(21, (vI nn)), (23, (vB one)), (26, (vS A186 sts c186)), (34, (vI dgs)), (35, (vI la)), (36, (vB sev)), (39, (vS A217 lf c217)), (40, (vI md)), (41, (vB nin)), (44, (vI a1)), (45, (vI b1)), (46, (vI sm)), (47, (vB elv)), (50, (vI sN)), (51, (vS A249 rg c249)), (52, (vB thi)), (357, (vS A186 sts c186)), (358, (vI (sts.length : Int))), (359, (vI (i : Int))), (360, (vB true))]) (hw : FS14 rg sts lf c249 c217 c186 A249 A217 A186 w0 w) : B33.wp Tryd.prog (Exit.then (fun a' w' => ∃ d', d' < sts.length - i ∧ (∃ i : Nat, i ≤ sts.length ∧ d' = sts.length - i ∧ Has 602 a' [(21, (vI nn)), (23, (vB one)), (26, (vS A186 sts c186)), (34, (vI dgs)), (35, (vI la)), (36, (vB sev)), (39, (vS A217 lf c217)), (40, (vI md)), (41, (vB nin)), (44, (vI a1)), (45, (vI b1)), (46, (vI sm)), (47, (vB elv)), (50, (vI sN)), (51, (vS A249 rg c249)), (52, (vB thi)), (357, (vS A186 sts c186)), (358, (vI (sts.length : Int))), (359, (vI (i : Int)))] ∧ FS14 rg sts lf c249 c217 c186 A249 A217 A186 w0 w')) (Exit.inBlock 2 (Exit.then (fun a w => Code.wp Tryd.prog B37 (Exit.then (fun a w => Code.wp Tryd.prog B85 (Ql w0) a w) (Ql w0)) a w) (Exit.then (fun a w => Code.wp Tryd.prog B85 (Ql w0) a w) (Ql w0))))) a w := by
  refine wp_seq ?_
  refine wp_cond_true (h.opd (by kernel_rfl)) ?_
  refine wp_skip ?_
  exact t32 H hlt hmax_ (h.cut (by kernel_rfl)) hw
theorem t34 (H : Facts kk l0 l1 mo dg cn ok al cq nn hs one sts true pl dgs la sev lf md nin a1 b1 sm elv sN rg thi sx sy rx ry uq us ov) (hlt : i < sts.length) (hmax_ : sts.length ≤ 9223372036854775807) {a : Act} {w : World} (h : Has 602 a [(21, (vI nn)), (23, (vB one)), (26, (vS A186 sts c186)), (34, (vI dgs)), (35, (vI la)), (36, (vB sev)), (39, (vS A217 lf c217)), (40, (vI md)), (41, (vB nin)), (44, (vI a1)), (45, (vI b1)), (46, (vI sm)), (47, (vB elv)), (50, (vI sN)), (51, (vS A249 rg c249)), (52, (vB thi)), (357, (vS A186 sts c186)), (358, (vI (sts.length : Int))), (359, (vI (i : Int)))]) (hw : FS14 rg sts lf c249 c217 c186 A249 A217 A186 w0 w) : B34.wp Tryd.prog (Exit.then (fun a' w' => ∃ d', d' < sts.length - i ∧ (∃ i : Nat, i ≤ sts.length ∧ d' = sts.length - i ∧ Has 602 a' [(21, (vI nn)), (23, (vB one)), (26, (vS A186 sts c186)), (34, (vI dgs)), (35, (vI la)), (36, (vB sev)), (39, (vS A217 lf c217)), (40, (vI md)), (41, (vB nin)), (44, (vI a1)), (45, (vI b1)), (46, (vI sm)), (47, (vB elv)), (50, (vI sN)), (51, (vS A249 rg c249)), (52, (vB thi)), (357, (vS A186 sts c186)), (358, (vI (sts.length : Int))), (359, (vI (i : Int)))] ∧ FS14 rg sts lf c249 c217 c186 A249 A217 A186 w0 w')) (Exit.inBlock 2 (Exit.then (fun a w => Code.wp Tryd.prog B37 (Exit.then (fun a w => Code.wp Tryd.prog B85 (Ql w0) a w) (Ql w0)) a w) (Exit.then (fun a w => Code.wp Tryd.prog B85 (Ql w0) a w) (Ql w0))))) a w := by
  refine wp_seq ?_
  exact region_ (obs := [.op (Op.binOp BinOp.lss 3 (tm 359) (tm 358) 3) 0 [((tm 359), (vI (i : Int))), ((tm 358), (vI (sts.length : Int)))] (vB true)]) (by kernel_rfl) mix rfl FS14.stays ⟨(ok_lss_int (decide_eq_true (by omega))), trivial⟩ h hw fun a w h hw => t33 H hlt hmax_ h hw
theorem t37 (H : Facts kk l0 l1 mo dg cn ok al cq nn hs one sts true pl dgs la sev lf md nin a1 b1 sm elv sN rg thi sx sy rx ry uq us ov) {a : Act} {w : World} (h : Has 602 a [(21, (vI nn)), (23, (vB one)), (26, (vS A186 sts c186)), (34, (vI dgs)), (35, (vI la)), (36, (vB sev)), (39, (vS A217 lf c217)), (40, (vI md)), (41, (vB nin)), (44, (vI a1)), (45, (vI b1)), (46, (vI sm)), (47, (vB elv)), (50, (vI sN)), (51, (vS A249 rg c249)), (52, (vB thi))]) (hw : FS14 rg sts lf c249 c217 c186 A249 A217 A186 w0 w) : B37.wp Tryd.prog (Exit.then (fun a w => Code.wp Tryd.prog B85 (Ql w0) a w) (Ql w0)) a w := by
  refine wp_seq ?_
  obtain ⟨hn1, hn2, hn3⟩ := H.hst rfl
  obtain ⟨hq1, -⟩ := H.hrow rfl (sts.length - 1) (by omega)
  obtain ⟨a3, Ap, cp, hA3, hy1, hy2, hy3⟩ := at_L2 (hw.2.2.2.2.1) ((sts.length - 1 : Nat) : Int) (by omega) (by omega)
  rw [hq1] at hy1 hy2 hy3
  obtain ⟨a4, hA4⟩ := C_some hy3 (i := 0) (by simp)
  replace hw : FS18 a3 sts rg lf cp c249 c217 c186 sx sy Ap A249 A217 A186 w0 w := ⟨hy1, hy3, hy2, hw⟩
  clear hy1 hy2 hy3
  refine region_ (K := [(34, (vI dgs)), (35, (vI la)), (36, (vB sev)), (39, (vS A217 lf c217)), (40, (vI md)), (41, (vB nin)), (44, (vI a1)), (45, (vI b1)), (46, (vI sm)), (47, (vB elv)), (50, (vI sN)), (51, (vS A249 rg c249)), (52, (vB thi)), (429, (vB false))]) (obs := [lN 33 409 A186 sts c186, cK .gtr 410 (sts.length : Int) 0 true, lN 33 414 A186 sts c186, bO .sub (tm 415) (Operand.const (Value.int IntKind.i64 1)) (sts.length : Int) 1 (((sts.length - 1 : Nat) : Int)), .op (Op.indexAddr 33 (tm 413) (tm 416)) 0 [((tm 413), (vS A186 sts c186)), ((tm 416), (vI (((sts.length - 1 : Nat) : Int))))] (.pointer (some ((a3.add ((sts.length - 1 : Nat) : Int).toNat)))), .op (Op.load 29 (tm 417)) 29 [((tm 417), (.pointer (some ((a3.add ((sts.length - 1 : Nat) : Int).toNat)))))] (.slice Ap ([sx (sts.length - 1), sy (sts.length - 1)]).length cp), .op (Op.indexAddr 29 (tm 418) (Operand.const (Value.int IntKind.i64 0))) 0 [((tm 418), (.slice Ap ([sx (sts.length - 1), sy (sts.length - 1)]).length cp)), ((Operand.const (Value.int IntKind.i64 0)), (vI 0))] (.pointer (some ((a4.add (0 : Int).toNat)))), .op (Op.load 3 (tm 419)) 3 [((tm 419), (.pointer (some ((a4.add (0 : Int).toNat)))))] (vI ((sx (sts.length - 1)))), cI .eql 420 421 ((sx (sts.length - 1))) nn ((sx (sts.length - 1) == nn)), cB .neq 408 423 one ((sx (sts.length - 1) == nn)) false, lN 33 426 A186 sts c186, cK .lss 427 (sts.length : Int) 1 false]) (by kernel_rfl) mix rfl FS18.stays ⟨(ok_len Tryd.underlying33), (ok_gtr_int (decide_eq_true (by omega))), (ok_len Tryd.underlying33), (ok_sub_int (wsub_ hn1 (by omega))), (ok_idxe33 hA3 (by omega) (by omega)), (ok_load29p (fun w hw => (hw.1))), (ok_idxe29 hA4 (by decide) (by simp)), (ok_load3p (fun w hw => (row_cells (hw.2.1) hA4).1)), (ok_eql_int rfl), (ok_neq_bool Tryd.underlying4 (bne_eq_false_iff_eq.mpr hn3)), (ok_len Tryd.underlying33), (ok_lss_int (decide_eq_false (by omega))), trivial⟩ h hw ?_
  clear h hw
  intro a w h hw
  show Code.wp _ (Code.cond (tm 429) B36 Code.skip) _ _ _
  refine wp_cond_false (h.opd (by kernel_rfl)) ?_
  refine wp_skip ?_
  exact t85 H (h.cut (by kernel_rfl)) (let ⟨_,_,_,p,q,r,s,_,_,t⟩ := hw; ⟨p,q,r,s,t⟩)
theorem t38 (H : Facts kk l0 l1 mo dg cn ok al cq nn hs one sts true pl dgs la sev lf md nin a1 b1 sm elv sN rg thi sx sy rx ry uq us ov) {a : Act} {w : World} (h : Has 602 a [(21, (vI nn)), (23, (vB one)), (26, (vS A186 sts c186)), (34, (vI dgs)), (35, (vI la)), (36, (vB sev)), (39, (vS A217 lf c217)), (40, (vI md)), (41, (vB nin)), (44, (vI a1)), (45, (vI b1)), (46, (vI sm)), (47, (vB elv)), (50, (vI sN)), (51, (vS A249 rg c249)), (52, (vB thi))]) (hw : FS14 rg sts lf c249 c217 c186 A249 A217 A186 w0 w) : B38.wp Tryd.prog (Exit.then (fun a w => Code.wp Tryd.prog B85 (Ql w0) a w) (Ql w0)) a w := by
  refine wp_seq ?_
  refine wp_seq ?_
  refine region_ (K := [(21, (vI nn)), (23, (vB one)), (26, (vS A186 sts c186)), (34, (vI dgs)), (35, (vI la)), (36, (vB sev)), (39, (vS A217 lf c217)), (40, (vI md)), (41, (vB nin)), (44, (vI a1)), (45, (vI b1)), (46, (vI sm)), (47, (vB elv)), (50, (vI sN)), (51, (vS A249 rg c249)), (52, (vB thi)), (357, (vS A186 sts c186)), (358, (vI (sts.length : Int))), (359, (vI 0))]) (obs := [lN 33 357 A186 sts c186]) (by kernel_rfl) mix rfl FS14.stays ⟨(ok_len Tryd.underlying33), trivial⟩ h hw ?_
  clear h hw
  intro a w h hw
  show Code.wp _ (Code.block 2 (Code.loop B34)) _ _ _
  refine wp_block ?_
  replace h : Has 602 a [(21, (vI nn)), (23, (vB one)), (26, (vS A186 sts c186)), (34, (vI dgs)), (35, (vI la)), (36, (vB sev)), (39, (vS A217 lf c217)), (40, (vI md)), (41, (vB nin)), (44, (vI a1)), (45, (vI b1)), (46, (vI sm)), (47, (vB elv)), (50, (vI sN)), (51, (vS A249 rg c249)), (52, (vB thi)), (357, (vS A186 sts c186)), (358, (vI (sts.length : Int))), (359, (vI (((0 : Nat) : Int))))] := h.cut (by kernel_rfl)
  replace hw : FS14 rg sts lf c249 c217 c186 A249 A217 A186 w0 w := ⟨hw.1, hw.2.1, hw.2.2.1, hw.2.2.2.1, hw.2.2.2.2.1, hw.2.2.2.2.2.1, hw.2.2.2.2.2.2.1, hw.2.2.2.2.2.2.2⟩
  refine loop_nat (fun d a w => ∃ i : Nat, i ≤ sts.length ∧ d = sts.length - i ∧ Has 602 a [(21, (vI nn)), (23, (vB one)), (26, (vS A186 sts c186)), (34, (vI dgs)), (35, (vI la)), (36, (vB sev)), (39, (vS A217 lf c217)), (40, (vI md)), (41, (vB nin)), (44, (vI a1)), (45, (vI b1)), (46, (vI sm)), (47, (vB elv)), (50, (vI sN)), (51, (vS A249 rg c249)), (52, (vB thi)), (357, (vS A186 sts c186)), (358, (vI (sts.length : Int))), (359, (vI (i : Int)))] ∧ FS14 rg sts lf c249 c217 c186 A249 A217 A186 w0 w) ?_ sts.length a w ⟨0, Nat.zero_le _, rfl, h, hw⟩
  clear h hw a w
  rintro d a w ⟨i, hi_, rfl, h, hw⟩
  by_cases hlt : i < sts.length
  · have hmax_ : sts.length ≤ 9223372036854775807 := Kd.C_max (hw.2.2.2.2.1)
    exact t34 H hlt hmax_ h hw
  · show Code.wp _ (Code.seq (Code.region 48 R48.toArray false) B33) _ _ _
    refine wp_seq ?_
    refine region_ (K := [(21, (vI nn)), (23, (vB one)), (26, (vS A186 sts c186)), (34, (vI dgs)), (35, (vI la)), (36, (vB sev)), (39, (vS A217 lf c217)), (40, (vI md)), (41, (vB nin)), (44, (vI a1)), (45, (vI b1)), (46, (vI sm)), (47, (vB elv)), (50, (vI sN)), (51, (vS A249 rg c249)), (52, (vB thi)), (360, (vB false))]) (obs := [.op (Op.binOp BinOp.lss 3 (tm 359) (tm 358) 3) 0 [((tm 359), (vI (i : Int))), ((tm 358), (vI (sts.length : Int)))] (vB false)]) (by kernel_rfl) mix rfl FS14.stays ⟨(ok_lss_int (decide_eq_false (by omega))), trivial⟩ h hw ?_
    clear h hw
    intro a w h hw
    refine wp_seq ?_
    refine wp_cond_false (h.opd (by kernel_rfl)) ?_
    refine wp_exit ?_
    show Exit.inBlock 2 (Exit.then (fun a w => Code.wp Tryd.prog B37 (Exit.then (fun a w => Code.wp Tryd.prog B85 (Ql w0) a w) (Ql w0)) a w) (Exit.then (fun a w => Code.wp Tryd.prog B85 (Ql w0) a w) (Ql w0))) (.exit 2) a w
    refine inBlock_exit ?_
    exact t37 H (h.cut (by kernel_rfl)) hw
theorem t86 (H : Facts kk l0 l1 mo dg cn ok al cq nn hs one sts thr pl dgs la sev lf md nin a1 b1 sm elv sN rg thi sx sy rx ry uq us ov) {a : Act} {w : World} (h : Has 602 a [(21, (vI nn)), (23, (vB one)), (26, (vS A186 sts c186)), (27, (vB thr)), (34, (vI dgs)), (35, (vI la)), (36, (vB sev)), (39, (vS A217 lf c217)), (40, (vI md)), (41, (vB nin)), (44, (vI a1)), (45, (vI b1)), (46, (vI sm)), (47, (vB elv)), (50, (vI sN)), (51, (vS A249 rg c249)), (52, (vB thi))]) (hw : FS14 rg sts lf c249 c217 c186 A249 A217 A186 w0 w) : B86.wp Tryd.prog (Ql w0) a w := by
  refine wp_seq ?_
  refine wp_seq ?_
  refine region_ (K := [(21, (vI nn)), (23, (vB one)), (26, (vS A186 sts c186)), (34, (vI dgs)), (35, (vI la)), (36, (vB sev)), (39, (vS A217 lf c217)), (40, (vI md)), (41, (vB nin)), (44, (vI a1)), (45, (vI b1)), (46, (vI sm)), (47, (vB elv)), (50, (vI sN)), (51, (vS A249 rg c249)), (52, (vB thi)), (356, (vB thr))]) (obs := []) (by kernel_rfl) mix rfl FS14.stays trivial h hw ?_
  clear h hw
  intro a w h hw
  show Code.wp _ (Code.cond (tm 356) B38 Code.skip) _ _ _
  cases thr with
  | true =>
    refine wp_cond_true (h.opd (by kernel_rfl)) ?_
    exact t38 H (h.cut (by kernel_rfl)) hw
  | false =>
    refine wp_cond_false (h.opd (by kernel_rfl)) ?_
    refine wp_skip ?_
    exact t85 H (h.cut (by kernel_rfl)) (let ⟨p,q,r,s,_,_,t⟩ := hw; ⟨p,q,r,s,t⟩)
theorem t87 (H : Facts kk l0 l1 mo dg cn ok al cq nn hs one sts thr pl dgs la sev lf md nin a1 b1 sm elv sN rg thi sx sy rx ry uq us ov) {a : Act} {w : World} (h : Has 602 a [(21, (vI nn)), (22, (vI hs)), (23, (vB one)), (26, (vS A186 sts c186)), (27, (vB thr)), (34, (vI dgs)), (35, (vI la)), (36, (vB sev)), (39, (vS A217 lf c217)), (40, (vI md)), (41, (vB nin)), (44, (vI a1)), (45, (vI b1)), (46, (vI sm)), (47, (vB elv)), (50, (vI sN)), (51, (vS A249 rg c249)), (52, (vB thi))]) (hw : FS14 rg sts lf c249 c217 c186 A249 A217 A186 w0 w) : B87.wp Tryd.prog (Ql w0) a w := by
  refine wp_seq ?_
  refine wp_seq ?_
  cases one with
  | true =>
    refine region_ (K := [(21, (vI nn)), (23, (vB true)), (26, (vS A186 sts c186)), (27, (vB thr)), (34, (vI dgs)), (35, (vI la)), (36, (vB sev)), (39, (vS A217 lf c217)), (40, (vI md)), (41, (vB nin)), (44, (vI a1)), (45, (vI b1)), (46, (vI sm)), (47, (vB elv)), (50, (vI sN)), (51, (vS A249 rg c249)), (52, (vB thi)), (355, (vB false))]) (obs := [bO .sub (tm 341) (Operand.const (Value.int IntKind.i64 1)) hs 1 (wrap64 (hs - 1)), bO .mul (tm 342) (tm 343) (wrap64 (hs - 1)) hs (wrap64 ((wrap64 (hs - 1)) * hs)), bO .add (tm 346) (Operand.const (Value.int IntKind.i64 1)) nn 1 (wrap64 (nn + 1)), bO .mul (tm 345) (tm 347) nn (wrap64 (nn + 1)) (wrap64 (nn * (wrap64 (nn + 1)))), bO .add (tm 350) (Operand.const (Value.int IntKind.i64 1)) hs 1 (wrap64 (hs + 1)), bO .mul (tm 349) (tm 351) hs (wrap64 (hs + 1)) (wrap64 (hs * (wrap64 (hs + 1)))), bO .sub (tm 348) (tm 352) (wrap64 (nn * (wrap64 (nn + 1)))) (wrap64 (hs * (wrap64 (hs + 1)))) (wrap64 ((wrap64 (nn * (wrap64 (nn + 1)))) - (wrap64 (hs * (wrap64 (hs + 1)))))), cI .neq 344 353 (wrap64 ((wrap64 (hs - 1)) * hs)) (wrap64 ((wrap64 (nn * (wrap64 (nn + 1)))) - (wrap64 (hs * (wrap64 (hs + 1)))))) false]) (by kernel_rfl) mix rfl FS14.stays ⟨(ok_sub_int rfl), (ok_mul_int rfl), (ok_add_int rfl), (ok_mul_int rfl), (ok_add_int rfl), (ok_mul_int rfl), (ok_sub_int rfl), (ok_neq_int (bne_eq_false_iff_eq.mpr (H.hbal rfl))), trivial⟩ h hw ?_
    clear h hw
    intro a w h hw
    show Code.wp _ (Code.cond (tm 355) B23 Code.skip) _ _ _
    refine wp_cond_false (h.opd (by kernel_rfl)) ?_
    refine wp_skip ?_
    exact t86 H (h.cut (by kernel_rfl)) hw
  | false =>
    refine region_ (K := [(21, (vI nn)), (23, (vB false)), (26, (vS A186 sts c186)), (27, (vB thr)), (34, (vI dgs)), (35, (vI la)), (36, (vB sev)), (39, (vS A217 lf c217)), (40, (vI md)), (41, (vB nin)), (44, (vI a1)), (45, (vI b1)), (46, (vI sm)), (47, (vB elv)), (50, (vI sN)), (51, (vS A249 rg c249)), (52, (vB thi)), (355, (vB false))]) (obs := []) (by kernel_rfl) mix rfl FS14.stays trivial h hw ?_
    clear h hw
    intro a w h hw
    show Code.wp _ (Code.cond (tm 355) B23 Code.skip) _ _ _
    refine wp_cond_false (h.opd (by kernel_rfl)) ?_
    refine wp_skip ?_
    exact t86 H (h.cut (by kernel_rfl)) hw
theorem t88 (H : Facts kk l0 l1 mo dg cn ok al cq nn hs one sts thr pl dgs la sev lf md nin a1 b1 sm elv sN rg thi sx sy rx ry uq us ov) {a : Act} {w : World} (h : Has 602 a [(21, (vI nn)), (22, (vI hs)), (23, (vB one)), (24, (vI hs)), (25, (vB one)), (26, (vS A186 sts c186)), (27, (vB thr)), (28, (vS A191 sts c191)), (29, (vB thr)), (30, (vI pl)), (31, (vB thr)), (32, (vI pl)), (33, (vB thr)), (34, (vI dgs)), (35, (vI la)), (36, (vB sev)), (37, (vI la)), (38, (vB sev)), (39, (vS A217 lf c217)), (40, (vI md)), (41, (vB nin)), (42, (vI md)), (43, (vB nin)), (44, (vI a1)), (45, (vI b1)), (46, (vI sm)), (47, (vB elv)), (48, (vI sm)), (49, (vB elv)), (50, (vI sN)), (51, (vS A249 rg c249)), (52, (vB thi)), (53, (vS A254 rg c254)), (54, (vB thi))]) (hw : FS7 rg sts lf c254 c249 c217 c191 c186 A254 A249 A217 A191 A186 w0 w) : B88.wp Tryd.prog (Ql w0) a w := by
  refine wp_seq ?_
  refine wp_seq ?_
  cases one with
  | true =>
    obtain rfl : thr = true := H.hot rfl
    refine region_ (K := [(21, (vI nn)), (22, (vI hs)), (23, (vB true)), (26, (vS A186 sts c186)), (27, (vB true)), (34, (vI dgs)), (35, (vI la)), (36, (vB sev)), (39, (vS A217 lf c217)), (40, (vI md)), (41, (vB nin)), (44, (vI a1)), (45, (vI b1)), (46, (vI sm)), (47, (vB elv)), (50, (vI sN)), (51, (vS A249 rg c249)), (52, (vB thi)), (338, (vB false))]) (obs := [cB .neq 257 258 true true false, cI .neq 261 262 hs hs false, cB .neq 266 267 true true false, .call 28 [(vS A186 sts c186), (vS A191 sts c191)] (vB true), cB .neq 277 278 true true false, cI .neq 282 283 pl pl false, cB .neq 287 288 sev sev false, cI .neq 292 293 la la false, cB .neq 297 298 nin nin false, cI .neq 302 303 md md false, cB .neq 307 308 elv elv false, cI .neq 312 313 sm sm false, cB .neq 317 318 thi thi false, .call 28 [(vS A249 rg c249), (vS A254 rg c254)] (vB true), cB .neq 335 336 true true false]) (by kernel_rfl) mix rfl FS7.stays ⟨(ok_neq_bool Tryd.underlying4 (bne_self_eq_false _)), (ok_neq_int (bne_self_eq_false _)), (ok_neq_bool Tryd.underlying4 (bne_self_eq_false _)), ⟨⟨_, Tryd.func28, by kernel_rfl, by kernel_rfl⟩, fun w hw => FS7.stays.callsD hw (laws_zRows.calls _ _ _ _ _ _ _ _ _ (hw.2.2.2.2.2.2.2.2.1) (hw.2.2.2.2.2.2.2.2.2.1) (hw.2.2.2.2.2.2.1) (hw.2.2.2.2.2.2.2.1) (H.f42_16))⟩, (ok_neq_bool Tryd.underlying4 (bne_self_eq_false _)), (ok_neq_int (bne_self_eq_false _)), (ok_neq_bool Tryd.underlying4 (bne_self_eq_false _)), (ok_neq_int (bne_self_eq_false _)), (ok_neq_bool Tryd.underlying4 (bne_self_eq_false _)), (ok_neq_int (bne_self_eq_false _)), (ok_neq_bool Tryd.underlying4 (bne_self_eq_false _)), (ok_neq_int (bne_self_eq_false _)), (ok_neq_bool Tryd.underlying4 (bne_self_eq_false _)), ⟨⟨_, Tryd.func28, by kernel_rfl, by kernel_rfl⟩, fun w hw => FS7.stays.callsD hw (laws_zRows.calls _ _ _ _ _ _ _ _ _ (hw.2.2.1) (hw.2.2.2.1) (hw.1) (hw.2.1) (H.f42_67))⟩, (ok_neq_bool Tryd.underlying4 (bne_self_eq_false _)), trivial⟩ h hw ?_
    clear h hw
    intro a w h hw
    show Code.wp _ (Code.cond (tm 338) B21 Code.skip) _ _ _
    refine wp_cond_false (h.opd (by kernel_rfl)) ?_
    refine wp_skip ?_
    exact t87 H (h.cut (by kernel_rfl)) (let ⟨_,_,p,q,r,s,_,_,t⟩ := hw; ⟨p,q,r,s,t⟩)
  | false =>
    refine region_ (K := [(21, (vI nn)), (22, (vI hs)), (23, (vB false)), (26, (vS A186 sts c186)), (27, (vB thr)), (34, (vI dgs)), (35, (vI la)), (36, (vB sev)), (39, (vS A217 lf c217)), (40, (vI md)), (41, (vB nin)), (44, (vI a1)), (45, (vI b1)), (46, (vI sm)), (47, (vB elv)), (50, (vI sN)), (51, (vS A249 rg c249)), (52, (vB thi)), (338, (vB false))]) (obs := [cB .neq 257 258 false false false, cI .neq 261 262 hs hs false, cB .neq 266 267 thr thr false, .call 28 [(vS A186 sts c186), (vS A191 sts c191)] (vB true), cB .neq 277 278 thr thr false, cI .neq 282 283 pl pl false, cB .neq 287 288 sev sev false, cI .neq 292 293 la la false, cB .neq 297 298 nin nin false, cI .neq 302 303 md md false, cB .neq 307 308 elv elv false, cI .neq 312 313 sm sm false, cB .neq 317 318 thi thi false, .call 28 [(vS A249 rg c249), (vS A254 rg c254)] (vB true), cB .neq 335 336 thr thr false]) (by kernel_rfl) mix rfl FS7.stays ⟨(ok_neq_bool Tryd.underlying4 (bne_self_eq_false _)), (ok_neq_int (bne_self_eq_false _)), (ok_neq_bool Tryd.underlying4 (bne_self_eq_false _)), ⟨⟨_, Tryd.func28, by kernel_rfl, by kernel_rfl⟩, fun w hw => FS7.stays.callsD hw (laws_zRows.calls _ _ _ _ _ _ _ _ _ (hw.2.2.2.2.2.2.2.2.1) (hw.2.2.2.2.2.2.2.2.2.1) (hw.2.2.2.2.2.2.1) (hw.2.2.2.2.2.2.2.1) (H.f42_16))⟩, (ok_neq_bool Tryd.underlying4 (bne_self_eq_false _)), (ok_neq_int (bne_self_eq_false _)), (ok_neq_bool Tryd.underlying4 (bne_self_eq_false _)), (ok_neq_int (bne_self_eq_false _)), (ok_neq_bool Tryd.underlying4 (bne_self_eq_false _)), (ok_neq_int (bne_self_eq_false _)), (ok_neq_bool Tryd.underlying4 (bne_self_eq_false _)), (ok_neq_int (bne_self_eq_false _)), (ok_neq_bool Tryd.underlying4 (bne_self_eq_false _)), ⟨⟨_, Tryd.func28, by kernel_rfl, by kernel_rfl⟩, fun w hw => FS7.stays.callsD hw (laws_zRows.calls _ _ _ _ _ _ _ _ _ (hw.2.2.1) (hw.2.2.2.1) (hw.1) (hw.2.1) (H.f42_67))⟩, (ok_neq_bool Tryd.underlying4 (bne_self_eq_false _)), trivial⟩ h hw ?_
    clear h hw
    intro a w h hw
    show Code.wp _ (Code.cond (tm 338) B21 Code.skip) _ _ _
    refine wp_cond_false (h.opd (by kernel_rfl)) ?_
    refine wp_skip ?_
    exact t87 H (h.cut (by kernel_rfl)) (let ⟨_,_,p,q,r,s,_,_,t⟩ := hw; ⟨p,q,r,s,t⟩)
theorem t89 (H : Facts kk l0 l1 mo dg cn ok al cq nn hs one sts thr pl dgs la sev lf md nin a1 b1 sm elv sN rg thi sx sy rx ry uq us ov) {a : Act} {w : World} (h : Has 602 a [(21, (vI nn)), (22, (vI hs)), (23, (vB one)), (24, (vI hs)), (25, (vB one)), (26, (vS A186 sts c186)), (27, (vB thr)), (28, (vS A191 sts c191)), (29, (vB thr)), (30, (vI pl)), (31, (vB thr)), (32, (vI pl)), (33, (vB thr)), (34, (vI dgs)), (35, (vI la)), (36, (vB sev)), (37, (vI la)), (38, (vB sev)), (39, (vS A217 lf c217)), (40, (vI md)), (41, (vB nin)), (42, (vI md)), (43, (vB nin)), (44, (vI a1)), (45, (vI b1)), (46, (vI sm)), (47, (vB elv)), (48, (vI sm)), (49, (vB elv)), (50, (vI sN)), (51, (vS A249 rg c249)), (52, (vB thi))]) (hw : FS6 rg sts lf c249 c217 c191 c186 A249 A217 A191 A186 w0 w) : B89.wp Tryd.prog (Ql w0) a w := by
  refine wp_seq ?_
  refine region_list ?_
  refine quiet_ 0 1 1 (K := [(21, (vI nn)), (22, (vI hs)), (23, (vB one)), (24, (vI hs)), (25, (vB one)), (26, (vS A186 sts c186)), (27, (vB thr)), (28, (vS A191 sts c191)), (29, (vB thr)), (30, (vI pl)), (31, (vB thr)), (32, (vI pl)), (33, (vB thr)), (34, (vI dgs)), (35, (vI la)), (36, (vB sev)), (37, (vI la)), (38, (vB sev)), (39, (vS A217 lf c217)), (40, (vI md)), (41, (vB nin)), (42, (vI md)), (43, (vB nin)), (44, (vI a1)), (45, (vI b1)), (46, (vI sm)), (47, (vB elv)), (48, (vI sm)), (49, (vB elv)), (50, (vI sN)), (51, (vS A249 rg c249)), (52, (vB thi)), (253, (vI sN))]) (obs := []) (by kernel_rfl) rfl trivial h hw ?_
  clear h hw
  intro a w h hw
  refine made_ (σ := Option Addr × Nat) (F := FS6 rg sts lf c249 c217 c191 c186 A249 A217 A191 A186 w0) 1 2 (f := 27) (d := 254) (vs := [(vI sN)]) (by kernel_rfl) rfl h hw Tryd.func27 (by kernel_rfl) (by kernel_rfl) (fun s => (.tuple #[(.slice s.1 rg.length s.2), (vB thi)])) (fun s w => FS7 rg sts lf s.2 c249 c217 c191 c186 s.1 A249 A217 A191 A186 w0 w) ?_ ?_
  · intro w hw
    refine (spec_RangesWithSum.calls _ _ _ _ _ (H.f41_1)).mono ?_
    rintro e w' ⟨v0_, he, hR0, hb⟩
    obtain ⟨A0_, c0_, rfl, hc0_, hC0_⟩ := Kd.S_reads hR0
    have hw' := FS6.stays w w' hw hb
    exact ⟨(A0_, c0_), he, ⟨hC0_, hc0_, hw'⟩⟩
  clear h hw
  rintro ⟨A254, c254⟩ a w h hw
  exact quiet_ 2 5 7 (obs := []) (by kernel_rfl) rfl trivial h hw fun a w h hw => end_ (by kernel_rfl) (t88 H h hw)
theorem t90 (H : Facts kk l0 l1 mo dg cn ok al cq nn hs one sts thr pl dgs la sev lf md nin a1 b1 sm elv sN rg thi sx sy rx ry uq us ov) {a : Act} {w : World} (h : Has 602 a [(21, (vI nn)), (22, (vI hs)), (23, (vB one)), (24, (vI hs)), (25, (vB one)), (26, (vS A186 sts c186)), (27, (vB thr)), (28, (vS A191 sts c191)), (29, (vB thr)), (30, (vI pl)), (31, (vB thr)), (32, (vI pl)), (33, (vB thr)), (34, (vI dgs)), (35, (vI la)), (36, (vB sev)), (37, (vI la)), (38, (vB sev)), (39, (vS A217 lf c217)), (40, (vI md)), (41, (vB nin)), (42, (vI md)), (43, (vB nin)), (44, (vI a1)), (45, (vI b1)), (46, (vI sm)), (47, (vB elv)), (48, (vI sm)), (49, (vB elv)), (50, (vI sN))]) (hw : FS5 sts lf c217 c191 c186 A217 A191 A186 w0 w) : B90.wp Tryd.prog (Ql w0) a w := by
  refine wp_seq ?_
  refine region_list ?_
  refine quiet_ 0 1 1 (K := [(21, (vI nn)), (22, (vI hs)), (23, (vB one)), (24, (vI hs)), (25, (vB one)), (26, (vS A186 sts c186)), (27, (vB thr)), (28, (vS A191 sts c191)), (29, (vB thr)), (30, (vI pl)), (31, (vB thr)), (32, (vI pl)), (33, (vB thr)), (34, (vI dgs)), (35, (vI la)), (36, (vB sev)), (37, (vI la)), (38, (vB sev)), (39, (vS A217 lf c217)), (40, (vI md)), (41, (vB nin)), (42, (vI md)), (43, (vB nin)), (44, (vI a1)), (45, (vI b1)), (46, (vI sm)), (47, (vB elv)), (48, (vI sm)), (49, (vB elv)), (50, (vI sN)), (248, (vI sN))]) (obs := []) (by kernel_rfl) rfl trivial h hw ?_
  clear h hw
  intro a w h hw
  refine made_ (σ := Option Addr × Nat) (F := FS5 sts lf c217 c191 c186 A217 A191 A186 w0) 1 2 (f := 26) (d := 249) (vs := [(vI sN)]) (by kernel_rfl) rfl h hw Tryd.func26 (by kernel_rfl) (by kernel_rfl) (fun s => (.tuple #[(.slice s.1 rg.length s.2), (vB thi)])) (fun s w => FS6 rg sts lf s.2 c217 c191 c186 s.1 A217 A191 A186 w0 w) ?_ ?_
  · intro w hw
    refine (impl_RangesWithSum.calls _ _ _ _ _ (H.f40_1)).mono ?_
    rintro e w' ⟨v0_, he, hR0, hb⟩
    obtain ⟨A0_, c0_, rfl, hc0_, hC0_⟩ := Kd.S_reads hR0
    have hw' := FS5.stays w w' hw hb
    exact ⟨(A0_, c0_), he, ⟨hC0_, hc0_, hw'⟩⟩
  clear h hw
  rintro ⟨A249, c249⟩ a w h hw
  exact quiet_ 2 5 7 (obs := []) (by kernel_rfl) rfl trivial h hw fun a w h hw => end_ (by kernel_rfl) (t89 H h hw)
theorem t91 (H : Facts kk l0 l1 mo dg cn ok al cq nn hs one sts thr pl dgs la sev lf md nin a1 b1 sm elv sN rg thi sx sy rx ry uq us ov) {a : Act} {w : World} (h : Has 602 a [(1, (vS A1 l1 c1)), (21, (vI nn)), (22, (vI hs)), (23, (vB one)), (24, (vI hs)), (25, (vB one)), (26, (vS A186 sts c186)), (27, (vB thr)), (28, (vS A191 sts c191)), (29, (vB thr)), (30, (vI pl)), (31, (vB thr)), (32, (vI pl)), (33, (vB thr)), (34, (vI dgs)), (35, (vI la)), (36, (vB sev)), (37, (vI la)), (38, (vB sev)), (39, (vS A217 lf c217)), (40, (vI md)), (41, (vB nin)), (42, (vI md)), (43, (vB nin)), (44, (vI a1)), (45, (vI b1)), (46, (vI sm)), (47, (vB elv)), (48, (vI sm)), (49, (vB elv))]) (hw : FS4 sts lf l1 c217 c191 c186 c1 A217 A191 A186 A1 w0 w) : B91.wp Tryd.prog (Ql w0) a w := by
  refine wp_seq ?_
  exact region_ (obs := [.call 25 [(vS A1 l1 c1)] (vI sN)]) (by kernel_rfl) mix rfl FS4.stays ⟨⟨⟨_, Tryd.func25, by kernel_rfl, by kernel_rfl⟩, fun w hw => FS4.stays.calls hw (spec_DrawRangesWithSum.calls _ _ _ _ _ (hw.2.2.2.2.2.2.2.2.1) (hw.2.2.2.2.2.2.2.2.2) (H.f39_1))⟩, trivial⟩ h hw fun a w h hw => t90 H h (let ⟨p,q,r,s,t,u,v,x,_⟩ := hw; ⟨p,q,r,s,t,u,v,x⟩)
theorem t92 (H : Facts kk l0 l1 mo dg cn ok al cq nn hs one sts thr pl dgs la sev lf md nin a1 b1 sm elv sN rg thi sx sy rx ry uq us ov) {a : Act} {w : World} (h : Has 602 a [(1, (vS A1 l1 c1)), (21, (vI nn)), (22, (vI hs)), (23, (vB one)), (24, (vI hs)), (25, (vB one)), (26, (vS A186 sts c186)), (27, (vB thr)), (28, (vS A191 sts c191)), (29, (vB thr)), (30, (vI pl)), (31, (vB thr)), (32, (vI pl)), (33, (vB thr)), (34, (vI dgs)), (35, (vI la)), (36, (vB sev)), (37, (vI la)), (38, (vB sev)), (39, (vS A217 lf c217)), (40, (vI md)), (41, (vB nin)), (42, (vI md)), (43, (vB nin)), (44, (vI a1)), (45, (vI b1)), (46, (vI sm)), (47, (vB elv))]) (hw : FS4 sts lf l1 c217 c191 c186 c1 A217 A191 A186 A1 w0 w) : B92.wp Tryd.prog (Ql w0) a w := by
  refine wp_seq ?_
  exact region_ (obs := [.call 24 [(vI a1), (vI b1)] (.tuple #[(vI sm), (vB elv)])]) (by kernel_rfl) mix rfl FS4.stays ⟨⟨⟨_, Tryd.func24, by kernel_rfl, by kernel_rfl⟩, fun w hw => FS4.stays.callsD hw (spec_SumBetween.calls _ _ _ _ _ (H.f38_2))⟩, trivial⟩ h hw fun a w h hw => t91 H h hw
theorem t93 (H : Facts kk l0 l1 mo dg cn ok al cq nn hs one sts thr pl dgs la sev lf md nin a1 b1 sm elv sN rg thi sx sy rx ry uq us ov) {a : Act} {w : World} (h : Has 602 a [(1, (vS A1 l1 c1)), (21, (vI nn)), (22, (vI hs)), (23, (vB one)), (24, (vI hs)), (25, (vB one)), (26, (vS A186 sts c186)), (27, (vB thr)), (28, (vS A191 sts c191)), (29, (vB thr)), (30, (vI pl)), (31, (vB thr)), (32, (vI pl)), (33, (vB thr)), (34, (vI dgs)), (35, (vI la)), (36, (vB sev)), (37, (vI la)), (38, (vB sev)), (39, (vS A217 lf c217)), (40, (vI md)), (41, (vB nin)), (42, (vI md)), (43, (vB nin)), (44, (vI a1)), (45, (vI b1))]) (hw : FS4 sts lf l1 c217 c191 c186 c1 A217 A191 A186 A1 w0 w) : B93.wp Tryd.prog (Ql w0) a w := by
  refine wp_seq ?_
  exact region_ (obs := [.call 23 [(vI a1), (vI b1)] (.tuple #[(vI sm), (vB elv)])]) (by kernel_rfl) mix rfl FS4.stays ⟨⟨⟨_, Tryd.func23, by kernel_rfl, by kernel_rfl⟩, fun w hw => FS4.stays.callsD hw (impl_SumBetween.calls _ _ _ _ _ (H.f37_2))⟩, trivial⟩ h hw fun a w h hw => t92 H h hw
theorem t94 (H : Facts kk l0 l1 mo dg cn ok al cq nn hs one sts thr pl dgs la sev lf md nin a1 b1 sm elv sN rg thi sx sy rx ry uq us ov) {a : Act} {w : World} (h : Has 602 a [(1, (vS A1 l1 c1)), (21, (vI nn)), (22, (vI hs)), (23, (vB one)), (24, (vI hs)), (25, (vB one)), (26, (vS A186 sts c186)), (27, (vB thr)), (28, (vS A191 sts c191)), (29, (vB thr)), (30, (vI pl)), (31, (vB thr)), (32, (vI pl)), (33, (vB thr)), (34, (vI dgs)), (35, (vI la)), (36, (vB sev)), (37, (vI la)), (38, (vB sev)), (39, (vS A217 lf c217)), (40, (vI md)), (41, (vB nin)), (42, (vI md)), (43, (vB nin))]) (hw : FS4 sts lf l1 c217 c191 c186 c1 A217 A191 A186 A1 w0 w) : B94.wp Tryd.prog (Ql w0) a w := by
  refine wp_seq ?_
  exact region_ (obs := [.call 22 [(vS A1 l1 c1)] (.tuple #[(vI a1), (vI b1)])]) (by kernel_rfl) mix rfl FS4.stays ⟨⟨⟨_, Tryd.func22, by kernel_rfl, by kernel_rfl⟩, fun w hw => FS4.stays.calls hw (spec_DrawSumBetween.calls _ _ _ _ _ _ (hw.2.2.2.2.2.2.2.2.1) (hw.2.2.2.2.2.2.2.2.2) (H.f36_1))⟩, trivial⟩ h hw fun a w h hw => t93 H h hw
theorem t95 (H : Facts kk l0 l1 mo dg cn ok al cq nn hs one sts thr pl dgs la sev lf md nin a1 b1 sm elv sN rg thi sx sy rx ry uq us ov) {a : Act} {w : World} (h : Has 602 a [(1, (vS A1 l1 c1)), (21, (vI nn)), (22, (vI hs)), (23, (vB one)), (24, (vI hs)), (25, (vB one)), (26, (vS A186 sts c186)), (27, (vB thr)), (28, (vS A191 sts c191)), (29, (vB thr)), (30, (vI pl)), (31, (vB thr)), (32, (vI pl)), (33, (vB thr)), (34, (vI dgs)), (35, (vI la)), (36, (vB sev)), (37, (vI la)), (38, (vB sev)), (39, (vS A217 lf c217)), (40, (vI md)), (41, (vB nin))]) (hw : FS4 sts lf l1 c217 c191 c186 c1 A217 A191 A186 A1 w0 w) : B95.wp Tryd.prog (Ql w0) a w := by
  refine wp_seq ?_
  exact region_ (obs := [.call 21 [(vS A217 lf c217)] (.tuple #[(vI md), (vB nin)])]) (by kernel_rfl) mix rfl FS4.stays ⟨⟨⟨_, Tryd.func21, by kernel_rfl, by kernel_rfl⟩, fun w hw => FS4.stays.calls hw (spec_PlatesFrom.calls _ _ _ _ _ _ _ (hw.1) (hw.2.1) (H.f35_1))⟩, trivial⟩ h hw fun a w h hw => t94 H h hw
theorem t96 (H : Facts kk l0 l1 mo dg cn ok al cq nn hs one sts thr pl dgs la sev lf md nin a1 b1 sm elv sN rg thi sx sy rx ry uq us ov) {a : Act} {w : World} (h : Has 602 a [(1, (vS A1 l1 c1)), (21, (vI nn)), (22, (vI hs)), (23, (vB one)), (24, (vI hs)), (25, (vB one)), (26, (vS A186 sts c186)), (27, (vB thr)), (28, (vS A191 sts c191)), (29, (vB thr)), (30, (vI pl)), (31, (vB thr)), (32, (vI pl)), (33, (vB thr)), (34, (vI dgs)), (35, (vI la)), (36, (vB sev)), (37, (vI la)), (38, (vB sev)), (39, (vS A217 lf c217))]) (hw : FS4 sts lf l1 c217 c191 c186 c1 A217 A191 A186 A1 w0 w) : B96.wp Tryd.prog (Ql w0) a w := by
  refine wp_seq ?_
  exact region_ (obs := [.call 10 [(vS A217 lf c217)] (.tuple #[(vI md), (vB nin)])]) (by kernel_rfl) mix rfl FS4.stays ⟨⟨⟨_, Tryd.func10, by kernel_rfl, by kernel_rfl⟩, fun w hw => FS4.stays.calls hw (impl_PlatesFrom.calls _ _ _ _ _ _ _ (hw.1) (hw.2.1) (H.f34_1))⟩, trivial⟩ h hw fun a w h hw => t95 H h hw
theorem t97 (H : Facts kk l0 l1 mo dg cn ok al cq nn hs one sts thr pl dgs la sev lf md nin a1 b1 sm elv sN rg thi sx sy rx ry uq us ov) {a : Act} {w : World} (h : Has 602 a [(1, (vS A1 l1 c1)), (21, (vI nn)), (22, (vI hs)), (23, (vB one)), (24, (vI hs)), (25, (vB one)), (26, (vS A186 sts c186)), (27, (vB thr)), (28, (vS A191 sts c191)), (29, (vB thr)), (30, (vI pl)), (31, (vB thr)), (32, (vI pl)), (33, (vB thr)), (34, (vI dgs)), (35, (vI la)), (36, (vB sev)), (37, (vI la)), (38, (vB sev))]) (hw : FS3 sts l1 c191 c186 c1 A191 A186 A1 w0 w) : B97.wp Tryd.prog (Ql w0) a w := by
  refine wp_seq ?_
  refine region_list ?_
  refine quiet_ 0 1 1 (K := [(1, (vS A1 l1 c1)), (21, (vI nn)), (22, (vI hs)), (23, (vB one)), (24, (vI hs)), (25, (vB one)), (26, (vS A186 sts c186)), (27, (vB thr)), (28, (vS A191 sts c191)), (29, (vB thr)), (30, (vI pl)), (31, (vB thr)), (32, (vI pl)), (33, (vB thr)), (34, (vI dgs)), (35, (vI la)), (36, (vB sev)), (37, (vI la)), (38, (vB sev)), (216, (vS A1 l1 c1))]) (obs := []) (by kernel_rfl) rfl trivial h hw ?_
  clear h hw
  intro a w h hw
  refine made_ (σ := Option Addr × Nat) (F := FS3 sts l1 c191 c186 c1 A191 A186 A1 w0) 1 2 (f := 20) (d := 217) (vs := [(vS A1 l1 c1)]) (by kernel_rfl) rfl h hw Tryd.func20 (by kernel_rfl) (by kernel_rfl) (fun s => (.slice s.1 lf.length s.2)) (fun s w => FS4 sts lf l1 s.2 c191 c186 c1 s.1 A191 A186 A1 w0 w) ?_ ?_
  · intro w hw
    refine (spec_DrawPlatesFrom.calls _ _ _ _ _ _ (hw.2.2.2.2.2.2.1) (hw.2.2.2.2.2.2.2) (H.f33_1)).mono ?_
    rintro e w' ⟨v0_, he, hR0, hb⟩
    obtain ⟨A0_, c0_, rfl, hc0_, hC0_⟩ := Kd.V_reads hR0
    have hw' := FS3.stays w w' hw hb
    exact ⟨(A0_, c0_), he, ⟨hC0_, hc0_, hw'⟩⟩
  clear h hw
  rintro ⟨A217, c217⟩ a w h hw
  exact quiet_ 2 1 3 (obs := []) (by kernel_rfl) rfl trivial h hw fun a w h hw => end_ (by kernel_rfl) (t96 H h hw)
theorem t98 (H : Facts kk l0 l1 mo dg cn ok al cq nn hs one sts thr pl dgs la sev lf md nin a1 b1 sm elv sN rg thi sx sy rx ry uq us ov) {a : Act} {w : World} (h : Has 602 a [(1, (vS A1 l1 c1)), (21, (vI nn)), (22, (vI hs)), (23, (vB one)), (24, (vI hs)), (25, (vB one)), (26, (vS A186 sts c186)), (27, (vB thr)), (28, (vS A191 sts c191)), (29, (vB thr)), (30, (vI pl)), (31, (vB thr)), (32, (vI pl)), (33, (vB thr)), (34, (vI dgs)), (35, (vI la)), (36, (vB sev))]) (hw : FS3 sts l1 c191 c186 c1 A191 A186 A1 w0 w) : B98.wp Tryd.prog (Ql w0) a w := by
  refine wp_seq ?_
  exact region_ (obs := [.call 19 [(vI dgs)] (.tuple #[(vI la), (vB sev)])]) (by kernel_rfl) mix rfl FS3.stays ⟨⟨⟨_, Tryd.func19, by kernel_rfl, by kernel_rfl⟩, fun w hw => FS3.stays.calls hw (spec_LastWithDigits.calls _ _ _ _ _ (H.f32_1))⟩, trivial⟩ h hw fun a w h hw => t97 H h hw
theorem t99 (H : Facts kk l0 l1 mo dg cn ok al cq nn hs one sts thr pl dgs la sev lf md nin a1 b1 sm elv sN rg thi sx sy rx ry uq us ov) {a : Act} {w : World} (h : Has 602 a [(1, (vS A1 l1 c1)), (21, (vI nn)), (22, (vI hs)), (23, (vB one)), (24, (vI hs)), (25, (vB one)), (26, (vS A186 sts c186)), (27, (vB thr)), (28, (vS A191 sts c191)), (29, (vB thr)), (30, (vI pl)), (31, (vB thr)), (32, (vI pl)), (33, (vB thr)), (34, (vI dgs))]) (hw : FS3 sts l1 c191 c186 c1 A191 A186 A1 w0 w) : B99.wp Tryd.prog (Ql w0) a w := by
  refine wp_seq ?_
  exact region_ (obs := [.call 9 [(vI dgs)] (.tuple #[(vI la), (vB sev)])]) (by kernel_rfl) mix rfl FS3.stays ⟨⟨⟨_, Tryd.func9, by kernel_rfl, by kernel_rfl⟩, fun w hw => FS3.stays.calls hw (impl_LastWithDigits.calls _ _ _ _ _ (H.f31_1) (hw.2.2.2.2.2.1))⟩, trivial⟩ h hw fun a w h hw => t98 H h hw
theorem t100 (H : Facts kk l0 l1 mo dg cn ok al cq nn hs one sts thr pl dgs la sev lf md nin a1 b1 sm elv sN rg thi sx sy rx ry uq us ov) {a : Act} {w : World} (h : Has 602 a [(1, (vS A1 l1 c1)), (21, (vI nn)), (22, (vI hs)), (23, (vB one)), (24, (vI hs)), (25, (vB one)), (26, (vS A186 sts c186)), (27, (vB thr)), (28, (vS A191 sts c191)), (29, (vB thr)), (30, (vI pl)), (31, (vB thr)), (32, (vI pl)), (33, (vB thr))]) (hw : FS3 sts l1 c191 c186 c1 A191 A186 A1 w0 w) : B100.wp Tryd.prog (Ql w0) a w := by
  refine wp_seq ?_
  exact region_ (obs := [.call 18 [(vS A1 l1 c1)] (vI dgs)]) (by kernel_rfl) mix rfl FS3.stays ⟨⟨⟨_, Tryd.func18, by kernel_rfl, by kernel_rfl⟩, fun w hw => FS3.stays.calls hw (spec_DrawLastWithDigits.calls _ _ _ _ _ (hw.2.2.2.2.2.2.1) (hw.2.2.2.2.2.2.2) (H.f30_1))⟩, trivial⟩ h hw fun a w h hw => t99 H h hw
theorem t101 (H : Facts kk l0 l1 mo dg cn ok al cq nn hs one sts thr pl dgs la sev lf md nin a1 b1 sm elv sN rg thi sx sy rx ry uq us ov) {a : Act} {w : World} (h : Has 602 a [(1, (vS A1 l1 c1)), (21, (vI nn)), (22, (vI hs)), (23, (vB one)), (24, (vI hs)), (25, (vB one)), (26, (vS A186 sts c186)), (27, (vB thr)), (28, (vS A191 sts c191)), (29, (vB thr)), (30, (vI pl)), (31, (vB thr))]) (hw : FS3 sts l1 c191 c186 c1 A191 A186 A1 w0 w) : B101.wp Tryd.prog (Ql w0) a w := by
  refine wp_seq ?_
  exact region_ (obs := [.call 17 [(vI nn)] (.tuple #[(vI pl), (vB thr)])]) (by kernel_rfl) mix rfl FS3.stays ⟨⟨⟨_, Tryd.func17, by kernel_rfl, by kernel_rfl⟩, fun w hw => FS3.stays.calls hw (spec_DigitsOnPlates.calls _ _ _ _ _ (H.f29_1))⟩, trivial⟩ h hw fun a w h hw => t100 H h hw
theorem t102 (H : Facts kk l0 l1 mo dg cn ok al cq nn hs one sts thr pl dgs la sev lf md nin a1 b1 sm elv sN rg thi sx sy rx ry uq us ov) {a : Act} {w : World} (h : Has 602 a [(1, (vS A1 l1 c1)), (21, (vI nn)), (22, (vI hs)), (23, (vB one)), (24, (vI hs)), (25, (vB one)), (26, (vS A186 sts c186)), (27, (vB thr)), (28, (vS A191 sts c191)), (29, (vB thr))]) (hw : FS3 sts l1 c191 c186 c1 A191 A186 A1 w0 w) : B102.wp Tryd.prog (Ql w0) a w := by
  refine wp_seq ?_
  exact region_ (obs := [.call 8 [(vI nn)] (.tuple #[(vI pl), (vB thr)])]) (by kernel_rfl) mix rfl FS3.stays ⟨⟨⟨_, Tryd.func8, by kernel_rfl, by kernel_rfl⟩, fun w hw => FS3.stays.callsD hw (impl_DigitsOnPlates.calls _ _ _ _ _ (H.f28_1))⟩, trivial⟩ h hw fun a w h hw => t101 H h hw
theorem t103 (H : Facts kk l0 l1 mo dg cn ok al cq nn hs one sts thr pl dgs la sev lf md nin a1 b1 sm elv sN rg thi sx sy rx ry uq us ov) {a : Act} {w : World} (h : Has 602 a [(1, (vS A1 l1 c1)), (21, (vI nn)), (22, (vI hs)), (23, (vB one)), (24, (vI hs)), (25, (vB one)), (26, (vS A186 sts c186)), (27, (vB thr))]) (hw : FS2 sts l1 c186 c1 A186 A1 w0 w) : B103.wp Tryd.prog (Ql w0) a w := by
  refine wp_seq ?_
  refine region_list ?_
  refine quiet_ 0 1 1 (K := [(1, (vS A1 l1 c1)), (21, (vI nn)), (22, (vI hs)), (23, (vB one)), (24, (vI hs)), (25, (vB one)), (26, (vS A186 sts c186)), (27, (vB thr)), (190, (vI nn))]) (obs := []) (by kernel_rfl) rfl trivial h hw ?_
  clear h hw
  intro a w h hw
  refine made_ (σ := Option Addr × Nat) (F := FS2 sts l1 c186 c1 A186 A1 w0) 1 2 (f := 16) (d := 191) (vs := [(vI nn)]) (by kernel_rfl) rfl h hw Tryd.func16 (by kernel_rfl) (by kernel_rfl) (fun s => (.tuple #[(.slice s.1 sts.length s.2), (vB thr)])) (fun s w => FS3 sts l1 s.2 c186 c1 s.1 A186 A1 w0 w) ?_ ?_
  · intro w hw
    refine (spec_BalancedStreets.calls _ _ _ _ _ (H.f27_1)).mono ?_
    rintro e w' ⟨v0_, he, hR0, hb⟩
    obtain ⟨A0_, c0_, rfl, hc0_, hC0_⟩ := Kd.S_reads hR0
    have hw' := FS2.stays w w' hw hb
    exact ⟨(A0_, c0_), he, ⟨hC0_, hc0_, hw'⟩⟩
  clear h hw
  rintro ⟨A191, c191⟩ a w h hw
  exact quiet_ 2 5 7 (obs := []) (by kernel_rfl) rfl trivial h hw fun a w h hw => end_ (by kernel_rfl) (t102 H h hw)
theorem t104 (H : Facts kk l0 l1 mo dg cn ok al cq nn hs one sts thr pl dgs la sev lf md nin a1 b1 sm elv sN rg thi sx sy rx ry uq us ov) {a : Act} {w : World} (h : Has 602 a [(1, (vS A1 l1 c1)), (21, (vI nn)), (22, (vI hs)), (23, (vB one)), (24, (vI hs)), (25, (vB one))]) (hw : FS1 l1 c1 A1 w0 w) : B104.wp Tryd.prog (Ql w0) a w := by
  refine wp_seq ?_
  refine region_list ?_
  refine quiet_ 0 1 1 (K := [(1, (vS A1 l1 c1)), (21, (vI nn)), (22, (vI hs)), (23, (vB one)), (24, (vI hs)), (25, (vB one)), (185, (vI nn))]) (obs := []) (by kernel_rfl) rfl trivial h hw ?_
  clear h hw
  intro a w h hw
  refine made_ (σ := Option Addr × Nat) (F := FS1 l1 c1 A1 w0) 1 2 (f := 15) (d := 186) (vs := [(vI nn)]) (by kernel_rfl) rfl h hw Tryd.func15 (by kernel_rfl) (by kernel_rfl) (fun s => (.tuple #[(.slice s.1 sts.length s.2), (vB thr)])) (fun s w => FS2 sts l1 s.2 c1 s.1 A1 w0 w) ?_ ?_
  · intro w hw
    refine (impl_BalancedStreets.calls _ _ _ _ _ (H.f26_1)).mono ?_
    rintro e w' ⟨v0_, he, hR0, hb⟩
    obtain ⟨A0_, c0_, rfl, hc0_, hC0_⟩ := Kd.S_reads hR0
    have hw' := FS1.stays w w' hw hb
    exact ⟨(A0_, c0_), he, ⟨hC0_, hc0_, hw'⟩⟩
  clear h hw
  rintro ⟨A186, c186⟩ a w h hw
  exact quiet_ 2 5 7 (obs := []) (by kernel_rfl) rfl trivial h hw fun a w h hw => end_ (by kernel_rfl) (t103 H h hw)
theorem t105 (H : Facts kk l0 l1 mo dg cn ok al cq nn hs one sts thr pl dgs la sev lf md nin a1 b1 sm elv sN rg thi sx sy rx ry uq us ov) {a : Act} {w : World} (h : Has 602 a [(1, (vS A1 l1 c1)), (21, (vI nn)), (22, (vI hs)), (23, (vB one))]) (hw : FS1 l1 c1 A1 w0 w) : B105.wp Tryd.prog (Ql w0) a w := by
  refine wp_seq ?_
  exact region_ (obs := [.call 14 [(vI nn)] (.tuple #[(vI hs), (vB one)])]) (by kernel_rfl) mix rfl FS1.stays ⟨⟨⟨_, Tryd.func14, by kernel_rfl, by kernel_rfl⟩, fun w hw => FS1.stays.callsD hw (spec_BalancedHouse.calls _ _ _ _ _ (H.f25_1))⟩, trivial⟩ h hw fun a w h hw => t104 H h hw
theorem t106 (H : Facts kk l0 l1 mo dg cn ok al cq nn hs one sts thr pl dgs la sev lf md nin a1 b1 sm elv sN rg thi sx sy rx ry uq us ov) {a : Act} {w : World} (h : Has 602 a [(1, (vS A1 l1 c1)), (21, (vI nn))]) (hw : FS1 l1 c1 A1 w0 w) : B106.wp Tryd.prog (Ql w0) a w := by
  refine wp_seq ?_
  exact region_ (obs := [.call 13 [(vI nn)] (.tuple #[(vI hs), (vB one)])]) (by kernel_rfl) mix rfl FS1.stays ⟨⟨⟨_, Tryd.func13, by kernel_rfl, by kernel_rfl⟩, fun w hw => FS1.stays.callsD hw (impl_BalancedHouse.calls _ _ _ _ (H.f24_1))⟩, trivial⟩ h hw fun a w h hw => t105 H h hw
theorem t107 (H : Facts kk l0 l1 mo dg cn ok al cq nn hs one sts thr pl dgs la sev lf md nin a1 b1 sm elv sN rg thi sx sy rx ry uq us ov) {a : Act} {w : World} (h : Has 602 a [(1, (vS A1 l1 c1))]) (hw : FS1 l1 c1 A1 w0 w) : B107.wp Tryd.prog (Ql w0) a w := by
  refine wp_seq ?_
  exact region_ (obs := [.call 12 [(vS A1 l1 c1)] (vI nn)]) (by kernel_rfl) mix rfl FS1.stays ⟨⟨⟨_, Tryd.func12, by kernel_rfl, by kernel_rfl⟩, fun w hw => FS1.stays.calls hw (spec_DrawBalancedHouse.calls _ _ _ _ _ (hw.2.2.1) (hw.2.2.2) (H.f23_1))⟩, trivial⟩ h hw fun a w h hw => t106 H h hw
theorem t6 (hlt : i < (cl cq).length) {a : Act} {w : World} (h : Has 602 a [(1, (vS A1 l1 c1)), (5, (vI mo)), (6, (vI dg)), (7, (vI cn)), (11, (vI al)), (12, (vB true)), (13, (.slice (some ⟨gq, 0, none⟩) (cl cq).length 10)), (14, (vI (i : Int))), (15, (vI (cq i))), (16, (vB true)), (111, (vI (((cl cq).length : Int)))), (112, (vI (i : Int)))]) (hw : FS20 l1 c1 gq i cq A1 w0 w) : B6.wp Tryd.prog (Exit.inBlock 1 (Exit.then (fun a w => Code.wp Tryd.prog (Code.region 18 R18.toArray false) (Exit.then (fun a' w' => ∃ d', d' < (cl cq).length - i ∧ (∃ i : Nat, i ≤ (cl cq).length ∧ d' = (cl cq).length - i ∧ Has 602 a' [(1, (vS A1 l1 c1)), (5, (vI mo)), (6, (vI dg)), (7, (vI cn)), (11, (vI al)), (12, (vB true)), (13, (.slice (some ⟨gq, 0, none⟩) (cl cq).length 10)), (111, (vI (((cl cq).length : Int)))), (112, (vI (i : Int)))] ∧ FS20 l1 c1 gq i cq A1 w0 w')) (Exit.inBlock 0 (Exit.then (fun a w => Code.wp Tryd.prog B16 (Exit.then (fun a w => Code.wp Tryd.prog B107 (Ql w0) a w) (Ql w0)) a w) (Exit.then (fun a w => Code.wp Tryd.prog B107 (Ql w0) a w) (Ql w0))))) a w) (Exit.then (fun a' w' => ∃ d', d' < (cl cq).length - i ∧ (∃ i : Nat, i ≤ (cl cq).length ∧ d' = (cl cq).length - i ∧ Has 602 a' [(1, (vS A1 l1 c1)), (5, (vI mo)), (6, (vI dg)), (7, (vI cn)), (11, (vI al)), (12, (vB true)), (13, (.slice (some ⟨gq, 0, none⟩) (cl cq).length 10)), (111, (vI (((cl cq).length : Int)))), (112, (vI (i : Int)))] ∧ FS20 l1 c1 gq i cq A1 w0 w')) (Exit.inBlock 0 (Exit.then (fun a w => Code.wp Tryd.prog B16 (Exit.then (fun a w => Code.wp Tryd.prog B107 (Ql w0) a w) (Ql w0)) a w) (Exit.then (fun a w => Code.wp Tryd.prog B107 (Ql w0) a w) (Ql w0))))))) a w := by
  refine wp_seq ?_
  refine wp_seq ?_
  refine region_ (K := [(1, (vS A1 l1 c1)), (5, (vI mo)), (6, (vI dg)), (7, (vI cn)), (11, (vI al)), (12, (vB true)), (13, (.slice (some ⟨gq, 0, none⟩) (cl cq).length 10)), (14, (vI (i : Int))), (15, (vI (cq i))), (111, (vI (((cl cq).length : Int)))), (112, (vI (i : Int))), (122, (vB false))]) (obs := []) (by kernel_rfl) mix rfl FS20.stays trivial h hw ?_
  clear h hw
  intro a w h hw
  show Code.wp _ (Code.cond (tm 122) B4 Code.skip) _ _ _
  refine wp_cond_false (h.opd (by kernel_rfl)) ?_
  refine wp_skip ?_
  show Code.wp _ (Code.region 17 R17.toArray false) _ _ _
  refine region_list ?_
  refine quiet_ 0 4 4 (K := [(1, (vS A1 l1 c1)), (5, (vI mo)), (6, (vI dg)), (7, (vI cn)), (11, (vI al)), (12, (vB true)), (13, (.slice (some ⟨gq, 0, none⟩) (cl cq).length 10)), (111, (vI (((cl cq).length : Int)))), (112, (vI (i : Int))), (125, (vI (cq i))), (126, (.pointer (some (((⟨gq, 0, none⟩ : Addr).add (i : Int).toNat)))))]) (obs := [.op (Op.indexAddr 29 (tm 123) (tm 124)) 0 [((tm 123), (.slice (some ⟨gq, 0, none⟩) (cl cq).length 10)), ((tm 124), (vI (i : Int)))] (.pointer (some (((⟨gq, 0, none⟩ : Addr).add (i : Int).toNat))))]) (by kernel_rfl) rfl ⟨(ok_idxe29 rfl (by omega) (by have := cl_len cq; omega)), trivial⟩ h hw ?_
  clear h hw
  intro a w h hw
  refine store10_ cq (F := FS1 l1 c1 A1 w0) 4 5 (m := i) (g := gq) (by kernel_rfl) rfl (by have := cl_len cq; omega) h hw ?_
  clear h hw
  intro a w h hw
  replace hw : FS21 l1 c1 gq i cq A1 w0 w := hw
  refine end_ (by kernel_rfl) ?_
  show Code.wp _ (Code.region 18 R18.toArray false) _ _ _
  refine region_ (K := [(1, (vS A1 l1 c1)), (5, (vI mo)), (6, (vI dg)), (7, (vI cn)), (11, (vI al)), (12, (vB true)), (13, (.slice (some ⟨gq, 0, none⟩) (cl cq).length 10)), (111, (vI (((cl cq).length : Int)))), (112, (vI (((i + 1 : Nat) : Int))))]) (obs := [bO .add (tm 112) (Operand.const (Value.int IntKind.i64 1)) (i : Int) 1 (((i + 1 : Nat) : Int))]) (by kernel_rfl) mix rfl FS21.stays ⟨(ok_add_int (wadd_ (by have := cl_len cq; omega))), trivial⟩ h hw ?_
  clear h hw
  intro a w h hw
  refine ⟨(cl cq).length - (i + 1), by omega, i + 1, by omega, rfl, ?_, ?_⟩
  · exact h.cut (by kernel_rfl)
  · exact hw
theorem t7 (H : Facts kk l0 l1 mo dg cn true al cq nn hs one sts thr pl dgs la sev lf md nin a1 b1 sm elv sN rg thi sx sy rx ry uq us ov) (hx1 : mo ≤ 5000) (hlt : i < (cl cq).length) {a : Act} {w : World} (h : Has 602 a [(1, (vS A1 l1 c1)), (5, (vI mo)), (6, (vI dg)), (7, (vI cn)), (11, (vI al)), (12, (vB true)), (13, (.slice (some ⟨gq, 0, none⟩) (cl cq).length 10)), (14, (vI (i : Int))), (111, (vI (((cl cq).length : Int)))), (112, (vI (i : Int)))]) (hw : FS20 l1 c1 gq i cq A1 w0 w) : B7.wp Tryd.prog (Exit.inBlock 1 (Exit.then (fun a w => Code.wp Tryd.prog (Code.region 18 R18.toArray false) (Exit.then (fun a' w' => ∃ d', d' < (cl cq).length - i ∧ (∃ i : Nat, i ≤ (cl cq).length ∧ d' = (cl cq).length - i ∧ Has 602 a' [(1, (vS A1 l1 c1)), (5, (vI mo)), (6, (vI dg)), (7, (vI cn)), (11, (vI al)), (12, (vB true)), (13, (.slice (some ⟨gq, 0, none⟩) (cl cq).length 10)), (111, (vI (((cl cq).length : Int)))), (112, (vI (i : Int)))] ∧ FS20 l1 c1 gq i cq A1 w0 w')) (Exit.inBlock 0 (Exit.then (fun a w => Code.wp Tryd.prog B16 (Exit.then (fun a w => Code.wp Tryd.prog B107 (Ql w0) a w) (Ql w0)) a w) (Exit.then (fun a w => Code.wp Tryd.prog B107 (Ql w0) a w) (Ql w0))))) a w) (Exit.then (fun a' w' => ∃ d', d' < (cl cq).length - i ∧ (∃ i : Nat, i ≤ (cl cq).length ∧ d' = (cl cq).length - i ∧ Has 602 a' [(1, (vS A1 l1 c1)), (5, (vI mo)), (6, (vI dg)), (7, (vI cn)), (11, (vI al)), (12, (vB true)), (13, (.slice (some ⟨gq, 0, none⟩) (cl cq).length 10)), (111, (vI (((cl cq).length : Int)))), (112, (vI (i : Int)))] ∧ FS20 l1 c1 gq i cq A1 w0 w')) (Exit.inBlock 0 (Exit.then (fun a w => Code.wp Tryd.prog B16 (Exit.then (fun a w => Code.wp Tryd.prog B107 (Ql w0) a w) (Ql w0)) a w) (Exit.then (fun a w => Code.wp Tryd.prog B107 (Ql w0) a w) (Ql w0))))))) a w := by
  refine wp_seq ?_
  exact region_ (K := [(1, (vS A1 l1 c1)), (5, (vI mo)), (6, (vI dg)), (7, (vI cn)), (11, (vI al)), (12, (vB true)), (13, (.slice (some ⟨gq, 0, none⟩) (cl cq).length 10)), (14, (vI (i : Int))), (15, (vI (cq i))), (16, (vB true)), (111, (vI (((cl cq).length : Int)))), (112, (vI (i : Int)))]) (obs := [.call 6 [(vI mo), (vI (i : Int))] (.tuple #[(vI (cq i)), (vB true)])]) (by kernel_rfl) mix rfl FS20.stays ⟨⟨⟨_, Tryd.func6, by kernel_rfl, by kernel_rfl⟩, fun w hw => FS20.stays.callsD hw (impl_CountDigit.calls _ _ _ _ _ _ (H.hcq rfl hx1 i hlt))⟩, trivial⟩ h hw fun a w h hw => t6 hlt h hw
theorem t8 (H : Facts kk l0 l1 mo dg cn true al cq nn hs one sts thr pl dgs la sev lf md nin a1 b1 sm elv sN rg thi sx sy rx ry uq us ov) (hx1 : mo ≤ 5000) (hlt : i < (cl cq).length) {a : Act} {w : World} (h : Has 602 a [(1, (vS A1 l1 c1)), (5, (vI mo)), (6, (vI dg)), (7, (vI cn)), (11, (vI al)), (12, (vB true)), (13, (.slice (some ⟨gq, 0, none⟩) (cl cq).length 10)), (111, (vI (((cl cq).length : Int)))), (112, (vI (i : Int)))]) (hw : FS20 l1 c1 gq i cq A1 w0 w) : B8.wp Tryd.prog (Exit.inBlock 1 (Exit.then (fun a w => Code.wp Tryd.prog (Code.region 18 R18.toArray false) (Exit.then (fun a' w' => ∃ d', d' < (cl cq).length - i ∧ (∃ i : Nat, i ≤ (cl cq).length ∧ d' = (cl cq).length - i ∧ Has 602 a' [(1, (vS A1 l1 c1)), (5, (vI mo)), (6, (vI dg)), (7, (vI cn)), (11, (vI al)), (12, (vB true)), (13, (.slice (some ⟨gq, 0, none⟩) (cl cq).length 10)), (111, (vI (((cl cq).length : Int)))), (112, (vI (i : Int)))] ∧ FS20 l1 c1 gq i cq A1 w0 w')) (Exit.inBlock 0 (Exit.then (fun a w => Code.wp Tryd.prog B16 (Exit.then (fun a w => Code.wp Tryd.prog B107 (Ql w0) a w) (Ql w0)) a w) (Exit.then (fun a w => Code.wp Tryd.prog B107 (Ql w0) a w) (Ql w0))))) a w) (Exit.then (fun a' w' => ∃ d', d' < (cl cq).length - i ∧ (∃ i : Nat, i ≤ (cl cq).length ∧ d' = (cl cq).length - i ∧ Has 602 a' [(1, (vS A1 l1 c1)), (5, (vI mo)), (6, (vI dg)), (7, (vI cn)), (11, (vI al)), (12, (vB true)), (13, (.slice (some ⟨gq, 0, none⟩) (cl cq).length 10)), (111, (vI (((cl cq).length : Int)))), (112, (vI (i : Int)))] ∧ FS20 l1 c1 gq i cq A1 w0 w')) (Exit.inBlock 0 (Exit.then (fun a w => Code.wp Tryd.prog B16 (Exit.then (fun a w => Code.wp Tryd.prog B107 (Ql w0) a w) (Ql w0)) a w) (Exit.then (fun a w => Code.wp Tryd.prog B107 (Ql w0) a w) (Ql w0))))))) a w := by
  refine wp_seq ?_
  exact region_ (obs := []) (by kernel_rfl) mix rfl FS20.stays trivial h hw fun a w h hw => t7 H hx1 hlt h hw
theorem t9 (H : Facts kk l0 l1 mo dg cn true al cq nn hs one sts thr pl dgs la sev lf md nin a1 b1 sm elv sN rg thi sx sy rx ry uq us ov) (hx1 : mo ≤ 5000) (hlt : i < (cl cq).length) {a : Act} {w : World} (h : Has 602 a [(1, (vS A1 l1 c1)), (5, (vI mo)), (6, (vI dg)), (7, (vI cn)), (11, (vI al)), (12, (vB true)), (13, (.slice (some ⟨gq, 0, none⟩) (cl cq).length 10)), (111, (vI (((cl cq).length : Int)))), (112, (vI (i : Int)))]) (hw : FS20 l1 c1 gq i cq A1 w0 w) : B9.wp Tryd.prog (Exit.then (fun a' w' => ∃ d', d' < (cl cq).length - i ∧ (∃ i : Nat, i ≤ (cl cq).length ∧ d' = (cl cq).length - i ∧ Has 602 a' [(1, (vS A1 l1 c1)), (5, (vI mo)), (6, (vI dg)), (7, (vI cn)), (11, (vI al)), (12, (vB true)), (13, (.slice (some ⟨gq, 0, none⟩) (cl cq).length 10)), (111, (vI (((cl cq).length : Int)))), (112, (vI (i : Int)))] ∧ FS20 l1 c1 gq i cq A1 w0 w')) (Exit.inBlock 0 (Exit.then (fun a w => Code.wp Tryd.prog B16 (Exit.then (fun a w => Code.wp Tryd.prog B107 (Ql w0) a w) (Ql w0)) a w) (Exit.then (fun a w => Code.wp Tryd.prog B107 (Ql w0) a w) (Ql w0))))) a w := by
  refine wp_seq ?_
  refine wp_block ?_
  exact t8 H hx1 hlt h hw
theorem t10 (H : Facts kk l0 l1 mo dg cn true al cq nn hs one sts thr pl dgs la sev lf md nin a1 b1 sm elv sN rg thi sx sy rx ry uq us ov) (hx1 : mo ≤ 5000) (hlt : i < (cl cq).length) {a : Act} {w : World} (h : Has 602 a [(1, (vS A1 l1 c1)), (5, (vI mo)), (6, (vI dg)), (7, (vI cn)), (11, (vI al)), (12, (vB true)), (13, (.slice (some ⟨gq, 0, none⟩) (cl cq).length 10)), (111, (vI (((cl cq).length : Int)))), (112, (vI (i : Int))), (113, (vB true))]) (hw : FS20 l1 c1 gq i cq A1 w0 w) : B10.wp Tryd.prog (Exit.then (fun a' w' => ∃ d', d' < (cl cq).length - i ∧ (∃ i : Nat, i ≤ (cl cq).length ∧ d' = (cl cq).length - i ∧ Has 602 a' [(1, (vS A1 l1 c1)), (5, (vI mo)), (6, (vI dg)), (7, (vI cn)), (11, (vI al)), (12, (vB true)), (13, (.slice (some ⟨gq, 0, none⟩) (cl cq).length 10)), (111, (vI (((cl cq).length : Int)))), (112, (vI (i : Int)))] ∧ FS20 l1 c1 gq i cq A1 w0 w')) (Exit.inBlock 0 (Exit.then (fun a w => Code.wp Tryd.prog B16 (Exit.then (fun a w => Code.wp Tryd.prog B107 (Ql w0) a w) (Ql w0)) a w) (Exit.then (fun a w => Code.wp Tryd.prog B107 (Ql w0) a w) (Ql w0))))) a w := by
  refine wp_seq ?_
  refine wp_cond_true (h.opd (by kernel_rfl)) ?_
  refine wp_skip ?_
  exact t9 H hx1 hlt (h.cut (by kernel_rfl)) hw
theorem t11 (H : Facts kk l0 l1 mo dg cn true al cq nn hs one sts thr pl dgs la sev lf md nin a1 b1 sm elv sN rg thi sx sy rx ry uq us ov) (hx1 : mo ≤ 5000) (hlt : i < (cl cq).length) {a : Act} {w : World} (h : Has 602 a [(1, (vS A1 l1 c1)), (5, (vI mo)), (6, (vI dg)), (7, (vI cn)), (11, (vI al)), (12, (vB true)), (13, (.slice (some ⟨gq, 0, none⟩) (cl cq).length 10)), (111, (vI (((cl cq).length : Int)))), (112, (vI (i : Int)))]) (hw : FS20 l1 c1 gq i cq A1 w0 w) : B11.wp Tryd.prog (Exit.then (fun a' w' => ∃ d', d' < (cl cq).length - i ∧ (∃ i : Nat, i ≤ (cl cq).length ∧ d' = (cl cq).length - i ∧ Has 602 a' [(1, (vS A1 l1 c1)), (5, (vI mo)), (6, (vI dg)), (7, (vI cn)), (11, (vI al)), (12, (vB true)), (13, (.slice (some ⟨gq, 0, none⟩) (cl cq).length 10)), (111, (vI (((cl cq).length : Int)))), (112, (vI (i : Int)))] ∧ FS20 l1 c1 gq i cq A1 w0 w')) (Exit.inBlock 0 (Exit.then (fun a w => Code.wp Tryd.prog B16 (Exit.then (fun a w => Code.wp Tryd.prog B107 (Ql w0) a w) (Ql w0)) a w) (Exit.then (fun a w => Code.wp Tryd.prog B107 (Ql w0) a w) (Ql w0))))) a w := by
  refine wp_seq ?_
  exact region_ (obs := [.op (Op.binOp BinOp.lss 3 (tm 112) (tm 111) 3) 0 [((tm 112), (vI (i : Int))), ((tm 111), (vI (((cl cq).length : Int))))] (vB true)]) (by kernel_rfl) mix rfl FS20.stays ⟨(ok_lss_int (decide_eq_true (by omega))), trivial⟩ h hw fun a w h hw => t10 H hx1 hlt h hw
theorem t14 (H : Facts kk l0 l1 mo dg cn true al cq nn hs one sts thr pl dgs la sev lf md nin a1 b1 sm elv sN rg thi sx sy rx ry uq us ov) (hx1 : mo ≤ 5000) {a : Act} {w : World} (h : Has 602 a [(1, (vS A1 l1 c1)), (5, (vI mo)), (6, (vI dg)), (7, (vI cn)), (11, (vI al)), (12, (vB true)), (13, (.slice (some ⟨gq, 0, none⟩) (cl cq).length 10)), (17, (vI mo)), (18, (vB true)), (19, (vI mo)), (20, (vB true))]) (hw : FS22 l1 gq c1 cq A1 w0 w) : B14.wp Tryd.prog (Exit.then (fun a w => Code.wp Tryd.prog B107 (Ql w0) a w) (Ql w0)) a w := by
  refine wp_seq ?_
  refine region_ (K := [(1, (vS A1 l1 c1)), (171, (vB false))]) (obs := [.call 11 [(.slice (some ⟨gq, 0, none⟩) (cl cq).length 10)] (vI al), cI .neq 142 143 al al false, .op (Op.indexAddr 29 (tm 147) (tm 148)) 0 [((tm 147), (.slice (some ⟨gq, 0, none⟩) (cl cq).length 10)), ((tm 148), (vI dg))] (.pointer (some (((⟨gq, 0, none⟩ : Addr).add dg.toNat)))), .op (Op.load 3 (tm 149)) 3 [((tm 149), (.pointer (some (((⟨gq, 0, none⟩ : Addr).add dg.toNat)))))] (vI (((cl cq).getD dg.toNat 0))), cI .neq 150 151 (((cl cq).getD dg.toNat 0)) cn false, cI .neq 159 160 mo mo false, cI .neq 168 169 mo mo false]) (by kernel_rfl) mix rfl FS22.stays ⟨⟨⟨_, Tryd.func11, by kernel_rfl, by kernel_rfl⟩, fun w hw => FS22.stays.callsD hw (laws_zSum.calls _ _ _ _ _ _ (hw.1) (hw.2.1) (H.f21_4 rfl hx1))⟩, (ok_neq_int (bne_self_eq_false _)), (ok_idxe29 rfl (H.hdg rfl).1 (by have := H.hdg rfl; have := cl_len cq; omega)), (ok_load3p (fun w hw => C_cellI (hw.1) rfl (H.hdg rfl).1 (by have := H.hdg rfl; have := cl_len cq; omega))), (ok_neq_int (bne_eq_false_iff_eq.mpr (H.hneed rfl hx1))), (ok_neq_int (bne_self_eq_false _)), (ok_neq_int (bne_self_eq_false _)), trivial⟩ h hw ?_
  clear h hw
  intro a w h hw
  show Code.wp _ (Code.cond (tm 171) B13 Code.skip) _ _ _
  refine wp_cond_false (h.opd (by kernel_rfl)) ?_
  refine wp_skip ?_
  exact t107 H (h.cut (by kernel_rfl)) hw.2.2
theorem t15 (H : Facts kk l0 l1 mo dg cn true al cq nn hs one sts thr pl dgs la sev lf md nin a1 b1 sm elv sN rg thi sx sy rx ry uq us ov) (hx1 : mo ≤ 5000) {a : Act} {w : World} (h : Has 602 a [(1, (vS A1 l1 c1)), (5, (vI mo)), (6, (vI dg)), (7, (vI cn)), (11, (vI al)), (12, (vB true)), (13, (.slice (some ⟨gq, 0, none⟩) (cl cq).length 10)), (17, (vI mo)), (18, (vB true))]) (hw : FS22 l1 gq c1 cq A1 w0 w) : B15.wp Tryd.prog (Exit.then (fun a w => Code.wp Tryd.prog B107 (Ql w0) a w) (Ql w0)) a w := by
  refine wp_seq ?_
  exact region_ (obs := [.call 10 [(.slice (some ⟨gq, 0, none⟩) (cl cq).length 10)] (.tuple #[(vI mo), (vB true)])]) (by kernel_rfl) mix rfl FS22.stays ⟨⟨⟨_, Tryd.func10, by kernel_rfl, by kernel_rfl⟩, fun w hw => FS22.stays.calls hw (impl_PlatesFrom.calls _ _ _ _ _ _ _ (hw.1) (hw.2.1) (H.f20_1 rfl hx1))⟩, trivial⟩ h hw fun a w h hw => t14 H hx1 h hw
theorem t16 (H : Facts kk l0 l1 mo dg cn true al cq nn hs one sts thr pl dgs la sev lf md nin a1 b1 sm elv sN rg thi sx sy rx ry uq us ov) (hx1 : mo ≤ 5000) {a : Act} {w : World} (h : Has 602 a [(1, (vS A1 l1 c1)), (5, (vI mo)), (6, (vI dg)), (7, (vI cn)), (11, (vI al)), (12, (vB true)), (13, (.slice (some ⟨gq, 0, none⟩) (cl cq).length 10))]) (hw : FS22 l1 gq c1 cq A1 w0 w) : B16.wp Tryd.prog (Exit.then (fun a w => Code.wp Tryd.prog B107 (Ql w0) a w) (Ql w0)) a w := by
  refine wp_seq ?_
  exact region_ (obs := [.call 9 [(vI al)] (.tuple #[(vI mo), (vB true)])]) (by kernel_rfl) mix rfl FS22.stays ⟨⟨⟨_, Tryd.func9, by kernel_rfl, by kernel_rfl⟩, fun w hw => FS22.stays.calls hw (impl_LastWithDigits.calls _ _ _ _ _ (H.f19_1 rfl hx1) (hw.2.2.2.1))⟩, trivial⟩ h hw fun a w h hw => t15 H hx1 h hw
theorem t17 (H : Facts kk l0 l1 mo dg cn true al cq nn hs one sts thr pl dgs la sev lf md nin a1 b1 sm elv sN rg thi sx sy rx ry uq us ov) (hx1 : mo ≤ 5000) {a : Act} {w : World} (h : Has 602 a [(1, (vS A1 l1 c1)), (5, (vI mo)), (6, (vI dg)), (7, (vI cn)), (11, (vI al)), (12, (vB true)), (13, (.slice (some ⟨gq, 0, none⟩) (cl cq).length 10))]) (hw : FS19 l1 c1 gq cq A1 w0 w) : B17.wp Tryd.prog (Exit.then (fun a w => Code.wp Tryd.prog B107 (Ql w0) a w) (Ql w0)) a w := by
  refine wp_seq ?_
  refine wp_seq ?_
  refine region_ (K := [(1, (vS A1 l1 c1)), (5, (vI mo)), (6, (vI dg)), (7, (vI cn)), (11, (vI al)), (12, (vB true)), (13, (.slice (some ⟨gq, 0, none⟩) (cl cq).length 10)), (111, (vI (((cl cq).length : Int)))), (112, (vI 0))]) (obs := [lN 29 110 (some ⟨gq, 0, none⟩) (cl cq) 10]) (by kernel_rfl) mix rfl FS19.stays ⟨(ok_len Tryd.underlying29), trivial⟩ h hw ?_
  clear h hw
  intro a w h hw
  show Code.wp _ (Code.block 0 (Code.loop B11)) _ _ _
  refine wp_block ?_
  replace h : Has 602 a [(1, (vS A1 l1 c1)), (5, (vI mo)), (6, (vI dg)), (7, (vI cn)), (11, (vI al)), (12, (vB true)), (13, (.slice (some ⟨gq, 0, none⟩) (cl cq).length 10)), (111, (vI (((cl cq).length : Int)))), (112, (vI (((0 : Nat) : Int))))] := h.cut (by kernel_rfl)
  replace hw : FS20 l1 c1 gq 0 cq A1 w0 w := hw
  refine loop_nat (fun d a w => ∃ i : Nat, i ≤ (cl cq).length ∧ d = (cl cq).length - i ∧ Has 602 a [(1, (vS A1 l1 c1)), (5, (vI mo)), (6, (vI dg)), (7, (vI cn)), (11, (vI al)), (12, (vB true)), (13, (.slice (some ⟨gq, 0, none⟩) (cl cq).length 10)), (111, (vI (((cl cq).length : Int)))), (112, (vI (i : Int)))] ∧ FS20 l1 c1 gq i cq A1 w0 w) ?_ (cl cq).length a w ⟨0, Nat.zero_le _, rfl, h, hw⟩
  clear h hw a w
  rintro d a w ⟨i, hi_, rfl, h, hw⟩
  by_cases hlt : i < (cl cq).length
  · exact t11 H hx1 hlt h hw
  · show Code.wp _ (Code.seq (Code.region 12 R12.toArray false) B10) _ _ _
    refine wp_seq ?_
    refine region_ (K := [(1, (vS A1 l1 c1)), (5, (vI mo)), (6, (vI dg)), (7, (vI cn)), (11, (vI al)), (12, (vB true)), (13, (.slice (some ⟨gq, 0, none⟩) (cl cq).length 10)), (113, (vB false))]) (obs := [.op (Op.binOp BinOp.lss 3 (tm 112) (tm 111) 3) 0 [((tm 112), (vI (i : Int))), ((tm 111), (vI (((cl cq).length : Int))))] (vB false)]) (by kernel_rfl) mix rfl FS20.stays ⟨(ok_lss_int (decide_eq_false (by omega))), trivial⟩ h hw ?_
    clear h hw
    intro a w h hw
    refine wp_seq ?_
    refine wp_cond_false (h.opd (by kernel_rfl)) ?_
    refine wp_exit ?_
    show Exit.inBlock 0 (Exit.then (fun a w => Code.wp Tryd.prog B16 (Exit.then (fun a w => Code.wp Tryd.prog B107 (Ql w0) a w) (Ql w0)) a w) (Exit.then (fun a w => Code.wp Tryd.prog B107 (Ql w0) a w) (Ql w0))) (.exit 0) a w
    refine inBlock_exit ?_
    obtain rfl : i = 10 := by have := cl_len cq; omega
    have hp_ := Pend.out FS1.stays hw
    have hb_ := hp_.2 0 _ rfl
    replace hw : FS22 l1 gq c1 cq A1 w0 w := ⟨cl_C hb_, Nat.le_of_eq (cl_len cq), hp_.1⟩
    clear hp_ hb_
    exact t16 H hx1 (h.cut (by kernel_rfl)) hw
theorem t18 (H : Facts kk l0 l1 mo dg cn true al cq nn hs one sts thr pl dgs la sev lf md nin a1 b1 sm elv sN rg thi sx sy rx ry uq us ov) (hx1 : mo ≤ 5000) {a : Act} {w : World} (h : Has 602 a [(1, (vS A1 l1 c1)), (5, (vI mo)), (6, (vI dg)), (7, (vI cn)), (11, (vI al)), (12, (vB true))]) (hw : FS1 l1 c1 A1 w0 w) : B18.wp Tryd.prog (Exit.then (fun a w => Code.wp Tryd.prog B107 (Ql w0) a w) (Ql w0)) a w := by
  refine wp_seq ?_
  refine region_list ?_
  refine make10_ cq (F := FS1 l1 c1 A1 w0) 0 1 (d := 109) (by kernel_rfl) rfl h hw ?_
  clear h hw
  intro gq a w h hw
  replace hw : FS19 l1 c1 gq cq A1 w0 w := hw
  replace h : Has 602 a ((109, (.slice (some ⟨gq, 0, none⟩) (cl cq).length 10)) :: [(1, (vS A1 l1 c1)), (5, (vI mo)), (6, (vI dg)), (7, (vI cn)), (11, (vI al)), (12, (vB true))]) := h
  exact quiet_ 1 1 2 (obs := []) (by kernel_rfl) rfl trivial h hw fun a w h hw => end_ (by kernel_rfl) (t17 H hx1 h hw)
theorem t19 (H : Facts kk l0 l1 mo dg cn true al cq nn hs one sts thr pl dgs la sev lf md nin a1 b1 sm elv sN rg thi sx sy rx ry uq us ov) (hx1 : mo ≤ 5000) {a : Act} {w : World} (h : Has 602 a [(1, (vS A1 l1 c1)), (5, (vI mo)), (6, (vI dg)), (7, (vI cn))]) (hw : FS1 l1 c1 A1 w0 w) : B19.wp Tryd.prog (Exit.then (fun a w => Code.wp Tryd.prog B107 (Ql w0) a w) (Ql w0)) a w := by
  refine wp_seq ?_
  exact region_ (obs := [.call 8 [(vI mo)] (.tuple #[(vI al), (vB true)])]) (by kernel_rfl) mix rfl FS1.stays ⟨⟨⟨_, Tryd.func8, by kernel_rfl, by kernel_rfl⟩, fun w hw => FS1.stays.callsD hw (impl_DigitsOnPlates.calls _ _ _ _ _ (H.f9_1 rfl hx1))⟩, trivial⟩ h hw fun a w h hw => t18 H hx1 h hw
theorem t108 (H : Facts kk l0 l1 mo dg cn ok al cq nn hs one sts thr pl dgs la sev lf md nin a1 b1 sm elv sN rg thi sx sy rx ry uq us ov) {a : Act} {w : World} (h : Has 602 a [(1, (vS A1 l1 c1)), (5, (vI mo)), (6, (vI dg)), (7, (vI cn)), (8, (vB ok))]) (hw : FS1 l1 c1 A1 w0 w) : B108.wp Tryd.prog (Ql w0) a w := by
  refine wp_seq ?_
  refine wp_seq ?_
  cases ok with
  | true =>
    by_cases hx1 : mo ≤ 5000
    · refine region_ (F := FS1 l1 c1 A1 w0) (K := [(1, (vS A1 l1 c1)), (5, (vI mo)), (6, (vI dg)), (7, (vI cn)), (103, (vB true))]) (obs := [cK .leq 101 mo 5000 true]) (by kernel_rfl) mix rfl FS1.stays ⟨(ok_leq_int (decide_eq_true hx1)), trivial⟩ h hw ?_
      clear h hw
      intro a w h hw
      show Code.wp _ (Code.cond (tm 103) B19 Code.skip) _ _ _
      refine wp_cond_true (h.opd (by kernel_rfl)) ?_
      exact t19 H hx1 (h.cut (by kernel_rfl)) hw
    · refine region_ (F := FS1 l1 c1 A1 w0) (K := [(1, (vS A1 l1 c1)), (5, (vI mo)), (6, (vI dg)), (7, (vI cn)), (103, (vB false))]) (obs := [cK .leq 101 mo 5000 false]) (by kernel_rfl) mix rfl FS1.stays ⟨(ok_leq_int (decide_eq_false hx1)), trivial⟩ h hw ?_
      clear h hw
      intro a w h hw
      show Code.wp _ (Code.cond (tm 103) B19 Code.skip) _ _ _
      refine wp_cond_false (h.opd (by kernel_rfl)) ?_
      refine wp_skip ?_
      exact t107 H (h.cut (by kernel_rfl)) hw
  | false =>
    refine region_ (K := [(1, (vS A1 l1 c1)), (5, (vI mo)), (6, (vI dg)), (7, (vI cn)), (103, (vB false))]) (obs := []) (by kernel_rfl) mix rfl FS1.stays trivial h hw ?_
    clear h hw
    intro a w h hw
    show Code.wp _ (Code.cond (tm 103) B19 Code.skip) _ _ _
    refine wp_cond_false (h.opd (by kernel_rfl)) ?_
    refine wp_skip ?_
    exact t107 H (h.cut (by kernel_rfl)) hw
theorem t109 (H : Facts kk l0 l1 mo dg cn ok al cq nn hs one sts thr pl dgs la sev lf md nin a1 b1 sm elv sN rg thi sx sy rx ry uq us ov) {a : Act} {w : World} (h : Has 602 a [(1, (vS A1 l1 c1)), (5, (vI mo)), (6, (vI dg)), (7, (vI cn)), (8, (vB ok)), (9, (vI cn)), (10, (vB ok))]) (hw : FS1 l1 c1 A1 w0 w) : B109.wp Tryd.prog (Ql w0) a w := by
  refine wp_seq ?_
  refine wp_seq ?_
  refine region_ (K := [(1, (vS A1 l1 c1)), (5, (vI mo)), (6, (vI dg)), (7, (vI cn)), (8, (vB ok)), (98, (vB false))]) (obs := [cB .neq 91 92 ok ok false, cI .neq 95 96 cn cn false]) (by kernel_rfl) mix rfl FS1.stays ⟨(ok_neq_bool Tryd.underlying4 (bne_self_eq_false _)), (ok_neq_int (bne_self_eq_false _)), trivial⟩ h hw ?_
  clear h hw
  intro a w h hw
  show Code.wp _ (Code.cond (tm 98) B2 Code.skip) _ _ _
  refine wp_cond_false (h.opd (by kernel_rfl)) ?_
  refine wp_skip ?_
  exact t108 H (h.cut (by kernel_rfl)) hw
theorem t110 (H : Facts kk l0 l1 mo dg cn ok al cq nn hs one sts thr pl dgs la sev lf md nin a1 b1 sm elv sN rg thi sx sy rx ry uq us ov) {a : Act} {w : World} (h : Has 602 a [(1, (vS A1 l1 c1)), (5, (vI mo)), (6, (vI dg)), (7, (vI cn)), (8, (vB ok))]) (hw : FS1 l1 c1 A1 w0 w) : B110.wp Tryd.prog (Ql w0) a w := by
  refine wp_seq ?_
  exact region_ (obs := [.call 7 [(vI mo), (vI dg)] (.tuple #[(vI cn), (vB ok)])]) (by kernel_rfl) mix rfl FS1.stays ⟨⟨⟨_, Tryd.func7, by kernel_rfl, by kernel_rfl⟩, fun w hw => FS1.stays.callsD hw (spec_CountDigit.calls _ _ _ _ _ _ (H.f5_2))⟩, trivial⟩ h hw fun a w h hw => t109 H h hw
theorem t111 (H : Facts kk l0 l1 mo dg cn ok al cq nn hs one sts thr pl dgs la sev lf md nin a1 b1 sm elv sN rg thi sx sy rx ry uq us ov) {a : Act} {w : World} (h : Has 602 a [(1, (vS A1 l1 c1)), (5, (vI mo)), (6, (vI dg))]) (hw : FS1 l1 c1 A1 w0 w) : B111.wp Tryd.prog (Ql w0) a w := by
  refine wp_seq ?_
  exact region_ (obs := [.call 6 [(vI mo), (vI dg)] (.tuple #[(vI cn), (vB ok)])]) (by kernel_rfl) mix rfl FS1.stays ⟨⟨⟨_, Tryd.func6, by kernel_rfl, by kernel_rfl⟩, fun w hw => FS1.stays.callsD hw (impl_CountDigit.calls _ _ _ _ _ _ (H.f4_2))⟩, trivial⟩ h hw fun a w h hw => t110 H h hw
theorem t112 (H : Facts kk l0 l1 mo dg cn ok al cq nn hs one sts thr pl dgs la sev lf md nin a1 b1 sm elv sN rg thi sx sy rx ry uq us ov) {a : Act} {w : World} (h : Has 602 a [(0, (vS A0 l0 c0)), (1, (vS A1 l1 c1))]) (hw : FS0 l0 l1 c0 c1 A0 A1 w0 w) : B112.wp Tryd.prog (Ql w0) a w := by
  refine wp_seq ?_
  exact region_ (obs := [.call 5 [(vS A0 l0 c0)] (.tuple #[(vI mo), (vI dg)])]) (by kernel_rfl) mix rfl FS0.stays ⟨⟨⟨_, Tryd.func5, by kernel_rfl, by kernel_rfl⟩, fun w hw => FS0.stays.calls hw (spec_DrawCountDigit.calls _ _ _ _ _ _ (hw.2.2.1) (hw.2.2.2.1) (H.f3_1))⟩, trivial⟩ h hw fun a w h hw => t111 H h (let ⟨p,q,_,_,r⟩ := hw; ⟨p,q,r⟩)
theorem t113 (H : Facts kk l0 l1 mo dg cn ok al cq nn hs one sts thr pl dgs la sev lf md nin a1 b1 sm elv sN rg thi sx sy rx ry uq us ov) (hbig : laws_big.f l0 l1 = some false) {a : Act} {w : World} (h : Has 602 a [(0, (vS A0 l0 c0)), (1, (vS A1 l1 c1))]) (hw : FS0 l0 l1 c0 c1 A0 A1 w0 w) : B113.wp Tryd.prog (Ql w0) a w := by
  refine wp_seq ?_
  refine wp_seq ?_
  refine region_ (K := [(0, (vS A0 l0 c0)), (1, (vS A1 l1 c1)), (73, (vB false))]) (obs := [.call 4 [(vS A0 l0 c0), (vS A1 l1 c1)] (vB false)]) (by kernel_rfl) mix rfl FS0.stays ⟨⟨⟨_, Tryd.func4, by kernel_rfl, by kernel_rfl⟩, fun w hw => FS0.stays.callsD hw (laws_big.calls _ _ _ _ _ _ _ _ (hw.2.2.1) (hw.2.2.2.1) (hw.2.2.2.2.1) (hw.2.2.2.2.2) hbig)⟩, trivial⟩ h hw ?_
  clear h hw
  intro a w h hw
  show Code.wp _ (Code.cond (tm 73) B0 Code.skip) _ _ _
  refine wp_cond_false (h.opd (by kernel_rfl)) ?_
  refine wp_skip ?_
  exact t112 H (h.cut (by kernel_rfl)) hw
theorem t114 (H : Facts kk l0 l1 mo dg cn ok al cq nn hs one sts thr pl dgs la sev lf md nin a1 b1 sm elv sN rg thi sx sy rx ry uq us ov) (hbig : laws_big.f l0 l1 = some false) {a : Act} {w : World} (h : Has 602 a [(0, (vS A0 l0 c0)), (1, (vS A1 l1 c1))]) (hw : FS0 l0 l1 c0 c1 A0 A1 w0 w) : B114.wp Tryd.prog (Ql w0) a w := by
  refine wp_seq ?_
  exact region_ (obs := []) (by kernel_rfl) mix rfl FS0.stays trivial h hw fun a w h hw => t113 H hbig h hw
theorem u0T {a : Act} {w : World} (h : Has 602 a []) (hw : FS8 w0 w) : B0.wp Tryd.prog (Exit.then (fun a w => Code.wp Tryd.prog B112 (Ql w0) a w) (Ql w0)) a w := by
  refine wp_seq ?_
  refine region_ (K := [(4, (vB true))]) (obs := []) (by kernel_rfl) mix rfl FS8.stays trivial h hw ?_
  clear h hw
  intro a w h hw
  show Code.wp _ Code.ret _ _ _
  refine wp_ret ?_
  exact post_ h rfl (hw.1)
theorem u113T (hbig : laws_big.f l0 l1 = some true) {a : Act} {w : World} (h : Has 602 a [(0, (vS A0 l0 c0)), (1, (vS A1 l1 c1))]) (hw : FS0 l0 l1 c0 c1 A0 A1 w0 w) : B113.wp Tryd.prog (Ql w0) a w := by
  refine wp_seq ?_
  refine wp_seq ?_
  refine region_ (K := [(0, (vS A0 l0 c0)), (1, (vS A1 l1 c1)), (73, (vB true))]) (obs := [.call 4 [(vS A0 l0 c0), (vS A1 l1 c1)] (vB true)]) (by kernel_rfl) mix rfl FS0.stays ⟨⟨⟨_, Tryd.func4, by kernel_rfl, by kernel_rfl⟩, fun w hw => FS0.stays.callsD hw (laws_big.calls _ _ _ _ _ _ _ _ (hw.2.2.1) (hw.2.2.2.1) (hw.2.2.2.2.1) (hw.2.2.2.2.2) hbig)⟩, trivial⟩ h hw ?_
  clear h hw
  intro a w h hw
  show Code.wp _ (Code.cond (tm 73) B0 Code.skip) _ _ _
  refine wp_cond_true (h.opd (by kernel_rfl)) ?_
  exact u0T (h.cut (by kernel_rfl)) ⟨hw.1, hw.2.1⟩
theorem u114T (hbig : laws_big.f l0 l1 = some true) {a : Act} {w : World} (h : Has 602 a [(0, (vS A0 l0 c0)), (1, (vS A1 l1 c1))]) (hw : FS0 l0 l1 c0 c1 A0 A1 w0 w) : B114.wp Tryd.prog (Ql w0) a w := by
  refine wp_seq ?_
  exact region_ (obs := []) (by kernel_rfl) mix rfl FS0.stays trivial h hw fun a w h hw => u113T hbig h hw
theorem calls_small {kk : Nat} {l0 : List Int} {l1 : List Int} {mo : Int} {dg : Int} {cn : Int} {ok : Bool} {al : Int} {cq : Nat → Int} {nn : Int} {hs : Int} {one : Bool} {sts : List (List Int)} {thr : Bool} {pl : Int} {dgs : Int} {la : Int} {sev : Bool} {lf : List Int} {md : Int} {nin : Bool} {a1 : Int} {b1 : Int} {sm : Int} {elv : Bool} {sN : Int} {rg : List (List Int)} {thi : Bool} {sx : Nat → Int} {sy : Nat → Int} {rx : Nat → Int} {ry : Nat → Int} {uq : Nat → Int} {us : Int} {ov : Int} {A0 : Option Addr} {c0 : Nat} {A1 : Option Addr} {c1 : Nat} (H : Facts kk l0 l1 mo dg cn ok al cq nn hs one sts thr pl dgs la sev lf md nin a1 b1 sm elv sN rg thi sx sy rx ry uq us ov) (hbig : laws_big.f l0 l1 = some false) (w0 : World) (hV : VarsOK w0) (hr0 : Kd.C (Kd.int .u8) w0 A0 l0.length l0) (hc0 : l0.length ≤ c0) (hr1 : Kd.C (Kd.int .u8) w0 A1 l1.length l1) (hc1 : l1.length ≤ c1) :
    Calls Tryd.prog 3 #[.slice A0 l0.length c0, .slice A1 l1.length c1] w0 fun e w' => e = .returned (.bool true) ∧ Below w0.heap.size w0 w' := by
  refine calls_of_wp Tryd.func3 body_eq ?_
  have h0 : Has 602 { tmps := #[.slice A0 l0.length c0, .slice A1 l1.length c1] ++ Array.replicate (Tryd.f3.ntmps - 2) undef, defers := [] } [(0, (vS A0 l0 c0)), (1, (vS A1 l1 c1))] := by
    refine ⟨by rw [Tryd.ntmps3]; simp, rfl, fun i v hl => ?_⟩
    match i, hl with
    | 0, hl => cases hl; simp
    | 1, hl => cases hl; simp
    | i + 2, hl => cases hl
  have hw0 : FS0 l0 l1 c0 c1 A0 A1 w0 w0 := ⟨Below.refl _ _, hV, hr0, hc0, hr1, hc1⟩
  exact t114 H hbig h0 ⟨hw0.1, hw0.2.1, hw0.2.2.1, hw0.2.2.2.1, hw0.2.2.2.2.1, hw0.2.2.2.2.2⟩
theorem calls_big {l0 : List Int} {l1 : List Int} {A0 : Option Addr} {c0 : Nat} {A1 : Option Addr} {c1 : Nat} (hbig : laws_big.f l0 l1 = some true) (w0 : World) (hV : VarsOK w0) (hr0 : Kd.C (Kd.int .u8) w0 A0 l0.length l0) (hc0 : l0.length ≤ c0) (hr1 : Kd.C (Kd.int .u8) w0 A1 l1.length l1) (hc1 : l1.length ≤ c1) :
    Calls Tryd.prog 3 #[.slice A0 l0.length c0, .slice A1 l1.length c1] w0 fun e w' => e = .returned (.bool true) ∧ Below w0.heap.size w0 w' := by
  refine calls_of_wp Tryd.func3 body_eq ?_
  have h0 : Has 602 { tmps := #[.slice A0 l0.length c0, .slice A1 l1.length c1] ++ Array.replicate (Tryd.f3.ntmps - 2) undef, defers := [] } [(0, (vS A0 l0 c0)), (1, (vS A1 l1 c1))] := by
    refine ⟨by rw [Tryd.ntmps3]; simp, rfl, fun i v hl => ?_⟩
    match i, hl with
    | 0, hl => cases hl; simp
    | 1, hl => cases hl; simp
    | i + 2, hl => cases hl
  have hw0 : FS0 l0 l1 c0 c1 A0 A1 w0 w0 := ⟨Below.refl _ _, hV, hr0, hc0, hr1, hc1⟩
  exact u114T hbig h0 ⟨hw0.1, hw0.2.1, hw0.2.2.1, hw0.2.2.2.1, hw0.2.2.2.2.1, hw0.2.2.2.2.2⟩
end Go.Proofs.YtihmjhchiomgbaaDoor.GFnPlatesMade
