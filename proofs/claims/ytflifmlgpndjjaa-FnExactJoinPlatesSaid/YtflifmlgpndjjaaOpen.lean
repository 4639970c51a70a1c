/- A slice of structs of two whole numbers that came in: its elements as a list. Plain lemmas, of no program. -/
import Derived.Deep.Slices
import Derived.Deep.Fields
import Derived.ChangeSame
import Derived.SizedLaws
import Derived.Test.YtflifmlgpndjjaaWWords
namespace Go.Proofs.Ytflifmlgpndjjaa.Open
open Go.ChangeShapes Go.WideShapes Go.Deep Go.RowKit Go.Proofs.YtflifmlgpndjjaaW.PrintWords
section
variable {H : Type} {enc : TypeId × Value → H} {P : Program} {w : World} {base : Nat} {spare : Nat → Bool} {held : Bool}
theorem open_slice_fields {t e : TypeId} {fs : Array Field} {fuel : Nat} {cs : List Value} {x : DataW H × List MemPlace} (ht : P.underlying t = some (.slice e)) (he : P.underlying e = some (.struct fs))
    (hone : oneCellFields P fs = true) (hC : P.cellsOf e = fs.size) (h : DataW.trod enc P w base spare held fuel t cs = some x) :
    (cs = [.slice none 0 0] ∧ x = (.nil, [])) ∨
    ∃ (a : Addr) (len cap m : Nat) (D : Nat → DataW H) (Pl : Nat → List MemPlace), cs = [.slice (some a) len cap] ∧ base ≤ a.block ∧ len ≤ cap ∧ cap ≤ maxLen ∧ m = (if spare a.block then cap else len) ∧
      x = (.slice ((List.range len).map D) ((List.range (m - len)).map fun j => D (len + j)), MemPlace.row a (m * fs.size) ++ (List.range m).flatMap Pl) ∧
      ∀ i, i < m → ∃ (ys : List (DataW H × List MemPlace)) (n : Nat), D i = .agg (ys.map (·.1)) ∧ Pl i = ys.flatMap (·.2) ∧ ys.length = fs.size ∧
        ∀ (j : Nat) (f : Field), fs[j]? = some f → ∃ (v : Value) (y : DataW H × List MemPlace), w.cell? (a.add (i * fs.size + j)) = some v ∧ ys[j]? = some y ∧ DataW.trod enc P w base spare held n f.type [v] = some y := by
  rcases open_slice ht h with h0 | ⟨a, len, cap, m, n, D, Pl, hcs, hb, hl, hm, hmm, hx, hi⟩
  · exact .inl h0
  · refine .inr ⟨a, len, cap, m, D, Pl, hcs, hb, hl, hm, hmm, by rw [hC] at hx; exact hx, fun i him => ?_⟩
    obtain ⟨cs', hc, ht'⟩ := hi i him
    rw [hC] at hc
    obtain ⟨ys, n', hn', hy, hlen, hyl, hf⟩ := DataW.trod_struct he ht'
    obtain ⟨_, hcl, hat⟩ := World.cells?_some hc
    simp only [Prod.mk.injEq] at hy
    refine ⟨ys, n', hy.1, hy.2, hyl, fun j f hj => ?_⟩
    obtain ⟨ho, hk⟩ := hone_of hone j f hj
    have hjl : j < fs.size := (Array.getElem?_eq_some_iff.1 hj).1
    have hcell := hat j hjl
    have hv : cs'[j]? = some (cs'[j]'(by omega)) := List.getElem?_eq_getElem (by omega)
    have h1 := hf j f hj
    rw [ho, hk] at h1
    have hone' : (cs'.drop j).take 1 = [cs'[j]'(by omega)] := by
      rw [List.drop_eq_getElem_cons (by omega)]
      rfl
    rw [hone'] at h1
    have hys : ys[j]? = some (ys[j]'(by omega)) := List.getElem?_eq_getElem (by omega)
    refine ⟨_, _, ?_, hys, h1.trans hys⟩
    rw [← Go.Deep.add_add, hcell, hv]
theorem open_plates {α : Type} (mk : Int → Int → α) (f : α → Int × Int) (hmk : ∀ a b, f (mk a b) = (a, b)) {t e : TypeId} {f0 f1 : Field} {a : Option Addr} {len cap : Nat} {d : DataW H} {ps : List MemPlace} {ts : List TypeId} {ds : List (DataW H)} {j : Nat}
    (hsz : (DataW.weightsEach P ts ds).all (· ≤ reachBytes) = true) (ht : ts[j]? = some t) (hd : ds[j]? = some d) (hu : P.underlying t = some (.slice e)) (he : P.underlying e = some (.struct #[f0, f1]))
    (hone : oneCellFields P #[f0, f1] = true) (hC : P.cellsOf e = 2) (h0 : P.underlying f0.type = some (.int .i64)) (h1 : P.underlying f1.type = some (.int .i64)) (hB : P.bytesOf e = 16)
    (h : DataW.Trod enc P w base spare held t (.slice a len cap) d ps) :
    ∃ l : List α, len = l.length ∧ l.length ≤ cap ∧ (Kd.iso (Kd.pair (Kd.int .i64) (Kd.int .i64)) f).C w a l.length l ∧ (∀ x ∈ l, (Lit.int .i64 (f x).1).wf = true ∧ (Lit.int .i64 (f x).2).wf = true) ∧ l.length * 16 ≤ 140737488351232 := by
  obtain ⟨fuel, hf⟩ := h
  rcases open_slice_fields hu he hone hC hf with ⟨hcs, _⟩ | ⟨x, l, c, m, D, Pl, hcs, hb, hl, hm, hmm, hx, hi⟩
  · simp [Value.cells] at hcs
    obtain ⟨rfl, rfl, rfl⟩ := hcs
    exact ⟨[], rfl, Nat.zero_le _, ⟨rfl, Nat.zero_le _, fun hn => absurd hn (Nat.lt_irrefl 0)⟩, fun x hx => (List.not_mem_nil hx).elim, Nat.zero_le _⟩
  · simp [Value.cells] at hcs
    obtain ⟨rfl, rfl, rfl⟩ := hcs
    have hlm : len ≤ m := by
      rw [hmm]
      split
      · exact hl
      · exact Nat.le_refl _
    have cell : ∀ i, ∃ q : Int × Int, i < m → w.cell? (x.add (i * 2)) = some (.int .i64 q.1) ∧ w.cell? (x.add (i * 2 + 1)) = some (.int .i64 q.2) ∧ (Lit.int .i64 q.1).wf = true ∧ (Lit.int .i64 q.2).wf = true := by
      intro i
      by_cases him : i < m
      · obtain ⟨ys, n, _, _, _, hg⟩ := hi i him
        obtain ⟨u0, y0, hc0, _, ht0⟩ := hg 0 f0 rfl
        obtain ⟨u1, y1, hc1, _, ht1⟩ := hg 1 f1 rfl
        obtain ⟨a0, e0, _, w0⟩ := DataW.trod_int h0 ht0
        obtain ⟨a1, e1, _, w1⟩ := DataW.trod_int h1 ht1
        simp at e0 e1
        subst e0 e1
        exact ⟨(a0, a1), fun _ => ⟨hc0, hc1, w0, w1⟩⟩
      · exact ⟨(0, 0), fun q => absurd q him⟩
    obtain ⟨g, hg⟩ := Classical.axiomOfChoice cell
    have hlen : ((List.range len).map fun i => mk (g i).1 (g i).2).length = len := by simp
    refine ⟨(List.range len).map fun i => mk (g i).1 (g i).2, hlen.symm, by rw [hlen]; exact hl, ?_, ?_, ?_⟩
    · rw [hlen]
      refine ⟨hlen, by unfold maxLen at hm; omega, fun _ => ⟨x, rfl, fun j p hj => ?_⟩⟩
      rw [List.getElem?_map] at hj
      have hjl : j < len := by
        by_cases q : j < len
        · exact q
        · rw [List.getElem?_eq_none (by simpa using q)] at hj
          simp at hj
      rw [List.getElem?_eq_getElem (by simpa using hjl)] at hj
      simp only [List.getElem_range, Option.map_some, Option.some.injEq] at hj
      obtain ⟨c0, c1, _, _⟩ := hg j (by omega)
      refine ⟨[.int .i64 (g j).1, .int .i64 (g j).2], rfl, ?_, fun i u hiu => ?_⟩
      · show (Kd.pair (Kd.int .i64) (Kd.int .i64)).K w (f p) _
        rw [← hj, hmk]
        exact ⟨[.int .i64 (g j).1], [.int .i64 (g j).2], rfl, rfl, rfl⟩
      · show w.cell? (x.add (j * 2 + i)) = some u
        match i with
        | 0 =>
          simp at hiu
          rw [← hiu]; exact c0
        | 1 =>
          simp at hiu
          rw [← hiu]; exact c1
        | i + 2 => simp at hiu
    · intro y hy
      obtain ⟨i, hi', rfl⟩ := List.mem_map.1 hy
      rw [hmk]
      have := hg i (by have := List.mem_range.1 hi'; omega)
      exact ⟨this.2.2.1, this.2.2.2⟩
    · obtain ⟨hx1, _⟩ := Prod.mk.inj hx
      subst hx1
      have z := sized_slice hsz ht hd hu
      rw [hB] at z
      rw [hlen]
      have e1 : ((List.range len).map D).length = len := by simp
      rw [e1] at z
      exact Nat.le_trans (Nat.mul_le_mul_right _ (Nat.le_add_right _ _)) z
end
end Go.Proofs.Ytflifmlgpndjjaa.Open
