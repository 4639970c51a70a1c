/- A row of the call's own whose cells are laid anew (by a sort, by a reversal): it holds the new elements, all else is as it was. Plain lemmas, of no program. -/
import Derived.Shelf.GgSortFunc.InsertionK
import Derived.Test.YtihmjhchiomgbaaGreatDoorWKept
namespace Go.Proofs.YtihmjhchiomgbaaGreatDoor.RowPut
open Go.RowKit Go.Proofs.YtihmjhchiomgbaaGreatDoorW.PrintWords Go.Sort
set_option linter.unusedVariables false

theorem put_heap {w : World} {g : Nat} {cur : Array Value} {e : TypeId} (hh : w.heap[g]? = some (.cells cur e (0, 0))) (n : Nat) (F : Array Value) (os : Array Obj) (hF : F.size ≤ cur.size) :
    ∃ cur', (grow (putRow id (Sort.ahead w n) g 0 F) os).heap[g]? = some (.cells cur' e (0, 0)) ∧ cur'.size = cur.size ∧ cur'.toList.take F.size = F.toList := by
  have hlt : g < w.heap.size := blk_lt hh
  refine ⟨putCells id 0 F cur, ?_, by simp [putCells], ?_⟩
  · have h1 : (putRow id (Sort.ahead w n) g 0 F).heap[g]? = some (.cells (putCells id 0 F cur) e (0, 0)) := by
      show (w.heap.modify g _)[g]? = _
      rw [Array.getElem?_modify, if_pos rfl, hh]
      rfl
    show ((putRow id (Sort.ahead w n) g 0 F).heap ++ os)[g]? = _
    rw [Array.getElem?_append_left (blk_lt h1)]
    exact h1
  · apply List.ext_getElem
    · simp [putCells]; omega
    · intro i h1 h2
      have hi : i < F.size := by simpa using h2
      have hi2 : i < cur.size := by omega
      simp [putCells, hi]

theorem put_grown {β : Type} [Inhabited β] {enc : β → Value} (w : World) (g : Nat) (n : Nat) (F : Array β) (os : Array Obj) : w.grownBy (grow (putRow enc (Sort.ahead w n) g 0 F) os) (some g) := by
  have hs : (putRow enc (Sort.ahead w n) g 0 F).heap.size = w.heap.size := by show (w.heap.modify g _).size = _; simp
  refine ⟨rfl, rfl, rfl, ?_, fun k hk hne => ?_⟩
  · show w.heap.size ≤ ((putRow enc (Sort.ahead w n) g 0 F).heap ++ os).size
    rw [Array.size_append, hs]
    omega
  · show ((putRow enc (Sort.ahead w n) g 0 F).heap ++ os)[k]? = _
    rw [Array.getElem?_append_left (by rw [hs]; exact hk)]
    show (w.heap.modify g _)[k]? = _
    rw [Array.getElem?_modify, if_neg (fun h => hne (by rw [h]))]

section
variable {α β : Type} {d : Kd α} {d' : Kd β} {e base : Nat} {w : World} {ok : Nat → Prop} {u : Value} {xs : List α}

/-- The row's block and its cells. -/
theorem row_open (h : d.R e w base ok u xs) (hp : 0 < xs.length) :
    ∃ g cap cur, u = .slice (some ⟨g, 0, none⟩) xs.length cap ∧ base ≤ g ∧ ok g ∧ w.heap[g]? = some (.cells cur e (0, 0)) ∧ xs.length ≤ cap ∧ cap ≤ maxLen ∧ cur.size = cap * d.sz ∧ xs.length * d.sz ≤ cur.size ∧
      Reps (d.M w base (fun k => ok k ∧ some k ≠ u.ownBlock)) d.sz xs (cur.toList.take (xs.length * d.sz)) := by
  obtain ⟨hok, inner, hown, hr⟩ := h
  rcases hown.2 with ⟨_, h0⟩ | ⟨g, cap, cur, hv, hb, hh, hnc, hcm, hcs, htake⟩
  · omega
  · refine ⟨g, cap, cur, hv, hb, hok g (by rw [hv]; rfl), hh, hnc, hcm, hcs, ?_, ?_⟩
    · rw [hcs]; exact Nat.mul_le_mul_right _ hnc
    · rw [htake]; exact hr

/-- The cells laid anew. -/
theorem row_put {g cap : Nat} {cur : Array Value} {ys : List β} (hb : base ≤ g) (hg : ok g) (hh : w.heap[g]? = some (.cells cur e (0, 0))) (hnc : ys.length ≤ cap) (hcm : cap ≤ maxLen) (hcs : cur.size = cap * d'.sz) (n : Nat) (F : Array Value) (os : Array Obj) (hF : F.size = ys.length * d'.sz)
    (hr : Reps (d'.M (grow (putRow id (Sort.ahead w n) g 0 F) os) base (fun k => ok k ∧ k ≠ g)) d'.sz ys F.toList) :
    d'.R e (grow (putRow id (Sort.ahead w n) g 0 F) os) base ok (.slice (some ⟨g, 0, none⟩) ys.length cap) ys := by
  have hle : F.size ≤ cur.size := by rw [hF, hcs]; exact Nat.mul_le_mul_right _ hnc
  obtain ⟨cur', h1, h2, h3⟩ := put_heap hh n F os hle
  refine ⟨fun k hk => ?_, F.toList, ⟨by simp [hF], .inr ⟨g, cap, cur', rfl, hb, h1, hnc, hcm, by rw [h2, hcs], by rw [← hF]; exact h3⟩⟩, hr.imp_ (fun p c hp => d'.M_mono (fun k hk => ⟨hk.1, fun he => hk.2 ?_⟩) hp)⟩
  · simp [Value.ownBlock] at hk
    subst hk
    exact hg
  · simpa [Value.ownBlock] using he
end

/-! ### Elements of k cells that say nothing of the world -/
section
variable {α : Type} [Inhabited α] {d : Kd α} {enc : α → List Value} {e base : Nat} {w : World} {ok : Nat → Prop} {u : Value} {xs : List α}
end

/-! ### Elements of one cell that say nothing of the world -/
section
variable {α : Type} [Inhabited α] {d : Kd α} {enc : α → Value} {e base : Nat} {w : World} {ok : Nat → Prop} {u : Value} {xs : List α}
theorem putRow_id (enc : α → Value) (w : World) (g : Nat) (F : Array α) : putRow enc w g 0 F = putRow id w g 0 (F.map enc) := by
  unfold putRow
  refine mapBlock_congr w g _ _ fun c e fr hh => ?_
  unfold putCells
  apply Array.ext
  · simp
  · intro i h1 h2
    simp only [Array.getElem_mapIdx, Array.size_map]
    split
    · rename_i h
      have hi : i - 0 < F.size := by omega
      rw [getElem!_pos F _ hi, getElem!_pos (F.map enc) _ (by simpa using hi)]
      simp
    · rfl
theorem row_sort1 (hsz : d.sz = 1) (hM : ∀ w base ok x cs, d.M w base ok x cs ↔ cs = [enc x]) (h : d.R e w base ok u xs) (hp : 0 < xs.length) :
    ∃ g cap, u = .slice (some ⟨g, 0, none⟩) xs.length cap ∧ base ≤ g ∧ ok g ∧ g < w.heap.size ∧ Holds enc w g 0 xs.toArray ∧
      ∀ n os (dd : Array α), dd.size = xs.length → d.R e (grow (putRow enc (Sort.ahead w n) g 0 dd) os) base ok u dd.toList ∧ w.grownBy (grow (putRow enc (Sort.ahead w n) g 0 dd) os) (some g) := by
  obtain ⟨g, cap, cur, hv, hb, hg, hh, hnc, hcm, hcs, hle, hr⟩ := row_open h hp
  rw [hsz, Nat.mul_one] at hle hr
  refine ⟨g, cap, hv, hb, hg, blk_lt hh, fun j hj => ?_, fun n os dd hdd => ⟨?_, put_grown w g n dd os⟩⟩
  · have hj' : j < xs.length := by simpa using hj
    refine ⟨?_, blk_frozen hh _⟩
    rw [blk_cell hh, Nat.zero_add]
    have h2 := (hM _ _ _ _ _).1 (hr.2 j xs[j] (List.getElem?_eq_getElem hj'))
    have hjc : j < cur.size := by omega
    rw [Nat.mul_one, List.drop_eq_getElem_cons (by simp; omega)] at h2
    simp only [List.take_succ_cons, List.take_zero, List.cons.injEq, and_true] at h2
    rw [getElem!_pos xs.toArray j (by simpa using hj')]
    rw [List.getElem_take, Array.getElem_toList] at h2
    rw [Array.getElem?_eq_getElem hjc, h2]
    simp
  · have hnl : dd.toList.length = xs.length := by simp [hdd]
    rw [putRow_id]
    have := row_put (d' := d) (ok := ok) (ys := dd.toList) (cap := cap) hb hg hh (by rw [hnl]; exact hnc) hcm hcs n (dd.map enc) os (by simp [hsz])
      (by
        rw [hsz]
        refine ⟨by simp, fun j p hj => ?_⟩
        rw [hM, Nat.mul_one]
        obtain ⟨hj2, hx⟩ := List.getElem?_eq_some_iff.1 hj
        have hj3 : j < dd.size := by simpa using hj2
        rw [List.drop_eq_getElem_cons (by simpa using hj3)]
        simp only [List.take_succ_cons, List.take_zero, Array.getElem_toList, Array.getElem_map]
        rw [← hx]
        simp)
    rw [hnl, ← hv] at this
    exact this
end

/-! ### A row of one-cell elements that lie apart, turned round -/
section
variable {α : Type} {d : Kd α} {e base : Nat} {w : World} {ok : Nat → Prop} {u : Value} {xs : List α}
end
end Go.Proofs.YtihmjhchiomgbaaGreatDoor.RowPut
