/- A row of the call's own whose cells are laid anew (by a sort, by a reversal): it holds the new elements, all else is as it was. Plain lemmas, of no program. -/
import Derived.Shelf.GgSortFunc.InsertionK
import Derived.Test.YtbnhfipcjbnknaaWKept
namespace Go.Proofs.Ytbnhfipcjbnknaa.RowPut
open Go.RowKit Go.Proofs.YtbnhfipcjbnknaaW.PrintWords Go.Sort
set_option linter.unusedVariables false

theorem put_heap {w : World} {g : Nat} {cur : Array Value} {e : TypeId} (hh : w.heap[g]? = some (.cells cur e (0, 0))) (n : Nat) (F : Array Value) (os : Array Obj) (hF : F.size ≤ cur.size) :
    ∃ cur', (grow (putRow id (Sort.ahead w n) g 0 F) os).heap[g]? = some (.cells cur' e (0, 0)) ∧ cur'.size = cur.size ∧ cur'.toList.take F.size = F.toList := by
  have hlt : g < w.heap.size := blk_lt hh
  refine ⟨putCells id 0 F cur, ?_, by simp [putCells], ?_⟩
  · have h1 : (putRow id (Sort.ahead w n) g 0 F).heap[g]? = some (.cells (putCells id 0 F cur) e (0, 0)) := by
      show (w.heap.modify g _)[g]? = _
      rw [Array.getElem?_modify, if_pos rfl, hh]
      rfl
    show ((putRow id (Sort.ahead w n) g 0 F).heap ++ os)[g]? = _
    rw [Array.getElem?_append_left (blk_lt h1)]
    exact h1
  · apply List.ext_getElem
    · simp [putCells]; omega
    · intro i h1 h2
      have hi : i < F.size := by simpa using h2
      have hi2 : i < cur.size := by omega
      simp [putCells, hi]

theorem put_grown {β : Type} [Inhabited β] {enc : β → Value} (w : World) (g : Nat) (n : Nat) (F : Array β) (os : Array Obj) : w.grownBy (grow (putRow enc (Sort.ahead w n) g 0 F) os) (some g) := by
  have hs : (putRow enc (Sort.ahead w n) g 0 F).heap.size = w.heap.size := by show (w.heap.modify g _).size = _; simp
  refine ⟨rfl, rfl, rfl, ?_, fun k hk hne => ?_⟩
  · show w.heap.size ≤ ((putRow enc (Sort.ahead w n) g 0 F).heap ++ os).size
    rw [Array.size_append, hs]
    omega
  · show ((putRow enc (Sort.ahead w n) g 0 F).heap ++ os)[k]? = _
    rw [Array.getElem?_append_left (by rw [hs]; exact hk)]
    show (w.heap.modify g _)[k]? = _
    rw [Array.getElem?_modify, if_neg (fun h => hne (by rw [h]))]

section
variable {α β : Type} {d : Kd α} {d' : Kd β} {e base : Nat} {w : World} {ok : Nat → Prop} {u : Value} {xs : List α}

/-- The row's block and its cells. -/
theorem row_open (h : d.R e w base ok u xs) (hp : 0 < xs.length) :
    ∃ g cap cur, u = .slice (some ⟨g, 0, none⟩) xs.length cap ∧ base ≤ g ∧ ok g ∧ w.heap[g]? = some (.cells cur e (0, 0)) ∧ xs.length ≤ cap ∧ cap ≤ maxLen ∧ cur.size = cap * d.sz ∧ xs.length * d.sz ≤ cur.size ∧
      Reps (d.M w base (fun k => ok k ∧ some k ≠ u.ownBlock)) d.sz xs (cur.toList.take (xs.length * d.sz)) := by
  obtain ⟨hok, inner, hown, hr⟩ := h
  rcases hown.2 with ⟨_, h0⟩ | ⟨g, cap, cur, hv, hb, hh, hnc, hcm, hcs, htake⟩
  · omega
  · refine ⟨g, cap, cur, hv, hb, hok g (by rw [hv]; rfl), hh, hnc, hcm, hcs, ?_, ?_⟩
    · rw [hcs]; exact Nat.mul_le_mul_right _ hnc
    · rw [htake]; exact hr

/-- The cells laid anew. -/
theorem row_put {g cap : Nat} {cur : Array Value} {ys : List β} (hb : base ≤ g) (hg : ok g) (hh : w.heap[g]? = some (.cells cur e (0, 0))) (hnc : ys.length ≤ cap) (hcm : cap ≤ maxLen) (hcs : cur.size = cap * d'.sz) (n : Nat) (F : Array Value) (os : Array Obj) (hF : F.size = ys.length * d'.sz)
    (hr : Reps (d'.M (grow (putRow id (Sort.ahead w n) g 0 F) os) base (fun k => ok k ∧ k ≠ g)) d'.sz ys F.toList) :
    d'.R e (grow (putRow id (Sort.ahead w n) g 0 F) os) base ok (.slice (some ⟨g, 0, none⟩) ys.length cap) ys := by
  have hle : F.size ≤ cur.size := by rw [hF, hcs]; exact Nat.mul_le_mul_right _ hnc
  obtain ⟨cur', h1, h2, h3⟩ := put_heap hh n F os hle
  refine ⟨fun k hk => ?_, F.toList, ⟨by simp [hF], .inr ⟨g, cap, cur', rfl, hb, h1, hnc, hcm, by rw [h2, hcs], by rw [← hF]; exact h3⟩⟩, hr.imp_ (fun p c hp => d'.M_mono (fun k hk => ⟨hk.1, fun he => hk.2 ?_⟩) hp)⟩
  · simp [Value.ownBlock] at hk
    subst hk
    exact hg
  · simpa [Value.ownBlock] using he
end

/-! ### Elements of k cells that say nothing of the world -/
section
variable {α : Type} [Inhabited α] {d : Kd α} {enc : α → List Value} {e base : Nat} {w : World} {ok : Nat → Prop} {u : Value} {xs : List α}
theorem flat_drop (k : Nat) (hk0 : 0 < k) (hk : ∀ x, (enc x).length = k) (dd : Array α) (j : Nat) (x : α) (h : dd.toList[j]? = some x) : ((flatK enc k dd).toList.drop (j * k)).take k = enc x := by
  obtain ⟨hj, hx⟩ := List.getElem?_eq_some_iff.1 h
  have hj' : j < dd.size := by simpa using hj
  have hle : j * k + k ≤ dd.size * k := by
    have := Nat.mul_le_mul_right k (show j + 1 ≤ dd.size from hj')
    rwa [Nat.add_mul, Nat.one_mul] at this
  apply List.ext_getElem
  · simp [hk]; omega
  · intro i h1 h2
    have hi : i < k := by rw [hk] at h2; exact h2
    rw [List.getElem_take, List.getElem_drop, Array.getElem_toList]
    have hlt : j * k + i < dd.size * k := by omega
    have hf := get_flatK enc k dd (j * k + i) hlt
    rw [getElem!_pos _ _ (by rw [size_flatK]; exact hlt)] at hf
    rw [hf]
    have e1 : (j * k + i) / k = j := by
      rw [Nat.mul_comm, Nat.mul_add_div hk0, Nat.div_eq_of_lt hi]; omega
    have e2 : (j * k + i) % k = i := by
      rw [Nat.mul_comm, Nat.mul_add_mod, Nat.mod_eq_of_lt hi]
    rw [e1, e2, getElem!_pos dd j hj']
    have hx' : dd[j] = x := by rw [← hx]; simp
    rw [hx', getElem!_pos (enc x) i h2]
theorem reps_flat (k : Nat) (hk0 : 0 < k) (hk : ∀ x, (enc x).length = k) (R : α → List Value → Prop) (hR : ∀ x, R x (enc x)) (dd : Array α) : Reps R k dd.toList (flatK enc k dd).toList := by
  refine ⟨by simp, fun j p hj => ?_⟩
  rw [flat_drop k hk0 hk dd j p hj]
  exact hR p

/-- The row for a sort's contract, and behind it. -/
theorem row_sortK (k : Nat) (hk0 : 0 < k) (hsz : d.sz = k) (hk : ∀ x, (enc x).length = k) (hM : ∀ w base ok x cs, d.M w base ok x cs ↔ cs = enc x) (h : d.R e w base ok u xs) (hp : 0 < xs.length) :
    ∃ g cap, u = .slice (some ⟨g, 0, none⟩) xs.length cap ∧ base ≤ g ∧ ok g ∧ g < w.heap.size ∧ HoldsK enc k w g 0 xs.toArray ∧
      ∀ n os (dd : Array α), dd.size = xs.length → d.R e (sortWorldK enc k w g 0 n dd os) base ok u dd.toList ∧ w.grownBy (sortWorldK enc k w g 0 n dd os) (some g) := by
  obtain ⟨g, cap, cur, hv, hb, hg, hh, hnc, hcm, hcs, hle, hr⟩ := row_open h hp
  refine ⟨g, cap, hv, hb, hg, blk_lt hh, fun j hj => ?_, fun n os dd hdd => ⟨?_, put_grown w g n (flatK enc k dd) os⟩⟩
  · rw [size_flatK] at hj
    have hj' : j < xs.length * k := by simpa using hj
    have hjd : j / k < xs.length := Nat.div_lt_of_lt_mul (by rwa [Nat.mul_comm] at hj')
    have hjm : j % k < k := Nat.mod_lt _ hk0
    have hje : j / k * k + j % k = j := by rw [Nat.mul_comm]; exact Nat.div_add_mod j k
    refine ⟨?_, blk_frozen hh _⟩
    rw [blk_cell hh, get_flatK enc k xs.toArray j (by simpa using hj')]
    have h2 := (hM _ _ _ _ _).1 (hr.2 (j / k) xs[j / k] (List.getElem?_eq_getElem hjd))
    rw [hsz] at h2
    have h3 : (enc xs[j / k])[j % k]? = cur[j]? := by
      rw [← h2, List.getElem?_take, if_pos hjm, List.getElem?_drop, hje, List.getElem?_take, if_pos hj', Array.getElem?_toList]
    rw [Nat.zero_add, ← h3, getElem!_pos xs.toArray (j / k) (by simpa using hjd)]
    have hl : j % k < (enc xs[j / k]).length := by rw [hk]; exact hjm
    simp [getElem!_pos, hl]
  · have hnl : dd.toList.length = xs.length := by simp [hdd]
    have := row_put (d' := d) (ok := ok) (ys := dd.toList) (cap := cap) hb hg hh (by rw [hnl]; exact hnc) hcm hcs n (flatK enc k dd) os (by rw [size_flatK, hsz]; simp)
      (by rw [hsz]; exact reps_flat k hk0 hk _ (fun x => (hM _ _ _ _ _).2 rfl) dd)
    rw [hnl, ← hv] at this
    exact this
end

/-! ### Elements of one cell that say nothing of the world -/
section
variable {α : Type} [Inhabited α] {d : Kd α} {enc : α → Value} {e base : Nat} {w : World} {ok : Nat → Prop} {u : Value} {xs : List α}
end

/-! ### A row of one-cell elements that lie apart, turned round -/
section
variable {α : Type} {d : Kd α} {e base : Nat} {w : World} {ok : Nat → Prop} {u : Value} {xs : List α}
end
end Go.Proofs.Ytbnhfipcjbnknaa.RowPut
