/- A row of the call's own whose cells are laid anew (by a sort, by a reversal): it holds the new elements, all else is as it was. Plain lemmas, of no program. -/
import Derived.Shelf.GgSortFunc.InsertionK
import Derived.Test.YtihmjhchiomgbaaDoorWKept
namespace Go.Proofs.YtihmjhchiomgbaaDoor.RowPut
open Go.RowKit Go.Proofs.YtihmjhchiomgbaaDoorW.PrintWords Go.Sort
set_option linter.unusedVariables false

theorem put_heap {w : World} {g : Nat} {cur : Array Value} {e : TypeId} (hh : w.heap[g]? = some (.cells cur e (0, 0))) (n : Nat) (F : Array Value) (os : Array Obj) (hF : F.size ≤ cur.size) :
    ∃ cur', (grow (putRow id (Sort.ahead w n) g 0 F) os).heap[g]? = some (.cells cur' e (0, 0)) ∧ cur'.size = cur.size ∧ cur'.toList.take F.size = F.toList := by
  have hlt : g < w.heap.size := blk_lt hh
  refine ⟨putCells id 0 F cur, ?_, by simp [putCells], ?_⟩
  · have h1 : (putRow id (Sort.ahead w n) g 0 F).heap[g]? = some (.cells (putCells id 0 F cur) e (0, 0)) := by
      show (w.heap.modify g _)[g]? = _
      rw [Array.getElem?_modify, if_pos rfl, hh]
      rfl
    show ((putRow id (Sort.ahead w n) g 0 F).heap ++ os)[g]? = _
    rw [Array.getElem?_append_left (blk_lt h1)]
    exact h1
  · apply List.ext_getElem
    · simp [putCells]; omega
    · intro i h1 h2
      have hi : i < F.size := by simpa using h2
      have hi2 : i < cur.size := by omega
      simp [putCells, hi]

theorem put_grown {β : Type} [Inhabited β] {enc : β → Value} (w : World) (g : Nat) (n : Nat) (F : Array β) (os : Array Obj) : w.grownBy (grow (putRow enc (Sort.ahead w n) g 0 F) os) (some g) := by
  have hs : (putRow enc (Sort.ahead w n) g 0 F).heap.size = w.heap.size := by show (w.heap.modify g _).size = _; simp
  refine ⟨rfl, rfl, rfl, ?_, fun k hk hne => ?_⟩
  · show w.heap.size ≤ ((putRow enc (Sort.ahead w n) g 0 F).heap ++ os).size
    rw [Array.size_append, hs]
    omega
  · show ((putRow enc (Sort.ahead w n) g 0 F).heap ++ os)[k]? = _
    rw [Array.getElem?_append_left (by rw [hs]; exact hk)]
    show (w.heap.modify g _)[k]? = _
    rw [Array.getElem?_modify, if_neg (fun h => hne (by rw [h]))]

section
variable {α β : Type} {d : Kd α} {d' : Kd β} {e base : Nat} {w : World} {ok : Nat → Prop} {u : Value} {xs : List α}

/-- The row's block and its cells. -/
theorem row_open (h : d.R e w base ok u xs) (hp : 0 < xs.length) :
    ∃ g cap cur, u = .slice (some ⟨g, 0, none⟩) xs.length cap ∧ base ≤ g ∧ ok g ∧ w.heap[g]? = some (.cells cur e (0, 0)) ∧ xs.length ≤ cap ∧ cap ≤ maxLen ∧ cur.size = cap * d.sz ∧ xs.length * d.sz ≤ cur.size ∧
      Reps (d.M w base (fun k => ok k ∧ some k ≠ u.ownBlock)) d.sz xs (cur.toList.take (xs.length * d.sz)) := by
  obtain ⟨hok, inner, hown, hr⟩ := h
  rcases hown.2 with ⟨_, h0⟩ | ⟨g, cap, cur, hv, hb, hh, hnc, hcm, hcs, htake⟩
  · omega
  · refine ⟨g, cap, cur, hv, hb, hok g (by rw [hv]; rfl), hh, hnc, hcm, hcs, ?_, ?_⟩
    · rw [hcs]; exact Nat.mul_le_mul_right _ hnc
    · rw [htake]; exact hr

/-- The cells laid anew. -/
theorem row_put {g cap : Nat} {cur : Array Value} {ys : List β} (hb : base ≤ g) (hg : ok g) (hh : w.heap[g]? = some (.cells cur e (0, 0))) (hnc : ys.length ≤ cap) (hcm : cap ≤ maxLen) (hcs : cur.size = cap * d'.sz) (n : Nat) (F : Array Value) (os : Array Obj) (hF : F.size = ys.length * d'.sz)
    (hr : Reps (d'.M (grow (putRow id (Sort.ahead w n) g 0 F) os) base (fun k => ok k ∧ k ≠ g)) d'.sz ys F.toList) :
    d'.R e (grow (putRow id (Sort.ahead w n) g 0 F) os) base ok (.slice (some ⟨g, 0, none⟩) ys.length cap) ys := by
  have hle : F.size ≤ cur.size := by rw [hF, hcs]; exact Nat.mul_le_mul_right _ hnc
  obtain ⟨cur', h1, h2, h3⟩ := put_heap hh n F os hle
  refine ⟨fun k hk => ?_, F.toList, ⟨by simp [hF], .inr ⟨g, cap, cur', rfl, hb, h1, hnc, hcm, by rw [h2, hcs], by rw [← hF]; exact h3⟩⟩, hr.imp_ (fun p c hp => d'.M_mono (fun k hk => ⟨hk.1, fun he => hk.2 ?_⟩) hp)⟩
  · simp [Value.ownBlock] at hk
    subst hk
    exact hg
  · simpa [Value.ownBlock] using he
end

/-! ### Elements of k cells that say nothing of the world -/
section
variable {α : Type} [Inhabited α] {d : Kd α} {enc : α → List Value} {e base : Nat} {w : World} {ok : Nat → Prop} {u : Value} {xs : List α}
end

/-! ### Elements of one cell that say nothing of the world -/
section
variable {α : Type} [Inhabited α] {d : Kd α} {enc : α → Value} {e base : Nat} {w : World} {ok : Nat → Prop} {u : Value} {xs : List α}
theorem putRow_id (enc : α → Value) (w : World) (g : Nat) (F : Array α) : putRow enc w g 0 F = putRow id w g 0 (F.map enc) := by
  unfold putRow
  refine mapBlock_congr w g _ _ fun c e fr hh => ?_
  unfold putCells
  apply Array.ext
  · simp
  · intro i h1 h2
    simp only [Array.getElem_mapIdx, Array.size_map]
    split
    · rename_i h
      have hi : i - 0 < F.size := by omega
      rw [getElem!_pos F _ hi, getElem!_pos (F.map enc) _ (by simpa using hi)]
      simp
    · rfl
end

/-! ### A row of one-cell elements that lie apart, turned round -/
section
variable {α : Type} {d : Kd α} {e base : Nat} {w : World} {ok : Nat → Prop} {u : Value} {xs : List α}
theorem row_rev_S (hsz : d.sz = 1) (h : Kd.S d e w base ok u xs) (hp : 0 < xs.length) :
    ∃ (g cap : Nat) (cs : List Value), u = .slice (some ⟨g, 0, none⟩) xs.length cap ∧ base ≤ g ∧ ok g ∧ g < w.heap.size ∧ cs.length = xs.length ∧ Holds id w g 0 cs.toArray ∧ (∀ v ∈ cs, v.oneCell' = true) ∧
      ∀ n, Kd.S d e (putRow id (Sort.ahead w n) g 0 cs.reverse.toArray) base ok u xs.reverse ∧ w.grownBy (putRow id (Sort.ahead w n) g 0 cs.reverse.toArray) (some g) := by
  obtain ⟨f, hR⟩ := h
  have hzl : xs.zipIdx.length = xs.length := List.length_zipIdx
  obtain ⟨g, cap, cur, hv, hb, hg, hh, hnc, hcm, hcs, hle, hr⟩ := row_open hR (by rw [hzl]; exact hp)
  have hts : (Kd.tag f d).sz = 1 := hsz
  rw [hzl] at hv hnc hle hr
  rw [hts, Nat.mul_one] at hle hr hcs
  have hcl : (cur.toList.take xs.length).length = xs.length := by simp; omega
  have hne : ∀ n F, grow (putRow id (Sort.ahead w n) g 0 F) #[] = putRow id (Sort.ahead w n) g 0 F := fun n F => grow_empty _
  have hM : ∀ j x, xs[j]? = some x → ∃ c, (cur.toList.take xs.length)[j]? = some c ∧ d.M w base (fun k => (ok k ∧ some k ≠ u.ownBlock) ∧ f k = j) x [c] := by
    intro j x hx
    have hj : j < xs.length := (List.getElem?_eq_some_iff.1 hx).1
    have h2 := hr.2 j (x, j) (Kd.zip_at hx)
    have hc : (cur.toList.take xs.length)[j]? = some ((cur.toList.take xs.length)[j]'(by omega)) := List.getElem?_eq_getElem (by omega)
    refine ⟨_, hc, ?_⟩
    have he : ((cur.toList.take xs.length).drop (j * 1)).take 1 = [(cur.toList.take xs.length)[j]'(by omega)] := by
      rw [Nat.mul_one, List.drop_eq_getElem_cons (by omega)]
      rfl
    rw [he] at h2
    exact h2
  refine ⟨g, cap, cur.toList.take xs.length, hv, hb, hg, blk_lt hh, hcl, fun j hj => ?_, fun v hvm => ?_, fun n => ⟨?_, ?_⟩⟩
  · have hj' : j < xs.length := by simpa [hcl] using hj
    refine ⟨?_, blk_frozen hh _⟩
    rw [blk_cell hh, Nat.zero_add]
    have hjc : j < cur.size := by omega
    simp [hjc, hj']
  · obtain ⟨j, hj, rfl⟩ := List.getElem_of_mem hvm
    have hj' : j < xs.length := by rw [hcl] at hj; exact hj
    obtain ⟨c, hc, hm⟩ := hM j xs[j] (List.getElem?_eq_getElem hj')
    rw [List.getElem?_eq_getElem hj] at hc
    rw [Option.some.inj hc]
    exact d.K_one (d.K_of_M hm) c (by simp)
  · have hgr := put_grown (enc := id) w g n (cur.toList.take xs.length).reverse.toArray #[]
    rw [hne] at hgr
    refine ⟨fun b => xs.length - 1 - f b, ?_⟩
    have hzr : xs.reverse.zipIdx.length = xs.length := by simp
    have := row_put (d' := Kd.tag (fun b => xs.length - 1 - f b) d) (ok := ok) (ys := xs.reverse.zipIdx) (cap := cap) hb hg hh (by rw [hzr]; exact hnc) hcm (by show cur.size = cap * d.sz; rw [hsz, Nat.mul_one]; exact hcs) n (cur.toList.take xs.length).reverse.toArray #[] (by show _ = _ * d.sz; rw [hsz, hzr]; simp; omega) ?_
    · rw [hne, hzr, ← hv] at this
      exact this
    · rw [hne]
      refine ⟨?_, fun j p hj => ?_⟩
      · show _ = _ * d.sz
        rw [hsz, hzr]; simp; omega
      · rw [List.getElem?_zipIdx, Nat.zero_add] at hj
        obtain ⟨x, hx, rfl⟩ := Option.map_eq_some_iff.1 hj
        have hj' : j < xs.length := by have := (List.getElem?_eq_some_iff.1 hx).1; simpa using this
        rw [List.getElem?_reverse hj'] at hx
        obtain ⟨c, hc, hm⟩ := hM _ x hx
        have he : ((cur.toList.take xs.length).reverse.toArray.toList.drop (j * d.sz)).take d.sz = [c] := by
          rw [hsz, Nat.mul_one, List.toList_toArray, List.drop_eq_getElem_cons (by rw [List.length_reverse, hcl]; exact hj')]
          have hrj : (cur.toList.take xs.length).reverse[j]? = some c := by
            rw [List.getElem?_reverse (by rw [hcl]; exact hj'), hcl]; exact hc
          rw [List.getElem?_eq_getElem (by rw [List.length_reverse, hcl]; exact hj')] at hrj
          rw [Option.some.inj hrj]
          rfl
        show d.M _ base (fun k => (ok k ∧ k ≠ g) ∧ xs.length - 1 - f k = j) x (((cur.toList.take xs.length).reverse.toArray.toList.drop (j * d.sz)).take d.sz)
        rw [he]
        refine d.M_mono (fun k hk => ?_) (Kd.M_grown hm hgr (fun k hk => ?_))
        · refine ⟨⟨hk.1.1, fun z => hk.1.2 (by rw [z, hv]; rfl)⟩, ?_⟩
          rw [hk.2]; omega
        · rw [hv] at hk
          exact hk.1.2
  · have hgr := put_grown (enc := id) w g n (cur.toList.take xs.length).reverse.toArray #[]
    rw [hne] at hgr
    exact hgr
end
end Go.Proofs.YtihmjhchiomgbaaDoor.RowPut
