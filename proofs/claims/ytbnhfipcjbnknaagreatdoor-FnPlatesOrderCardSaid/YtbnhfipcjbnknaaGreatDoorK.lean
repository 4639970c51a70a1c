/- Words for walking a long function region by region: the frame as a list of what its slots hold, each region run on that list by the kernel, every order of a region at once. -/
import Derived.Deep.Quiet
import Derived.Deep.QuietTactic
import Derived.Below
import Derived.WalkKit
import Derived.Test.YtbnhfipcjbnknaaGreatDoorWWords
import Derived.Test.YtbnhfipcjbnknaaGreatDoorWTab
namespace Go.Proofs.YtbnhfipcjbnknaaGreatDoor.K
open Go Go.RowKit
open Go.Proofs.YtbnhfipcjbnknaaGreatDoorW.PrintWords (Drawn0)
set_option linter.unusedSimpArgs false
set_option linter.unusedVariables false
abbrev Env := List (Nat × Value)
def look : Env → Nat → Option Value
  | [], _ => none
  | (j, v) :: r, i => bif Nat.beq j i then some v else look r i
/-- The frame has n slots, nothing is deferred, and each slot that the list names holds what the list says. -/
structure Has (n : Nat) (a : Act) (L : Env) : Prop where
  size : a.tmps.size = n
  dfr : a.defers = []
  at_ : ∀ i v, look L i = some v → a.tmps[i]? = some v
def opd (L : Env) : Operand → Option Value
  | .tmp t => look L t
  | .const v => some v
  | .global g => some (.pointer (some ⟨g, 0, none⟩))
  | .func f => some (.func (.func f) #[] #[])
def opds (L : Env) : List Operand → Option (List Value)
  | [] => some []
  | x :: r => match opd L x with
    | none => none
    | some v => match opds L r with
      | none => none
      | some vs => some (v :: vs)
def pairs (L : Env) : List Operand → Option (List (Operand × Value))
  | [] => some []
  | x :: r => match opd L x with
    | none => none
    | some v => match pairs L r with
      | none => none
      | some vs => some ((x, v) :: vs)
def pureV (L : Env) : Op → Option Value
  | .move x => opd L x
  | .assign x => opd L x
  | .pick c x y => match opd L c with
    | some (.bool true) => opd L x
    | some (.bool false) => opd L y
    | _ => none
  | .extract t i => match opd L t with
    | some (.tuple vs) => vs.toList[i]?
    | _ => none
  | .unOp .not _ x => match opd L x with
    | some (.bool b) => some (.bool (!b))
    | _ => none
  | _ => none
def guardV (ops : List Oper) (L : Env) (o : Oper) : Option Bool := match o.guard with
  | none => some true
  | some (j, want) => match (ops[j]?).bind (·.dst) with
    | none => none
    | some t => match look L t with
      | none => none
      | some v => match v with
        | .bool b => some (b == want)
        | .tuple _ => some false
        | _ => none
inductive Ob where
  | call (f : FuncId) (args : List Value) (v : Value)
  | op (op : Op) (ty : TypeId) (ov : List (Operand × Value)) (v : Value)
def obOf (L : Env) (o : Oper) (v : Value) : Option Ob := match o.op with
  | .call ⟨.value (.func f), as, _⟩ => (opds L as.toList).map fun xs => .call f xs v
  | op => (pairs L op.operands.toList).map fun ov => .op op o.type ov v
def putE (n : Nat) (L : Env) (d : Option Nat) (v : Value) : Option Env := match d with
  | none => some L
  | some d => bif Nat.blt d n then some ((d, v) :: L) else none
def runQ (n : Nat) (ops : List Oper) : List Oper → List Value → Env → Option (Env × List Ob)
  | [], [], L => some (L, [])
  | [], _ :: _, _ => none
  | o :: r, cs, L => match guardV ops L o with
    | none => none
    | some false => match putE n L o.dst undef with
      | none => none
      | some L' => runQ n ops r cs L'
    | some true => match pureV L o.op with
      | some v => match putE n L o.dst v with
        | none => none
        | some L' => runQ n ops r cs L'
      | none => match cs with
        | [] => none
        | v :: cs' => match obOf L o v with
          | none => none
          | some ob => match putE n L o.dst v with
            | none => none
            | some L' => match runQ n ops r cs' L' with
              | none => none
              | some (L2, obs) => some (L2, ob :: obs)
def prune (L : Env) : List Nat → Option Env
  | [] => some []
  | i :: r => match look L i with
    | none => none
    | some v => match prune L r with
      | none => none
      | some K => some ((i, v) :: K)
/-- Run, and keep the slots that are named. -/
def runR (n : Nat) (ops l : List Oper) (cs : List Value) (L : Env) (keep : List Nat) : Option (Env × List Ob) := match runQ n ops l cs L with
  | none => none
  | some (L', obs) => match prune L' keep with
    | none => none
    | some K => some (K, obs)
/-- Short words for obligations: a comparison of two slots' numbers, of their truths; a struct read out of its block. -/
abbrev cI (op : BinOp) (i j : Nat) (x y : Int) (b : Bool) : Ob := .op (.binOp op 3 (.tmp i) (.tmp j) 3) 4 [(.tmp i, .int .i64 x), (.tmp j, .int .i64 y)] (.bool b)
abbrev cK (op : BinOp) (i : Nat) (x y : Int) (b : Bool) : Ob := .op (.binOp op 3 (.tmp i) (.const (.int .i64 y)) 3) 4 [(.tmp i, .int .i64 x), (.const (.int .i64 y), .int .i64 y)] (.bool b)
abbrev cB (op : BinOp) (i j : Nat) (x y b : Bool) : Ob := .op (.binOp op 4 (.tmp i) (.tmp j) 4) 4 [(.tmp i, .bool x), (.tmp j, .bool y)] (.bool b)
abbrev lS (t i g : Nat) (x y : Int) : Ob := .op (.load t (.tmp i)) t [(.tmp i, .pointer (some ⟨g, 0, none⟩))] (.agg #[.int .i64 x, .int .i64 y])
abbrev vI (x : Int) : Value := .int .i64 x
abbrev vB (x : Bool) : Value := .bool x
abbrev vA (x y : Int) : Value := .agg #[.int .i64 x, .int .i64 y]
abbrev vP (g : Nat) : Value := .pointer (some ⟨g, 0, none⟩)
def Ob.val : Ob → Value
  | .call _ _ v => v
  | .op _ _ _ v => v
/-- A class of worlds that holds on in all that leaves what was there alone. -/
def Stays (F : World → Prop) : Prop := ∀ w w', F w → Below w.heap.size w w' → F w'
def Ob.Ok (P : Program) (F : World → Prop) : Ob → Prop
  | .call f args v => (∃ fn, P.funcs[f]? = some fn ∧ (fn.name == "runtime.NumGoroutine") = false ∧ fn.body.isSome = true) ∧ ∀ w, F w → Calls P f args.toArray w fun e w' => e = .returned v ∧ F w'
  | .op o_ ty ov v => ∀ (ρ : Operand → Value) (o : Oper), o.op = o_ → o.type = ty → (∀ p ∈ ov, ρ p.1 = p.2) → ∀ w, F w → (execOp ρ o).run P w = .ok (.value v) w
def AllOk (P : Program) (F : World → Prop) : List Ob → Prop
  | [] => True
  | ob :: r => ob.Ok P F ∧ AllOk P F r
section
variable {n : Nat} {a : Act} {L : Env}
theorem Has.opd (h : Has n a L) {x : Operand} {v : Value} (hx : opd L x = some v) : a.eval x = v := by
  cases x with
  | tmp t =>
    have := h.at_ t v hx
    simp only [Act.eval, Array.getD_eq_getD_getElem?, this, Option.getD_some]
  | const u => exact Option.some.inj hx
  | global g => exact Option.some.inj hx
  | func f => exact Option.some.inj hx
theorem Has.opds (h : Has n a L) : ∀ {xs : List Operand} {vs : List Value}, opds L xs = some vs → xs.map a.eval = vs
  | [], vs, hx => by
    obtain rfl := Option.some.inj hx
    rfl
  | x :: r, vs, hx => by
    unfold K.opds at hx
    cases h1 : K.opd L x with
    | none => rw [h1] at hx; cases hx
    | some v =>
      rw [h1] at hx
      cases h2 : K.opds L r with
      | none => rw [h2] at hx; cases hx
      | some us =>
        rw [h2] at hx
        obtain rfl := Option.some.inj hx
        rw [List.map_cons, h.opd h1, h.opds h2]
theorem Has.pairs (h : Has n a L) : ∀ {xs : List Operand} {ov : List (Operand × Value)}, pairs L xs = some ov → ∀ p ∈ ov, a.eval p.1 = p.2
  | [], ov, hx => by
    obtain rfl := Option.some.inj hx
    intro p hp
    cases hp
  | x :: r, ov, hx => by
    unfold K.pairs at hx
    cases h1 : K.opd L x with
    | none => rw [h1] at hx; cases hx
    | some v =>
      rw [h1] at hx
      cases h2 : K.pairs L r with
      | none => rw [h2] at hx; cases hx
      | some us =>
        rw [h2] at hx
        obtain rfl := Option.some.inj hx
        intro p hp
        rcases List.mem_cons.1 hp with rfl | hp
        · exact h.opd h1
        · exact h.pairs h2 p hp
theorem Has.put (h : Has n a L) {d : Option Nat} {v : Value} {L' : Env} (hp : putE n L d v = some L') : Has n (a.put d v) L' := by
  unfold putE at hp
  cases d with
  | none =>
    obtain rfl := Option.some.inj hp
    exact h
  | some d =>
    simp only at hp
    cases hb : Nat.blt d n with
    | false => rw [hb] at hp; cases hp
    | true =>
      rw [hb] at hp
      obtain rfl := Option.some.inj hp
      have hd : d < a.tmps.size := by rw [h.size]; exact (Nat.blt_eq ▸ hb : d < n)
      refine ⟨by simp [Act.put, h.size], h.dfr, fun i u hl => ?_⟩
      unfold look at hl
      simp only [Act.put]
      cases he : Nat.beq d i with
      | true =>
        rw [he] at hl
        obtain rfl := Option.some.inj hl
        obtain rfl := Nat.eq_of_beq_eq_true he
        simp [hd]
      | false =>
        rw [he] at hl
        have hne : d ≠ i := Nat.ne_of_beq_eq_false he
        rw [Array.getElem?_setIfInBounds_ne hne]
        exact h.at_ i u hl
theorem Has.prune (h : Has n a L) : ∀ {keep : List Nat} {E : Env}, K.prune L keep = some E → Has n a E
  | [], E, hp => by
    obtain rfl := Option.some.inj hp
    exact ⟨h.size, h.dfr, fun i v hl => by cases hl⟩
  | i :: r, E, hp => by
    unfold K.prune at hp
    cases h1 : look L i with
    | none => rw [h1] at hp; cases hp
    | some v =>
      rw [h1] at hp
      cases h2 : K.prune L r with
      | none => rw [h2] at hp; cases hp
      | some K' =>
        rw [h2] at hp
        obtain rfl := Option.some.inj hp
        have hk := h.prune h2
        refine ⟨h.size, h.dfr, fun j u hl => ?_⟩
        unfold look at hl
        cases he : Nat.beq i j with
        | true =>
          rw [he] at hl
          obtain rfl := Option.some.inj hl
          obtain rfl := Nat.eq_of_beq_eq_true he
          exact h.at_ i v h1
        | false =>
          rw [he] at hl
          exact hk.at_ j u hl
end
theorem Has.cut {n : Nat} {a : Act} {L E : Env} (h : Has n a L) (hp : K.prune L (E.map (·.1)) = some E) : Has n a E := h.prune hp
section
variable {P : Program} {n : Nat} {ops : List Oper} {F : World → Prop} {a : Act} {L : Env}
theorem guard_ok (h : Has n a L) {o : Oper} {b : Bool} (hg : guardV ops L o = some b) : Region.wanted o (yielded ops.toArray a.tmps) = b := by
  unfold guardV at hg
  unfold Region.wanted
  cases ho : o.guard with
  | none =>
    rw [ho] at hg
    exact Option.some.inj hg
  | some jw =>
    obtain ⟨j, want⟩ := jw
    rw [ho] at hg
    simp only at hg ⊢
    unfold yielded
    have e : (ops.toArray[j]?).bind (·.dst) = (ops[j]?).bind (·.dst) := by simp
    rw [e]
    cases hd : (ops[j]?).bind (·.dst) with
    | none => rw [hd] at hg; cases hg
    | some t =>
      rw [hd] at hg
      simp only at hg
      cases hl : look L t with
      | none => rw [hl] at hg; cases hg
      | some v =>
        rw [hl] at hg
        have hv := h.at_ t v hl
        simp only [Option.bind_some, hv]
        cases v <;> simp only [Option.some.injEq, reduceCtorEq] at hg <;> subst hg <;> simp
theorem pure_run (h : Has n a L) {o : Oper} {v : Value} (hp : pureV L o.op = some v) (w : World) : (execOp a.eval o).run P w = .ok (.value v) w := by
  unfold pureV at hp
  unfold execOp
  cases ho : o.op <;> rw [ho] at hp <;> simp only [reduceCtorEq] at hp
  case move x => rw [← h.opd hp]; rfl
  case assign x => rw [← h.opd hp]; rfl
  case pick c x y =>
    cases hc : opd L c with
    | none => rw [hc] at hp; cases hp
    | some u =>
      rw [hc] at hp
      cases u with
      | bool b =>
        cases b
        · have hy : opd L y = some v := hp
          simp only [h.opd hc, h.opd hy]; rfl
        · have hy : opd L x = some v := hp
          simp only [h.opd hc, h.opd hy]; rfl
      | _ => cases hp
  case extract t i =>
    cases hc : opd L t with
    | none => rw [hc] at hp; cases hp
    | some u =>
      rw [hc] at hp
      cases u with
      | tuple vs =>
        have hv : vs[i]? = some v := by simpa using hp
        simp only [h.opd hc, Instr.extract, hv]; rfl
      | _ => cases hp
  case unOp op t x =>
    cases op <;> (try (cases hp; done))
    change (match opd L x with | some (.bool b) => some (Value.bool (!b)) | _ => none) = some v at hp
    cases hc : opd L x with
    | none => rw [hc] at hp; cases hp
    | some u =>
      rw [hc] at hp
      cases u with
      | bool b =>
        obtain rfl := Option.some.inj hp
        simp only [h.opd hc]; rfl
      | _ => cases hp
theorem ob_quiet (h : Has n a L) {o : Oper} {v : Value} {ob : Ob} (ho : obOf L o v = some ob) (hok : ob.Ok P F) : ∀ w, F w → o.quietAt P a F w v := by
  intro w hw
  unfold Oper.quietAt
  unfold obOf at ho
  split at ho
  · rename_i f as ts hop
    cases hx : opds L as.toList with
    | none => rw [hx] at ho; cases ho
    | some xs =>
      rw [hx] at ho
      obtain rfl := Option.some.inj ho
      obtain ⟨⟨fn, hf, hname, hb⟩, hc⟩ := hok
      have h1 : fn.name ≠ "runtime.NumGoroutine" := by simpa using hname
      obtain ⟨c, hcb⟩ := Option.isSome_iff_exists.1 hb
      have hargs : as.map a.eval = xs.toArray := by
        apply Array.ext'
        rw [Array.toList_map, h.opds hx]
      have hrun : (execOp a.eval o).run P w = .ok (.enter f xs.toArray) w := by
        unfold execOp
        simp [hop, resolve, Deferred.ofValue, invoke, Act.eval, hargs, callFunc, hf, h1, hcb]
      rw [hrun]
      exact ⟨rfl, hc w hw⟩
  · cases hx : pairs L o.op.operands.toList with
    | none => rw [hx] at ho; cases ho
    | some ov =>
      rw [hx] at ho
      obtain rfl := Option.some.inj ho
      have := (show (Ob.op o.op o.type ov v).Ok P F from hok) a.eval o rfl rfl (h.pairs hx) w hw
      rw [this]
      exact ⟨rfl, rfl⟩
theorem runQ_quiet {Qa : Act → Prop} : ∀ {l : List Oper} {cs : List Value} {L L' : Env} {obs : List Ob} {a : Act}, runQ n ops l cs L = some (L', obs) → Has n a L → AllOk P F obs → (∀ a', Has n a' L' → Qa a') → wpQuiet P ops.toArray F Qa l a
  | [], [], L, L', obs, a, hr, h, _, hq => by
    simp only [runQ, Option.some.injEq, Prod.mk.injEq] at hr
    obtain ⟨rfl, rfl⟩ := hr
    exact wpQuiet_nil (hq a h)
  | [], _ :: _, _, _, _, _, hr, _, _, _ => by cases hr
  | o :: r, cs, L, L', obs, a, hr, h, hok, hq => by
    unfold runQ at hr
    refine wpQuiet_step fun K hK => ?_
    cases hg : guardV ops L o with
    | none => rw [hg] at hr; cases hr
    | some b =>
      rw [hg] at hr
      rw [guard_ok h hg]
      cases b with
      | false =>
        simp only [Bool.false_eq_true, if_false] at hr ⊢
        cases hp : putE n L o.dst undef with
        | none => rw [hp] at hr; cases hr
        | some L1 =>
          rw [hp] at hr
          exact hK _ (runQ_quiet hr (h.put hp) hok hq)
      | true =>
        simp only [if_true] at hr ⊢
        cases hv : pureV L o.op with
        | some v =>
          rw [hv] at hr
          simp only at hr
          cases hp : putE n L o.dst v with
          | none => rw [hp] at hr; cases hr
          | some L1 =>
            rw [hp] at hr
            refine ⟨v, fun w _ => ?_, hK _ (runQ_quiet hr (h.put hp) hok hq)⟩
            unfold Oper.quietAt
            rw [pure_run h hv w]
            exact ⟨rfl, rfl⟩
        | none =>
          rw [hv] at hr
          simp only at hr
          cases cs with
          | nil => cases hr
          | cons v cs' =>
            simp only at hr
            cases ho : obOf L o v with
            | none => rw [ho] at hr; cases hr
            | some ob =>
              rw [ho] at hr
              simp only at hr
              cases hp : putE n L o.dst v with
              | none => rw [hp] at hr; cases hr
              | some L1 =>
                rw [hp] at hr
                simp only at hr
                cases h2 : runQ n ops r cs' L1 with
                | none => rw [h2] at hr; cases hr
                | some q =>
                  obtain ⟨L2, obs2⟩ := q
                  rw [h2] at hr
                  simp only [Option.some.injEq, Prod.mk.injEq] at hr
                  obtain ⟨rfl, rfl⟩ := hr
                  obtain ⟨hok1, hok2⟩ := hok
                  exact ⟨v, ob_quiet h ho hok1, hK _ (runQ_quiet h2 (h.put hp) hok2 hq)⟩
/-- The same operations in a region that keeps its order. -/
theorem list_of_quiet {Qa : Act → Prop} {Q : Exit → Act → World → Prop} {rest : List Oper} : ∀ {l : List Oper} {a : Act} {w : World}, wpQuiet P ops.toArray F Qa l a → F w → (∀ a' w', Qa a' → F w' → wpList P ops.toArray Q rest a' w') → wpList P ops.toArray Q (l ++ rest) a w
  | [], a, w, h, hw, hk => hk a w h hw
  | o :: r, a, w, h, hw, hk => by
    refine wpList_step fun K hK => ?_
    unfold wpQuiet at h
    split
    · rename_i hwt
      rw [if_pos hwt] at h
      exact Oper.wp_of_quiet (C := F) hw (fun a' w' hw' hq => hK _ _ (list_of_quiet hq hw' hk)) h
    · rename_i hwt
      rw [if_neg hwt] at h
      exact hK _ _ (list_of_quiet h hw hk)
theorem Stays.drew (h : Stays F) {w : World} (hw : F w) : F w.drew := h w _ hw (Below.refl _ _).drew
/-- A whole region, drawn or not. -/
theorem region_ {id : Nat} {draw : Bool} {Q : Exit → Act → World → Prop} {K : Env} {obs : List Ob} {w : World}
    (hr : runR n ops ops (obs.map Ob.val) L (K.map (·.1)) = some (K, obs)) (hm : P.follows .mixedOrders = true) (hB : (!draw || Region.lexB .any ops.toArray) = true) (hS : Stays F)
    (hok : AllOk P F obs) (h : Has n a L) (hw : F w) (hk : ∀ a' w', Has n a' K → F w' → Q .normal a' w') : (Code.region id ops.toArray draw).wp P Q a w := by
  unfold runR at hr
  cases h1 : runQ n ops ops (obs.map Ob.val) L with
  | none => rw [h1] at hr; cases hr
  | some q =>
    obtain ⟨L', obs'⟩ := q
    rw [h1] at hr
    simp only at hr
    cases h2 : prune L' (K.map (·.1)) with
    | none => rw [h2] at hr; cases hr
    | some K' =>
      rw [h2] at hr
      simp only [Option.some.injEq, Prod.mk.injEq] at hr
      obtain ⟨rfl, rfl⟩ := hr
      cases draw with
      | true =>
        refine wp_region_quiet (C := F) hm (by simpa using hB) (hS.drew hw) ?_
        exact runQ_quiet h1 h hok (fun a' h' w' hw' => hk a' w' (h'.prune h2) hw')
      | false =>
        refine wp_region_list ?_
        have hq := runQ_quiet (P := P) (F := F) (Qa := fun a' => Has n a' L') h1 h hok (fun _ h' => h')
        have := list_of_quiet (Q := Q) (rest := []) hq hw (fun a' w' h' hw' => wpList_nil (hk a' w' (h'.prune h2) hw'))
        simpa using this
/-- In a region that keeps its order: from operation i on. -/
theorem region_list {id : Nat} {Q : Exit → Act → World → Prop} {w : World} (h : wpList P ops.toArray Q (ops.drop 0) a w) : (Code.region id ops.toArray false).wp P Q a w := wp_region_list (by simpa using h)
theorem quiet_ (i m j : Nat) {Q : Exit → Act → World → Prop} {K : Env} {obs : List Ob} {w : World}
    (hr : runR n ops ((ops.drop i).take m) (obs.map Ob.val) L (K.map (·.1)) = some (K, obs)) (hj : j = i + m) (hok : AllOk P F obs) (h : Has n a L) (hw : F w)
    (hk : ∀ a' w', Has n a' K → F w' → wpList P ops.toArray Q (ops.drop j) a' w') : wpList P ops.toArray Q (ops.drop i) a w := by
  subst hj
  unfold runR at hr
  cases h1 : runQ n ops ((ops.drop i).take m) (obs.map Ob.val) L with
  | none => rw [h1] at hr; cases hr
  | some q =>
    obtain ⟨L', obs'⟩ := q
    rw [h1] at hr
    simp only at hr
    cases h2 : prune L' (K.map (·.1)) with
    | none => rw [h2] at hr; cases hr
    | some K' =>
      rw [h2] at hr
      simp only [Option.some.injEq, Prod.mk.injEq] at hr
      obtain ⟨rfl, rfl⟩ := hr
      have hq := runQ_quiet (P := P) (F := F) (Qa := fun a' => Has n a' L') h1 h hok (fun _ h' => h')
      have := list_of_quiet (Q := Q) (rest := ops.drop (i + m)) hq hw (fun a' w' h' hw' => hk a' w' (h'.prune h2) hw')
      have e : (ops.drop i).take m ++ ops.drop (i + m) = ops.drop i := by rw [← List.drop_drop]; exact List.take_append_drop m (ops.drop i)
      rwa [e] at this
theorem end_ {j : Nat} {Q : Exit → Act → World → Prop} {w : World} (hj : ops.drop j = []) (h : Q .normal a w) : wpList P ops.toArray Q (ops.drop j) a w := by
  rw [hj]
  exact wpList_nil h
def callOf (n : Nat) (ops : List Oper) (i : Nat) (L : Env) : Option (Tmp × FuncId × List Value) := match ops.drop i with
  | ⟨some d, .call ⟨.value (.func f), as, _⟩, _, _, _, none⟩ :: _ => bif Nat.blt d n then (opds L as.toList).map fun vs => (d, f, vs) else none
  | _ => none
theorem callOf_spec {i : Nat} {d : Tmp} {f : FuncId} {vs : List Value} (h : callOf n ops i L = some (d, f, vs)) : ∃ as ts ty pos af rest, ops.drop i = ⟨some d, .call ⟨.value (.func f), as, ts⟩, ty, pos, af, none⟩ :: rest ∧ opds L as.toList = some vs ∧ Nat.blt d n = true := by
  unfold callOf at h
  split at h
  · rename_i d' f' as ts ty pos af rest he
    cases hb : Nat.blt d' n with
    | false => rw [hb] at h; cases h
    | true =>
      rw [hb] at h
      simp only [cond_true] at h
      cases ho : opds L as.toList with
      | none => rw [ho] at h; cases h
      | some us =>
        rw [ho] at h
        simp only [Option.map_some, Option.some.injEq, Prod.mk.injEq] at h
        obtain ⟨rfl, rfl, rfl⟩ := h
        exact ⟨as, ts, ty, pos, af, rest, he, ho, hb⟩
  · cases h
/-- A call that makes memory: what it returns is told by s. -/
theorem made_ {σ : Type} (i j : Nat) {Q : Exit → Act → World → Prop} {w : World} {f : FuncId} {d : Tmp} {vs : List Value}
    (ho : callOf n ops i L = some (d, f, vs)) (hj : j = i + 1) (h : Has n a L) (hw : F w)
    {fn : Func} (hf : P.funcs[f]? = some fn) (hname : (fn.name == "runtime.NumGoroutine") = false) (hb : fn.body.isSome = true)
    (v : σ → Value) (G : σ → World → Prop) (hc : ∀ w, F w → Calls P f vs.toArray w fun e w' => ∃ s, e = .returned (v s) ∧ G s w')
    (hk : ∀ s a' w', Has n a' ((d, v s) :: L) → G s w' → wpList P ops.toArray Q (ops.drop j) a' w') : wpList P ops.toArray Q (ops.drop i) a w := by
  subst hj
  obtain ⟨as, ts, ty, pos, af, rest, ho, hx, hd⟩ := callOf_spec ho
  have e : ops.drop (i + 1) = rest := by rw [← List.drop_drop, ho]; rfl
  rw [e] at hk
  rw [ho]
  refine wpList_plain rfl fun K hK => ?_
  have h1 : fn.name ≠ "runtime.NumGoroutine" := by simpa using hname
  obtain ⟨c, hcb⟩ := Option.isSome_iff_exists.1 hb
  have hargs : as.map a.eval = vs.toArray := by
    apply Array.ext'
    rw [Array.toList_map, h.opds hx]
  have hrun : (execOp a.eval ⟨some d, .call ⟨.value (.func f), as, ts⟩, ty, pos, af, none⟩).run P w = .ok (.enter f vs.toArray) w := by
    unfold execOp
    simp [resolve, Deferred.ofValue, invoke, Act.eval, hargs, callFunc, hf, h1, hcb]
  unfold Oper.wp
  rw [hrun, Oper.upon_enter]
  refine (hc w hw).mono fun e' w' ⟨s, he, hg⟩ => ?_
  subst he
  exact hK _ _ (hk s _ w' (h.put (by unfold putE; simp only [hd]; rfl)) hg)
/-- An operation that yields a value in a world of another class. -/
theorem one_ {σ : Type} (i : Nat) {Q : Exit → Act → World → Prop} {w : World} {o : Oper} {rest : List Oper} {d : Tmp}
    (ho : ops.drop i = o :: rest) (hg : o.guard = none) (hd' : o.dst = some d) (hd : Nat.blt d n = true) (h : Has n a L)
    (v : σ → Value) (G : σ → World → Prop) (hrun : ∃ s w', (execOp a.eval o).run P w = .ok (.value (v s)) w' ∧ G s w')
    (hk : ∀ s a' w', Has n a' ((d, v s) :: L) → G s w' → wpList P ops.toArray Q (ops.drop (i + 1)) a' w') : wpList P ops.toArray Q (ops.drop i) a w := by
  have e : ops.drop (i + 1) = rest := by rw [← List.drop_drop, ho]; rfl
  rw [e] at hk
  rw [ho]
  refine wpList_plain hg fun K hK => ?_
  obtain ⟨s, w', hr, hs⟩ := hrun
  unfold Oper.wp
  rw [hr]
  exact hK _ _ (hk s _ w' (h.put (by rw [hd']; unfold putE; simp only [hd]; rfl)) hs)
end
section
variable {P : Program} {F : World → Prop}
/-- What a contract's end gives. -/
theorem Stays.calls (hS : Stays F) {f : FuncId} {args : Array Value} {v : Value} {w : World} (hw : F w) (h : Calls P f args w fun e w' => e = .returned v ∧ Below w.heap.size w w') : Calls P f args w fun e w' => e = .returned v ∧ F w' :=
  h.mono fun _ w' ⟨he, hb⟩ => ⟨he, hS w w' hw hb⟩
theorem Stays.callsD (hS : Stays F) {f : FuncId} {args : Array Value} {v : Value} {w : World} (hw : F w) (h : Calls P f args w fun e w' => e = .returned v ∧ Drawn0 w w') : Calls P f args w fun e w' => e = .returned v ∧ F w' :=
  h.mono fun _ w' ⟨he, hb⟩ => ⟨he, hS w w' hw hb.below⟩
theorem Stays.and {G : World → Prop} (hF : Stays F) (hG : Stays G) : Stays fun w => F w ∧ G w := fun w w' h hb => ⟨hF w w' h.1 hb, hG w w' h.2 hb⟩
theorem stays_below (w0 : World) : Stays (fun w => Below w0.heap.size w0 w) := fun w w' h hb => h.trans (hb.mono h.size)
theorem stays_blk (g : Nat) (o : Obj) : Stays (fun w => w.heap[g]? = some o) := fun w w' h hb => by
  have hg : g < w.heap.size := (Array.getElem?_eq_some_iff.1 h).1
  show w'.heap[g]? = some o
  rw [hb.block g hg]
  exact h
end
section
variable {P : Program} {F : World → Prop} {X Y : Operand} {T ty t' : TypeId}
theorem ok_neq_int {x y : Int} {b : Bool} (h : (x != y) = b) : Ob.Ok P F (.op (.binOp .neq T X Y t') ty [(X, .int .i64 x), (Y, .int .i64 y)] (.bool b)) := by
  intro ρ o ho ht hρ w hw
  have h1 : ρ X = .int .i64 x := hρ (X, _) (by simp)
  have h2 : ρ Y = .int .i64 y := hρ (Y, _) (by simp)
  subst h
  simp [go_sem, ho, h1, h2]
theorem ok_eql_int {x y : Int} {b : Bool} (h : (x == y) = b) : Ob.Ok P F (.op (.binOp .eql T X Y t') ty [(X, .int .i64 x), (Y, .int .i64 y)] (.bool b)) := by
  intro ρ o ho ht hρ w hw
  have h1 : ρ X = .int .i64 x := hρ (X, _) (by simp)
  have h2 : ρ Y = .int .i64 y := hρ (Y, _) (by simp)
  subst h
  simp [go_sem, ho, h1, h2]
theorem ok_lss_int {x y : Int} {b : Bool} (h : decide (x < y) = b) : Ob.Ok P F (.op (.binOp .lss T X Y t') ty [(X, .int .i64 x), (Y, .int .i64 y)] (.bool b)) := by
  intro ρ o ho ht hρ w hw
  have h1 : ρ X = .int .i64 x := hρ (X, _) (by simp)
  have h2 : ρ Y = .int .i64 y := hρ (Y, _) (by simp)
  subst h
  simp [go_sem, ho, h1, h2]
theorem ok_gtr_int {x y : Int} {b : Bool} (h : decide (x > y) = b) : Ob.Ok P F (.op (.binOp .gtr T X Y t') ty [(X, .int .i64 x), (Y, .int .i64 y)] (.bool b)) := by
  intro ρ o ho ht hρ w hw
  have h1 : ρ X = .int .i64 x := hρ (X, _) (by simp)
  have h2 : ρ Y = .int .i64 y := hρ (Y, _) (by simp)
  subst h
  simp [go_sem, ho, h1, h2]
theorem w64_ (n : Int) : IntKind.i64.wrap n = wrap64 n := by unfold wrap64; exact IntKind.wrap_i64 n
theorem ok_add_int {x y z : Int} (h : wrap64 (x + y) = z) : Ob.Ok P F (.op (.binOp .add T X Y t') ty [(X, .int .i64 x), (Y, .int .i64 y)] (.int .i64 z)) := by
  intro ρ o ho ht hρ w hw
  have h1 : ρ X = .int .i64 x := hρ (X, _) (by simp)
  have h2 : ρ Y = .int .i64 y := hρ (Y, _) (by simp)
  subst h
  simp [go_sem, ho, h1, h2, w64_]
theorem ok_sub_int {x y z : Int} (h : wrap64 (x - y) = z) : Ob.Ok P F (.op (.binOp .sub T X Y t') ty [(X, .int .i64 x), (Y, .int .i64 y)] (.int .i64 z)) := by
  intro ρ o ho ht hρ w hw
  have h1 : ρ X = .int .i64 x := hρ (X, _) (by simp)
  have h2 : ρ Y = .int .i64 y := hρ (Y, _) (by simp)
  subst h
  simp [go_sem, ho, h1, h2, w64_]
theorem ok_neg_int {x z : Int} (h : wrap64 (-x) = z) : Ob.Ok P F (.op (.unOp .neg T X) ty [(X, .int .i64 x)] (.int .i64 z)) := by
  intro ρ o ho ht hρ w hw
  have h1 : ρ X = .int .i64 x := hρ (X, _) (by simp)
  subst h
  simp [go_sem, ho, h1, w64_]
theorem ok_neq_bool (hu : P.underlying T = some .bool) {x y b : Bool} (h : (x != y) = b) : Ob.Ok P F (.op (.binOp .neq T X Y t') ty [(X, .bool x), (Y, .bool y)] (.bool b)) := by
  intro ρ o ho ht hρ w hw
  have h1 : ρ X = .bool x := hρ (X, _) (by simp)
  have h2 : ρ Y = .bool y := hρ (Y, _) (by simp)
  subst h
  simp [go_sem, ho, h1, h2, hu]
  cases x <;> cases y <;> rfl
theorem ok_neq_str {x y : ByteArray} {b : Bool} (h : (!(x.toList == y.toList)) = b) : Ob.Ok P F (.op (.binOp .neq T X Y t') ty [(X, .string x), (Y, .string y)] (.bool b)) := by
  intro ρ o ho ht hρ w hw
  have h1 : ρ X = .string x := hρ (X, _) (by simp)
  have h2 : ρ Y = .string y := hρ (Y, _) (by simp)
  subst h
  simp [go_sem, ho, h1, h2]
theorem ok_eql_str {x y : ByteArray} {b : Bool} (h : (x.toList == y.toList) = b) : Ob.Ok P F (.op (.binOp .eql T X Y t') ty [(X, .string x), (Y, .string y)] (.bool b)) := by
  intro ρ o ho ht hρ w hw
  have h1 : ρ X = .string x := hρ (X, _) (by simp)
  have h2 : ρ Y = .string y := hρ (Y, _) (by simp)
  subst h
  simp [go_sem, ho, h1, h2]
theorem ok_len {e : TypeId} (hu : P.underlying T = some (.slice e)) {A : Option Addr} {n c : Nat} : Ob.Ok P F (.op (.call ⟨.builtin .len, #[X], #[T]⟩) ty [(X, .slice A n c)] (.int .i64 n)) := by
  intro ρ o ho ht hρ w hw
  have h1 : ρ X = .slice A n c := hρ (X, _) (by simp)
  simp [go_sem, ho, h1, hu]
theorem loop_nat {c : Code} {Q : Exit → Act → World → Prop} (I : Nat → Act → World → Prop) (round : ∀ d a w, I d a w → c.wp P (Exit.then (fun a' w' => ∃ d', d' < d ∧ I d' a' w') Q) a w) : ∀ d a w, I d a w → (Code.loop c).wp P Q a w := by
  intro d a w h b k cs
  have key : ∀ d a w, I d a w → ∃ e a' w', Q e a' w' ∧ Arrives P (lone (b.at a (.code c :: .inLoop c :: k)) cs w) b k cs e a' w' := by
    intro n
    induction n using Nat.strongRecOn with
    | _ n ih =>
      intro a w hI
      obtain ⟨e, a₁, w₁, hq, harr⟩ := round n a w hI b (.inLoop c :: k) cs
      cases e with
      | normal =>
        obtain ⟨n', hlt, hI₁⟩ := hq
        obtain ⟨e₂, a₂, w₂, hq₂, harr₂⟩ := ih n' hlt a₁ w₁ hI₁
        exact ⟨e₂, a₂, w₂, hq₂, .of_steps (Steps.trans harr (.one step_inLoop)) harr₂⟩
      | exit id => exact ⟨_, a₁, w₁, hq, .pass (x := .inLoop c) rfl (fun _ _ => .inl (by simp)) harr⟩
      | goto l => exact ⟨_, a₁, w₁, hq, .pass (x := .inLoop c) rfl (fun _ _ => .inl (by simp)) harr⟩
      | ret => exact ⟨_, a₁, w₁, hq, .pass (x := .inLoop c) rfl (fun _ _ => .inl (by simp)) harr⟩
      | panic ch => exact ⟨_, a₁, w₁, hq, .pass (x := .inLoop c) rfl (fun _ _ => .inl (by simp)) harr⟩
      | outgrown => exact ⟨_, a₁, w₁, hq, .pass (x := .inLoop c) rfl (fun _ _ => .inl (by simp)) harr⟩
  obtain ⟨e, a', w', hq, harr⟩ := key d a w h
  exact ⟨e, a', w', hq, .of_steps (.one step_loop) harr⟩
end
/-! ### A drawn region may be walked as it stands: asked of the table of its order, once -/
section
open Go.Proofs.YtbnhfipcjbnknaaGreatDoorW.PrintLast (rtab ready_eq free_eq readyAt readyT freeT readyAt_mem rtab_length)
def lowT : List (List Nat × List Nat) → Nat → Bool
  | [], _ => true
  | r :: T, k => r.1.all (fun j => Nat.blt j k) && (r.2.all (fun j => Nat.blt j k) && lowT T (k + 1))
theorem lowT_spec : ∀ {T : List (List Nat × List Nat)} {k : Nat}, lowT T k = true → ∀ (i : Nat) r, T[i]? = some r → (∀ j ∈ r.1, j < k + i) ∧ (∀ j ∈ r.2, j < k + i)
  | [], _, _, i, r, hr => by simp at hr
  | x :: T, k, h, i, r, hr => by
    unfold lowT at h
    simp only [Bool.and_eq_true, List.all_eq_true] at h
    obtain ⟨h1, h2, h3⟩ := h
    cases i with
    | zero =>
      obtain rfl : x = r := by simpa using hr
      exact ⟨fun j hj => by simpa using h1 j hj, fun j hj => by simpa using h2 j hj⟩
    | succ i =>
      have := lowT_spec h3 i r (by simpa using hr)
      exact ⟨fun j hj => by have := this.1 j hj; omega, fun j hj => by have := this.2 j hj; omega⟩
theorem getD_head {k m j : Nat} (b : Bool) (h : j < k) : (List.replicate k true ++ List.replicate m false).getD j b = true := by
  rw [List.getD_eq_getElem?_getD, List.getElem?_append_left (by simpa using h), List.getElem?_replicate]
  simp [h]
theorem lexFrom_of {ops : Array Oper} (h : lowT (rtab .any ops).2 0 = true) : ∀ (fuel k : Nat) (l : Array Bool), k + fuel = ops.size → l.toList = List.replicate k true ++ List.replicate fuel false → Region.lexFrom .any ops fuel k l = true
  | 0, k, l, hn, hl => by
    unfold Region.lexFrom
    rw [ready_eq, hl]
    unfold readyT
    rw [List.isEmpty_iff, List.filter_eq_nil_iff]
    intro i hi
    have hi' : i < k := by
      have := List.mem_range.1 hi
      rw [rtab_length] at this
      omega
    unfold readyAt
    rw [getD_head true hi']
    simp
  | fuel + 1, k, l, hn, hl => by
    have hk : k < (rtab .any ops).2.length := by rw [rtab_length]; omega
    obtain ⟨r, hr⟩ : ∃ r, (rtab .any ops).2[k]? = some r := ⟨_, List.getElem?_eq_getElem hk⟩
    obtain ⟨h1, h2⟩ := lowT_spec h k r hr
    unfold Region.lexFrom
    rw [Bool.and_eq_true, Bool.and_eq_true]
    refine ⟨⟨readyAt_mem ?_ rfl, ?_⟩, lexFrom_of h fuel (k + 1) _ (by omega) ?_⟩
    · unfold readyAt
      rw [hl, hr]
      have : (List.replicate k true ++ List.replicate (fuel + 1) false).getD k true = false := by
        rw [List.getD_eq_getElem?_getD, List.getElem?_append_right (by simp)]
        simp
      rw [this]
      simp only [Bool.not_false, Bool.true_and, List.all_eq_true]
      intro j hj
      exact getD_head false (by have := h1 j hj; omega)
    · rw [free_eq]
      unfold freeT
      rw [hl, hr]
      simp only [List.all_eq_true]
      intro j hj
      exact getD_head true (by have := h2 j hj; omega)
    · rw [Array.toList_setIfInBounds, hl]
      apply List.ext_getElem?
      intro i
      rw [List.getElem?_set]
      by_cases c1 : k = i
      · subst c1
        simp [List.getElem?_append_left]
      · rw [if_neg c1]
        by_cases c2 : i < k
        · rw [List.getElem?_append_left (by simpa using c2), List.getElem?_append_left (by simp; omega)]
          simp [List.getElem?_replicate, c2]
          omega
        · rw [List.getElem?_append_right (by simp; omega), List.getElem?_append_right (by simp; omega)]
          simp only [List.length_replicate, List.getElem?_replicate]
          by_cases c3 : i < k + 1 + fuel
          · rw [if_pos (by omega), if_pos (by omega)]
          · rw [if_neg (by omega), if_neg (by omega)]
/-- A drawn region whose operations wait for, and clash with, earlier ones alone. -/
theorem lex_of {ops : Array Oper} (h : ((rtab .any ops).1 && lowT (rtab .any ops).2 0) = true) : (!true || Region.lexB .any ops) = true := by
  rw [Bool.and_eq_true] at h
  unfold Region.lexB
  have h1 : Region.noSelect ops = true := h.1
  rw [h1, lexFrom_of h.2 ops.size 0 _ (by omega) (by simp)]
  rfl
theorem inBlock_exit {id : Nat} {Q : Exit → Act → World → Prop} {a : Act} {w : World} (h : Q .normal a w) : Exit.inBlock id Q (.exit id) a w := by
  show (if id = id then Q .normal a w else Q (.exit id) a w)
  rw [if_pos rfl]
  exact h
end
/-! ### Struct variables being made: the class behind the first making, and what the new blocks hold -/
section
variable {F : World → Prop} {bs : List (Nat × Obj)} {w : World}
def Pend (F : World → Prop) (bs : List (Nat × Obj)) (w : World) : Prop := ∃ wa : World, F wa ∧ Below wa.heap.size wa w ∧ (∀ (i : Nat) b, bs[i]? = some b → wa.heap.size ≤ b.1 ∧ w.heap[b.1]? = some b.2) ∧ (∀ (i j : Nat) b c, bs[i]? = some b → bs[j]? = some c → b.1 = c.1 → i = j)
theorem Pend.start (h : F w) : Pend F [] w := ⟨w, h, Below.refl _ _, fun i b hb => by simp at hb, fun i j b c hb => by simp at hb⟩
theorem Pend.stays : Stays (Pend F bs) := fun w w' h hb => by
  obtain ⟨wa, h1, h2, h3, h4⟩ := h
  refine ⟨wa, h1, h2.trans (hb.mono h2.size), fun i b hi => ⟨(h3 i b hi).1, ?_⟩, h4⟩
  have h5 := (h3 i b hi).2
  rw [hb.block b.1 (Array.getElem?_eq_some_iff.1 h5).1]
  exact h5
theorem Pend.out (hS : Stays F) (h : Pend F bs w) : F w ∧ ∀ (i : Nat) b, bs[i]? = some b → w.heap[b.1]? = some b.2 := by
  obtain ⟨wa, h1, h2, h3, _⟩ := h
  exact ⟨hS wa w h1 h2, fun i b hi => (h3 i b hi).2⟩
theorem Pend.alloc (o : Obj) (h : Pend F bs w) : Pend F ((w.heap.size, o) :: bs) (w.alloc o) := by
  obtain ⟨wa, h1, h2, h3, h4⟩ := h
  refine ⟨wa, h1, h2.alloc h2.size o, fun i b hi => ?_, fun i j b c hb hc e => ?_⟩
  · cases i with
    | zero =>
      obtain rfl : (w.heap.size, o) = b := by simpa using hi
      exact ⟨h2.size, Go.Proofs.YtbnhfipcjbnknaaGreatDoorW.PrintWords.blk_new w o⟩
    | succ i =>
      obtain ⟨h5, h6⟩ := h3 i b (by simpa using hi)
      exact ⟨h5, by rw [Below.heap_alloc w o b.1 (Array.getElem?_eq_some_iff.1 h6).1]; exact h6⟩
  · have lt : ∀ (i : Nat) b, bs[i]? = some b → b.1 < w.heap.size := fun i b hi => (Array.getElem?_eq_some_iff.1 (h3 i b hi).2).1
    cases i with
    | zero =>
      obtain rfl : (w.heap.size, o) = b := by simpa using hb
      cases j with
      | zero => rfl
      | succ j =>
        have := lt j c (by simpa using hc)
        simp only at e
        omega
    | succ i =>
      cases j with
      | zero =>
        obtain rfl : (w.heap.size, o) = c := by simpa using hc
        have := lt i b (by simpa using hb)
        simp only at e
        omega
      | succ j => rw [h4 i j b c (by simpa using hb) (by simpa using hc) e]
theorem Pend.put {k g : Nat} {cs cs' : Array Value} {t : TypeId} (h : Pend F bs w) (hk : bs[k]? = some (g, .cells cs t (0, 0))) (i : Nat) (u : Value) (e : cs.setIfInBounds i u = cs') : Pend F (bs.set k (g, .cells cs' t (0, 0))) (w.setCell ⟨g, i, none⟩ u) := by
  obtain ⟨wa, h1, h2, h3, h4⟩ := h
  have hg := h3 k _ hk
  have kl : k < bs.length := (List.getElem?_eq_some_iff.1 hk).1
  have at_ : ∀ (i : Nat) b, (bs.set k (g, .cells cs' t (0, 0)))[i]? = some b → (i = k ∧ b = (g, .cells cs' t (0, 0))) ∨ (i ≠ k ∧ bs[i]? = some b) := by
    intro i b hi
    rw [List.getElem?_set] at hi
    by_cases c : k = i
    · rw [if_pos c, if_pos kl] at hi
      exact .inl ⟨c.symm, (Option.some.inj hi).symm⟩
    · rw [if_neg c] at hi
      exact .inr ⟨fun z => c z.symm, hi⟩
  refine ⟨wa, h1, h2.setCell hg.1 u, fun i' b hi => ?_, fun i' j b c hb hc he => ?_⟩
  · rcases at_ i' b hi with ⟨_, rfl⟩ | ⟨hne, hi'⟩
    · exact ⟨hg.1, Go.Proofs.YtbnhfipcjbnknaaGreatDoorW.PrintWords.blk_put hg.2 i u e⟩
    · obtain ⟨h5, h6⟩ := h3 i' b hi'
      have hd : b.1 ≠ g := fun z => hne (h4 i' k b _ hi' hk z)
      exact ⟨h5, by rw [Below.heap_setCell w ⟨g, i, none⟩ u b.1 (by simpa using hd)]; exact h6⟩
  · rcases at_ i' b hb with ⟨z1, rfl⟩ | ⟨z1, hb'⟩ <;> rcases at_ j c hc with ⟨z2, rfl⟩ | ⟨z2, hc'⟩
    · omega
    · exact absurd (h4 j k c _ hc' hk he.symm) z2
    · exact absurd (h4 i' k b _ hb' hk he) z1
    · exact h4 i' j b c hb' hc' he
def allocOf (n : Nat) (T : TypeId) (ops : List Oper) (i : Nat) : Option Tmp := match ops.drop i with
  | ⟨some d, .alloc t, _, _, _, none⟩ :: _ => bif Nat.blt d n && Nat.beq t T then some d else none
  | _ => none
theorem allocOf_spec {n T i d : Nat} {ops : List Oper} (h : allocOf n T ops i = some d) : ∃ ty pos af rest, ops.drop i = ⟨some d, .alloc T, ty, pos, af, none⟩ :: rest ∧ Nat.blt d n = true := by
  unfold allocOf at h
  split at h
  · rename_i d' t' ty pos af rest he
    cases hb : (Nat.blt d' n && Nat.beq t' T) with
    | false => rw [hb] at h; cases h
    | true =>
      rw [hb] at h
      obtain rfl := Option.some.inj h
      simp only [Bool.and_eq_true] at hb
      obtain rfl := Nat.eq_of_beq_eq_true hb.2
      exact ⟨ty, pos, af, rest, he, hb.1⟩
  · cases h
def storeOf (T : TypeId) (ops : List Oper) (i : Nat) (L : Env) : Option (Value × Value) := match ops.drop i with
  | ⟨none, .store t a x, _, _, _, none⟩ :: _ => bif Nat.beq t T then (match opd L a, opd L x with
    | some p, some v => some (p, v)
    | _, _ => none) else none
  | _ => none
theorem storeOf_spec {T i : Nat} {ops : List Oper} {L : Env} {p v : Value} (h : storeOf T ops i L = some (p, v)) : ∃ a x ty pos af rest, ops.drop i = ⟨none, .store T a x, ty, pos, af, none⟩ :: rest ∧ opd L a = some p ∧ opd L x = some v := by
  unfold storeOf at h
  split at h
  · rename_i t a x ty pos af rest he
    cases hb : Nat.beq t T with
    | false => rw [hb] at h; cases h
    | true =>
      rw [hb] at h
      simp only [cond_true] at h
      obtain rfl := Nat.eq_of_beq_eq_true hb
      cases ha : opd L a with
      | none => rw [ha] at h; cases h
      | some p' =>
        cases hx : opd L x with
        | none => rw [ha, hx] at h; cases h
        | some v' =>
          rw [ha, hx] at h
          simp only [Option.some.injEq, Prod.mk.injEq] at h
          obtain ⟨rfl, rfl⟩ := h
          exact ⟨a, x, ty, pos, af, rest, he, ha, hx⟩
  · cases h
end
end Go.Proofs.YtbnhfipcjbnknaaGreatDoor.K
