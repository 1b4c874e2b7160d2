/- A part of the proof that GateNext of stetlaw20 answers true at every input: calls, rounds, regions of every order: a closed run of the evaluator is a run of the model. Conditions: none. -/
import Derived.Test.YtepommncifphoaaGreatDoorAx2
import Derived.RangeFuncLeaves
import Derived.RangeFuncIn
import Derived.RecoverIn
import Derived.OrdersIn
import Derived.LoopNIn
set_option linter.unusedVariables false
set_option linter.unusedSimpArgs false
set_option linter.unusedSectionVars false
namespace Go.Ax
open Go
variable {B : Tb}

theorem cc {α : Type} {c : Bool} {x y : Option α} {r : α} (h : (bif c then x else y) = some r) : x = some r ∨ y = some r := by
  cases c
  · exact .inr h
  · exact .inl h

/-- The blocks are numbered. -/
def WF (A : AW) : Prop := ∀ b, A.heap.get b ≠ none → b < A.next

/-- What a step does to the heap: more blocks; what is written is booked. -/
structure Grow (A A' : AW) : Prop where
  le : A.next ≤ A'.next
  wf : WF A → WF A'
  wl : ∃ l, A'.wl = l ++ A.wl ∧ ∀ b, b < A.next → b ∉ l → A'.heap.get b = A.heap.get b

theorem Grow.refl (A : AW) : Grow A A := ⟨Nat.le_refl _, id, [], rfl, fun _ _ _ => rfl⟩
theorem Grow.trans {A A' A'' : AW} (h : Grow A A') (g : Grow A' A'') : Grow A A'' := by
  obtain ⟨l, h1, h2⟩ := h.wl
  obtain ⟨l', g1, g2⟩ := g.wl
  refine ⟨Nat.le_trans h.le g.le, fun w => g.wf (h.wf w), l' ++ l, by rw [g1, h1, List.append_assoc], fun b hb hn => ?_⟩
  simp only [List.mem_append, not_or] at hn
  rw [g2 b (Nat.lt_of_lt_of_le hb h.le) hn.1, h2 b hb hn.2]
theorem Grow.new (A : AW) (o : AObj) : Grow A (A.new o) := by
  have hget : ∀ b, (A.new o).heap.get b = if b = A.next then some o else A.heap.get b := fun b => PT.get_set _ _ _ _
  refine ⟨Nat.le_succ _, fun w b hb => ?_, [], rfl, fun b hb _ => ?_⟩
  · rw [hget] at hb
    show b < A.next + 1
    by_cases e : b = A.next
    · omega
    · rw [if_neg e] at hb; have := w b hb; omega
  · rw [hget, if_neg (by omega)]
theorem Grow.put {A : AW} {b : Nat} {o₀ : AObj} (hb : A.heap.get b = some o₀) (o : AObj) : Grow A (A.put b o) := by
  have hget : ∀ b', (A.put b o).heap.get b' = if b' = b then some o else A.heap.get b' := fun b' => PT.get_set _ _ _ _
  refine ⟨Nat.le_refl _, fun w b' hb' => ?_, [b], rfl, fun b' _ hn => ?_⟩
  · rw [hget] at hb'
    show b' < A.next
    by_cases e : b' = b
    · subst e; exact w b' (by rw [hb]; simp)
    · rw [if_neg e] at hb'; exact w b' hb'
  · simp only [List.mem_singleton] at hn
    rw [hget, if_neg hn]

def OR.outA : OR → AW
  | .val _ A => A
  | .enter _ _ A => A
  | .round _ _ A => A
  | .defer _ A => A
  | .recov A => A
theorem OR.outA_next (r : OR) : r.outA.next = r.nextA := by cases r <;> rfl

theorem stCells_next {A A' : AW} {b o : Nat} {vs : List AV} (h : stCells A b o vs = some A') : Grow A A' := by
  unfold stCells at h
  split at h
  · rename_i hb
    rcases cc h with h | h
    · cases h; exact .put hb _
    · cases h
  · cases h
theorem st_next {A A' : AW} {t : TypeId} {b o : Nat} {v : AV} (h : st B A t b o v = some A') : Grow A A' := by
  unfold st at h
  split at h
  · cases h
  · rcases cc h with h | h
    · exact stCells_next h
    · cases h
theorem stMap_next {α : Type} {A : AW} {b o : Nat} {vs : List AV} {f : AW → α × AW} {r : α × AW} (h : (stCells A b o vs).map f = some r) (hf : ∀ A, (f A).2 = A) : Grow A r.2 := by
  simp only [Option.map_eq_some_iff] at h
  obtain ⟨A1, h1, rfl⟩ := h
  rw [hf]; exact stCells_next h1
theorem some_next {α : Type} {A : AW} {p r : α × AW} (h : some p = some r) (hp : Grow A p.2) : Grow A r.2 := by
  cases h; exact hp
theorem opt_next {α γ : Type} {A : AW} {x : Option γ} {f : γ → α × AW} {r : α × AW} (h : x.map f = some r) (hf : ∀ v, (f v).2 = A) : Grow A r.2 := by
  simp only [Option.map_eq_some_iff] at h
  obtain ⟨v, _, rfl⟩ := h
  rw [hf]; exact .refl _
theorem grow_put {A : AW} {b : Nat} {o₀ o : AObj} {q : Option AObj} (hq : q = some o₀) (hb : A.heap.get b = q) : Grow A (A.put b o) := .put (hb.trans hq) o
theorem sliceSl_next {A : AW} {b o n cap : Nat} {ex : Bool} {es : Nat} {lo hi : Option AV} {r : AV × AW} (h : sliceSl A b o n cap ex es lo hi = some r) : Grow A r.2 := by
  unfold sliceSl at h
  try simp only [Bool.cond_eq_ite] at h
  repeat' (split at h)
  all_goals
    first
      | contradiction
      | exact some_next h (.refl _)
      | exact some_next h (.new _ _)
      | exact some_next h (.put (by assumption) _)
      | exact some_next h (.trans (.put (by assumption) _) (.new _ _))
      | exact stMap_next h (fun _ => rfl)
      | exact opt_next h (fun _ => rfl)

theorem sliceA_next {A : AW} {t : TypeId} {x : AV} {lo hi mx : Option AV} {r : AV × AW} (h : sliceA B A t x lo hi mx = some r) : Grow A r.2 := by
  unfold sliceA at h
  try simp only [Bool.cond_eq_ite] at h
  repeat' (split at h)
  all_goals
    first
      | contradiction
      | exact some_next h (.refl _)
      | exact some_next h (.new _ _)
      | exact some_next h (.put (by assumption) _)
      | exact some_next h (.trans (.put (by assumption) _) (.new _ _))
      | exact stMap_next h (fun _ => rfl)
      | exact opt_next h (fun _ => rfl)
      | exact sliceSl_next h
theorem appendA_next {A : AW} {e : TypeId} {s : Nat} {x y : AV} {r : AV × AW} (h : appendA A e s x y = some r) : Grow A r.2 := by
  unfold appendA at h
  try simp only [Bool.cond_eq_ite] at h
  repeat' (split at h)
  all_goals
    first
      | contradiction
      | exact some_next h (.refl _)
      | exact some_next h (.new _ _)
      | exact some_next h (.put (by assumption) _)
      | exact some_next h (.trans (.put (by assumption) _) (.new _ _))
      | exact stMap_next h (fun _ => rfl)
      | exact opt_next h (fun _ => rfl)

theorem copyA_next {A : AW} {e : TypeId} {x y : AV} {r : AV × AW} (h : copyA B A x y e = some r) : Grow A r.2 := by
  unfold copyA at h
  try simp only [Bool.cond_eq_ite] at h
  repeat' (split at h)
  all_goals
    first
      | contradiction
      | exact some_next h (.refl _)
      | exact some_next h (.new _ _)
      | exact some_next h (.put (by assumption) _)
      | exact some_next h (.trans (.put (by assumption) _) (.new _ _))
      | exact stMap_next h (fun _ => rfl)
      | exact opt_next h (fun _ => rfl)

theorem clearA_next {A : AW} {t : TypeId} {x : AV} {r : AV × AW} (h : clearA B A t x = some r) : Grow A r.2 := by
  unfold clearA at h
  try simp only [Bool.cond_eq_ite] at h
  repeat' (split at h)
  all_goals
    first
      | contradiction
      | exact some_next h (.refl _)
      | exact some_next h (.new _ _)
      | exact some_next h (.put (by assumption) _)
      | exact some_next h (.trans (.put (by assumption) _) (.new _ _))
      | exact stMap_next h (fun _ => rfl)
      | exact opt_next h (fun _ => rfl)

theorem convA_next {A : AW} {s t : TypeId} {x : AV} {r : AV × AW} (h : convA B A s t x = some r) : Grow A r.2 := by
  unfold convA at h
  try simp only [Bool.cond_eq_ite] at h
  repeat' (split at h)
  all_goals
    first
      | contradiction
      | exact some_next h (.refl _)
      | exact some_next h (.new _ _)
      | exact some_next h (.put (by assumption) _)
      | exact some_next h (.trans (.put (by assumption) _) (.new _ _))
      | exact stMap_next h (fun _ => rfl)
      | exact opt_next h (fun _ => rfl)

theorem rangeA_next {A : AW} {t : TypeId} {x : AV} {r : AV × AW} (h : rangeA B A t x = some r) : Grow A r.2 := by
  unfold rangeA at h
  try simp only [Bool.cond_eq_ite] at h
  repeat' (split at h)
  all_goals
    first
      | contradiction
      | exact some_next h (.refl _)
      | exact some_next h (.new _ _)
      | exact some_next h (.put (by assumption) _)
      | exact some_next h (.trans (.put (by assumption) _) (.new _ _))
      | exact stMap_next h (fun _ => rfl)
      | exact opt_next h (fun _ => rfl)

theorem nextA_next {A : AW} {x : AV} {s : Bool} {r : AV × AW} (h : nextA A x s = some r) : Grow A r.2 := by
  unfold nextA at h
  try simp only [Bool.cond_eq_ite] at h
  repeat' (split at h)
  all_goals
    first
      | contradiction
      | exact some_next h (.refl _)
      | exact some_next h (.new _ _)
      | exact some_next h (.put (by assumption) _)
      | exact some_next h (.trans (.put (by assumption) _) (.new _ _))
      | exact stMap_next h (fun _ => rfl)
      | exact opt_next h (fun _ => rfl)

theorem buildSliceA_next {A : AW} {t : TypeId} {n : Nat} {ps : List (Nat × AV)} {r : AV × AW} (h : buildSliceA B A t n ps = some r) : Grow A r.2 := by
  unfold buildSliceA at h
  try simp only [Bool.cond_eq_ite] at h
  repeat' (split at h)
  all_goals
    first
      | contradiction
      | exact some_next h (.refl _)
      | exact some_next h (.new _ _)
      | exact some_next h (.put (by assumption) _)
      | exact some_next h (.trans (.put (by assumption) _) (.new _ _))
      | exact stMap_next h (fun _ => rfl)
      | exact opt_next h (fun _ => rfl)

theorem extA_next {A : AW} {x : Ext} {as : List AV} {r : AV × AW} (h : extA A x as = some r) : Grow A r.2 := by
  unfold extA at h
  try simp only [Bool.cond_eq_ite] at h
  repeat' (split at h)
  all_goals
    first
      | contradiction
      | exact some_next h (.refl _)
      | exact some_next h (.new _ _)
      | exact some_next h (.put (by assumption) _)
      | exact some_next h (.trans (.put (by assumption) _) (.new _ _))
      | exact stMap_next h (fun _ => rfl)
      | exact opt_next h (fun _ => rfl)

theorem updateA_next {A A' : AW} {t : TypeId} {m k v : AV} (h : updateA B A t m k v = some A') : Grow A A' := by
  unfold updateA at h
  simp only [Bool.cond_eq_ite] at h
  repeat' (split at h)
  all_goals first | contradiction | (cases h; exact .put (by assumption) _)

theorem ofP_next {A : AW} {x : Option (AV × AW)} {r : OR} (h : OR.ofP x = some r) (hx : ∀ p, x = some p → Grow A p.2) : Grow A r.outA := by
  obtain ⟨v, A', rfl, rfl⟩ := ofP_some h
  exact hx _ rfl
theorem ofV_next {A : AW} {x : Option AV} {r : OR} (h : OR.ofV A x = some r) : Grow A r.outA := by
  obtain ⟨v, rfl, rfl⟩ := ofV_some h
  exact Grow.refl _
theorem ofW_next {A : AW} {x : Option AW} {r : OR} (h : OR.ofW x = some r) (hx : ∀ A', x = some A' → Grow A A') : Grow A r.outA := by
  obtain ⟨A', rfl, rfl⟩ := ofW_some h
  exact hx _ rfl
theorem or_next {A : AW} {p r : OR} (h : some p = some r) (hp : Grow A p.outA) : Grow A r.outA := by cases h; exact hp

theorem enterA_next {A : AW} {f : FuncId} {as : List AV} {r : OR} (h : enterA B A f as = some r) : Grow A r.outA := by
  unfold enterA at h
  repeat' (split at h)
  all_goals first | contradiction | exact or_next h (.refl _) | exact ofP_next h (fun _ h => extA_next h)
theorem invokeA_next {A : AW} {f : Fn} {cs as : List AV} {r : OR} (h : invokeA B A f cs as = some r) : Grow A r.outA := by
  unfold invokeA at h
  repeat' (split at h)
  all_goals first | contradiction | exact enterA_next h | exact or_next h (.refl _)
theorem builtinA_next {A : AW} {b : Builtin} {ts : Array TypeId} {ty : TypeId} {as : List AV} {r : OR} (h : builtinA B A b ts ty as = some r) : Grow A r.outA := by
  unfold builtinA at h
  simp only [Bool.cond_eq_ite] at h
  repeat' (split at h)
  all_goals
    first
      | contradiction
      | exact or_next h (.refl _)
      | exact or_next h (.put (by assumption) _)
      | exact ofP_next h (fun _ h => appendA_next h)
      | exact ofP_next h (fun _ h => copyA_next h)
      | exact ofP_next h (fun _ h => clearA_next h)
      | exact ofV_next h
theorem opA_next {A : AW} {T : Tm} {o : Oper} {r : OR} (h : opA B A T o = some r) : Grow A r.outA := by
  unfold opA at h
  cases ho : o.op <;> rw [ho] at h <;> simp only [opK, Bool.cond_eq_ite] at h
  all_goals
    repeat' (split at h)
  all_goals
    first
      | contradiction
      | exact or_next h (.refl _)
      | exact or_next h (.new _ _)
      | exact ofV_next h
      | exact ofP_next h (fun _ h => buildSliceA_next h)
      | exact ofW_next h (fun _ h => st_next h)
      | exact ofP_next h (fun _ h => convA_next h)
      | exact ofP_next h (fun _ h => sliceA_next h)
      | exact ofW_next h (fun _ h => updateA_next h)
      | exact ofP_next h (fun _ h => rangeA_next h)
      | exact ofP_next h (fun _ h => nextA_next h)
      | exact builtinA_next h
      | exact invokeA_next h

def RnNext (rn : Rn) : Prop := ∀ n m c s r, rn n m c s = some r → Grow s.2.2 r.2.2.2

theorem bodyA_next {rn : Rn} (hrn : RnNext rn) {k : Md} {f : FuncId} {as : List AV} {A : AW} {r : Func × St} (h : bodyA B rn k f as A = some r) : Grow A r.2.2.2 := by
  unfold bodyA at h
  simp only [Bool.cond_eq_ite] at h
  repeat' (split at h)
  all_goals
    first
      | contradiction
      | (rename_i hr; cases h; exact hrn _ _ _ _ _ hr)

theorem leaveA_next {rn : Rn} (hrn : RnNext rn) : ∀ {ds : List DI} {A A' : AW}, leaveA B rn ds A = some A' → Grow A A'
  | [], A, A', h => by simp only [leaveA, Option.some.injEq] at h; subst h; exact Grow.refl _
  | .coll r :: ds, A, A', h => by
    simp only [leaveA] at h
    split at h
    · rename_i hb; exact (Grow.put hb .done).trans (leaveA_next hrn (A := A.put r .done) h)
    · cases h
  | .call d :: ds, A, A', h => by
    simp only [leaveA] at h
    repeat' (split at h)
    all_goals
      first
        | contradiction
        | (rename_i hb _ _ _; exact Grow.trans (bodyA_next hrn hb) (leaveA_next hrn h))
        | (rename_i hb _ _; exact Grow.trans (bodyA_next hrn hb) (leaveA_next hrn h))
        | (rename_i hb _ ; exact Grow.trans (bodyA_next hrn hb) (leaveA_next hrn h))
        | (rename_i hb; exact Grow.trans (bodyA_next hrn hb) (leaveA_next hrn h))

theorem primA_next {A : AW} {y : Prim} {as : List AV} {r : AV × AW} (h : primA A y as = some r) : Grow A r.2 := by
  unfold primA at h
  simp only [Bool.cond_eq_ite] at h
  repeat' (split at h)
  all_goals first | contradiction | exact some_next h (.refl _)

theorem callA_next {rn : Rn} (hrn : RnNext rn) {f : FuncId} {as : List AV} {A : AW} {r : AV × AW} (h : callA B rn f as A = some r) : Grow A r.2 := by
  unfold callA at h
  split at h
  · exact primA_next h
  · split at h
    · cases h
    · rename_i hb
      split at h
      · cases h
      · rename_i hl
        split at h
        · cases h
          exact Grow.trans (bodyA_next hrn hb) (leaveA_next hrn hl)
        · cases h

theorem roundA_next {rn : Rn} (hrn : RnNext rn) {l : Nat} {as : List AV} {A : AW} {r : AV × AW} (h : roundA rn l as A = some r) : Grow A r.2 := by
  unfold roundA at h
  split at h
  · simp only [Bool.cond_eq_ite] at h
    split at h
    · cases h
    · split at h
      · rename_i h1
        split at h
        · rename_i hb
          split at h
          · rename_i h2
            have e1 := hrn _ _ _ _ _ h1
            have e2 := hrn _ _ _ _ _ h2
            simp only at e1 e2
            have e3 := (Grow.trans e1 (Grow.put hb _)).trans e2
            split at h
            · rename_i hb2
              split at h <;> exact some_next h (e3.trans (.put hb2 _))
            · cases h
          · cases h
        · cases h
      · cases h
  · cases h

theorem doA_next {rn : Rn} (hrn : RnNext rn) {k : Md} {T : Tm} {ds : List DI} {A : AW} {o : Oper} {r : AV × List DI × AW} (h : doA B rn k T ds A o = some r) : Grow A r.2.2 := by
  unfold doA at h
  split at h
  · cases h
  · rename_i ho; cases h; exact opA_next ho
  · rename_i ho
    split at h
    · rename_i hc; cases h; exact Grow.trans (opA_next ho) (callA_next hrn hc)
    · cases h
  · rename_i ho
    split at h
    · rename_i hc; cases h; exact Grow.trans (opA_next ho) (roundA_next hrn hc)
    · cases h
  · rename_i ho
    split at h
    · cases h; exact opA_next ho
    · cases h
  · rename_i ho
    split at h
    · cases h; exact opA_next ho
    · cases h

theorem opsA_next {rn : Rn} (hrn : RnNext rn) {n : Nat} {k : Md} {ops : Array Oper} : ∀ {l : List Oper} {T : Tm} {ds : List DI} {A : AW} {r : Ctl × St}, opsA B rn n k ops l T ds A = some r → Grow A r.2.2.2
  | [], T, ds, A, r, h => by simp only [opsA, Option.some.injEq] at h; subst h; exact Grow.refl _
  | o :: l, T, ds, A, r, h => by
    simp only [opsA, Bool.cond_eq_ite] at h
    split at h
    · cases h
    · split at h
      · cases h
      · exact opsA_next hrn h
      · split at h
        · cases h
        · rename_i hd
          exact Grow.trans (doA_next hrn hd) (opsA_next hrn h)

theorem opsD_next {n : Nat} {ops : Array Oper} : ∀ {l : List Oper} {T : Tm} {ds : List DI} {A : AW} {r : Ctl × St}, opsD B n ops l T ds A = some r → Grow A r.2.2.2
  | [], T, ds, A, r, h => by simp only [opsD, Option.some.injEq] at h; subst h; exact Grow.refl _
  | o :: l, T, ds, A, r, h => by
    simp only [opsD, Bool.cond_eq_ite] at h
    split at h
    · cases h
    · split at h
      · cases h
      · exact opsD_next h
      · split at h
        · rename_i ho
          exact Grow.trans (opA_next ho) (opsD_next h)
        · rename_i ho
          exact Grow.trans (opA_next ho) (opsD_next h)
        · cases h

theorem opsT_next {rn : Rn} (hrn : RnNext rn) {n : Nat} {ops : Array Oper} : ∀ {l : List Oper} {i : Nat} {T : Tm} {A : AW} {r : List (Nat × Cls) × Tm × AW}, opsT B rn n ops i l T A = some r → Grow A r.2.2
  | [], i, T, A, r, h => by simp only [opsT, Option.some.injEq] at h; subst h; exact Grow.refl _
  | o :: l, i, T, A, r, h => by
    simp only [opsT, Bool.cond_eq_ite] at h
    split at h
    · cases h
    · split at h
      · cases h
      · exact opsT_next hrn h
      · split at h
        · rename_i hd
          split at h
          · rename_i ht
            cases h
            have e1 := doA_next hrn hd
            have e2 := opsT_next hrn ht
            exact Grow.trans e1 e2
          · cases h
        · cases h

theorem drawA_next {rn : Rn} (hrn : RnNext rn) {n : Nat} {ops : Array Oper} {s : St} {r : Ctl × St} (h : drawA B rn n ops s = some r) : Grow s.2.2 r.2.2.2 := by
  unfold drawA at h
  simp only [Bool.cond_eq_ite] at h
  split at h
  · cases h
  · split at h
    · rename_i ht
      split at h
      · cases h; exact opsT_next hrn ht
      · cases h
    · cases h

theorem stepA_next {rn : Rn} (hrn : RnNext rn) : RnNext (fun n k c => stepA B rn n k c) := by
  intro n k c s r h
  cases c <;> simp only [stepA, Bool.cond_eq_ite] at h
  case skip => cases h; exact Grow.refl _
  case label => cases h; exact Grow.refl _
  case exit => cases h; exact Grow.refl _
  case ret => cases h; exact Grow.refl _
  case region id ops draw =>
    split at h
    · exact drawA_next hrn h
    · split at h
      · exact opsD_next h
      · exact opsA_next hrn h
  case seq a b =>
    split at h
    · rename_i h1; exact Grow.trans (hrn _ _ _ _ _ h1) (hrn _ _ _ _ _ h)
    · exact hrn _ _ _ _ _ h
  case cond c x y =>
    split at h
    · exact hrn _ _ _ _ _ h
    · cases h
  case block id body =>
    split at h
    · rename_i h1
      have e1 := hrn _ _ _ _ _ h1
      cases h; exact e1
    · exact hrn _ _ _ _ _ h
  case loop body =>
    split at h
    · rename_i h1; exact Grow.trans (hrn _ _ _ _ _ h1) (hrn _ _ _ _ _ h)
    · exact hrn _ _ _ _ _ h
  case scope body => cases h
  case rangeFunc g ps asg body =>
    split at h
    · split at h
      · rename_i hc
        have h1 := callA_next hrn hc
        have h2 : Grow s.2.2 ((s.2.2.new .defs).new (.loop .ready none 0 n s.1 ps.toList asg body s.2.2.next)) := (Grow.new _ _).trans (.new _ _)
        have h3 := Grow.trans h2 h1
        split at h
        · cases h
        · rename_i hb
          have h4 := fun o => Grow.trans h3 (Grow.put hb o)
          split at h <;> first | (cases h; exact h4 _) | cases h
        · cases h
      · cases h
    · cases h
  all_goals cases h

theorem runA_next : ∀ fuel, RnNext (runA B fuel)
  | 0 => fun _ _ _ _ _ h => by cases h
  | fuel + 1 => stepA_next (runA_next fuel)
end Go.Ax
namespace Go.Ax
open Go
variable {P : Program} {B : Tb} {G : Nat}

/-- A fence that lets all in. -/
structure Wide (F : Fence) : Prop where
  pl : F.plain = Fence.wide

theorem Wide.fn {F : Fence} (h : Wide F) (f : FuncId) : F.fn f := by
  have : F.plain.fn f := by rw [h.pl]; trivial
  exact this
theorem Wide.dp {F : Fence} (h : Wide F) : F.depth = none := by
  have : F.plain.depth = none := by rw [h.pl]; rfl
  exact this
theorem Wide.nd {F : Fence} (h : Wide F) {p : Prop} : F.depth.isSome = true → p := fun x => by rw [h.dp] at x; cases x
theorem wide_plain {F : Fence} (h : Wide F) : Wide F.plain := ⟨h.pl⟩
theorem wide_inRound {F : Fence} (h : Wide F) (l : Nat) : Wide (F.inRound l) := ⟨h.pl⟩

def RoOk (F : Fence) : Md → Prop
  | .rnd => F.round.isSome = true
  | _ => F.round = none

structure Fit (E : Env) (A : AW) (N : Nat) : Prop where
  fr : Free E A.next N
  wf : WF A
theorem Fit.sub {E : Env} {A : AW} {N N' : Nat} (h : Fit E A N) (k : N' ≤ N) : Fit E A N' := ⟨h.fr.sub (Nat.le_refl _) k, h.wf⟩
theorem Ext'.fit {E F : Env} {A A' : AW} {N : Nat} (h : Ext' E F A.next A'.next) (hf : Fit E A N) (g : Grow A A') : Fit F A' N := ⟨h.free hf.fr g.le, g.wf hf.wf⟩

def DIR (E : Env) : DI → Deferred → Prop
  | .call d, d' => DR E d d'
  | .coll r, d' => ∃ L, E r = some L ∧ d'.target = .collected L.blk

def DL (E : Env) : List DI → List Deferred → Prop
  | [], l => l = []
  | d :: ds, l => ∃ d' l', l = d' :: l' ∧ DIR E d d' ∧ DL E ds l'

theorem DIR.mono {E E' : Env} (k : E.le E') {d : DI} {d' : Deferred} (h : DIR E d d') : DIR E' d d' := by
  cases d with
  | call d => obtain ⟨fn, cap, h1, h2, h3, h4⟩ := h; exact ⟨fn, cap, h1, h2.mono k, h3.mono k, h4.mono k⟩
  | coll r => obtain ⟨L, h1, h2⟩ := h; exact ⟨L, k _ _ h1, h2⟩
theorem DL.mono {E E' : Env} (k : E.le E') : ∀ {ds : List DI} {l : List Deferred}, DL E ds l → DL E' ds l
  | [], l, h => h
  | d :: ds, l, h => by obtain ⟨d', l', rfl, h1, h2⟩ := h; exact ⟨d', l', rfl, h1.mono k, h2.mono k⟩

def CtlR : Ctl → Exit → Prop
  | .normal, e => e = .normal
  | .exit id, e => e = .exit id
  | .ret, e => e = .ret

/-- What is so behind a piece of code. -/
def Post (G n : Nat) (E : Env) (A : AW) (w : World) (c : Ctl) (s : St) : Exit → Act → World → Prop := fun e a' w' =>
  ∃ E', CtlR c e ∧ Stp G E A.heap.get w E' s.2.2.heap.get w' A.next s.2.2.next ∧ TR E' n s.1 a'.tmps ∧ DL E' s.2.1 a'.defers

/-- A row of slots. -/
theorem row_get : ∀ (vs : List AV) (t : Tm) (i j : Nat), (Tm.row t i vs).get j = if i ≤ j ∧ j < i + vs.length then vs[j - i]? else t.get j
  | [], t, i, j => by
    simp only [Tm.row, List.length_nil]
    rw [if_neg (by omega)]
  | v :: vs, t, i, j => by
    simp only [Tm.row, List.length_cons]
    rw [row_get vs _ (i + 1) j, Tm.get_set]
    by_cases e : j = i
    · subst e
      rw [if_neg (by omega), if_pos rfl, if_pos (by omega)]; simp
    · rw [if_neg e]
      by_cases e2 : i + 1 ≤ j ∧ j < i + 1 + vs.length
      · rw [if_pos e2, if_pos (by omega), show j - i = (j - (i + 1)) + 1 by omega]; simp
      · rw [if_neg e2, if_neg (by omega)]

theorem TR_enter {E : Env} {as : List AV} {vs : Array Value} (hv : VL E as vs.toList) {n : Nat} (hn : as.length ≤ n) : TR E n (Tm.row .emp 0 as) (vs ++ Array.replicate (n - vs.size) undef) := by
  have hl := hv.length
  simp only [Array.length_toList] at hl
  refine ⟨by simp; omega, fun i v h => ?_⟩
  rw [row_get] at h
  by_cases e : 0 ≤ i ∧ i < 0 + as.length
  · rw [if_pos e] at h
    obtain ⟨u, h1, h2⟩ := (VL_iff.1 hv).2 i v (by simpa using h)
    refine ⟨u, ?_, h2⟩
    rw [Array.getElem?_append_left (by omega)]
    simpa using h1
  · rw [if_neg e, Tm.get_emp] at h; cases h

/-- One result. -/
def rv (tm : Array Value) : ResultVar → Sem Value
  | .tmp t => pure (tm.getD t undef)
  | .cell a t => do loadVar t (← asAddr (tm.getD a undef))

theorem results_eq (fn : Func) (tm : Array Value) : results fn tm = (do
    let vs ← fn.results.mapM (rv tm)
    pure (if h : vs.size = 1 then vs[0] else .tuple vs)) := by
  unfold results
  congr 2

theorem vals_run (ok : Ok P B) {E : Env} {A : AW} {w : World} (hr : Rel G E A.heap.get w) {n : Nat} {T : Tm} {tm : Array Value} (ht : TR E n T tm) : ∀ {rs : List ResultVar} {vs : List AV}, valsA B A T rs = some vs →
    ∃ us : List Value, (rs.mapM (rv tm)).run P w = .ok us w ∧ VL E vs us
  | [], vs, h => by
    simp only [valsA, Option.some.injEq] at h; subst h
    exact ⟨[], by simp, rfl⟩
  | .tmp t :: rs, vs, h => by
    simp only [valsA] at h
    cases h1 : T.get t with
    | none => simp [h1] at h
    | some v =>
    cases h2 : valsA B A T rs with
    | none => simp [h1, h2] at h
    | some ws =>
      simp only [h1, h2, Option.some.injEq] at h
      subst h
      obtain ⟨us, g1, g2⟩ := vals_run ok hr ht h2
      obtain ⟨u, q1, q2⟩ := ht.slot t v h1
      refine ⟨u :: us, ?_, u, us, rfl, q2, g2⟩
      have hu : tm.getD t undef = u := by rw [Array.getD_eq_getD_getElem?, q1]; rfl
      simp only [List.mapM_cons, rv, hu, Sem.run_bind, Sem.run_pure, Result.andThen_ok]
      rw [g1]
      rfl
  | .cell a t :: rs, vs, h => by
    simp only [valsA] at h
    cases h1 : T.get a with
    | none => simp [h1] at h
    | some v =>
    cases v <;> simp only [h1, reduceCtorEq] at h
    rename_i b o
    cases h2 : ld B A t b o with
    | none => simp [h2] at h
    | some x =>
    cases h3 : valsA B A T rs with
    | none => simp [h2, h3] at h
    | some ws =>
      simp only [h2, h3, Option.some.injEq] at h
      subst h
      obtain ⟨us, g1, g2⟩ := vals_run ok hr ht h3
      obtain ⟨u, q1, q2⟩ := ht.slot a _ h1
      simp only [V] at q2
      obtain ⟨L, hL, rfl⟩ := q2
      obtain ⟨y, y1, y2⟩ := ld_ok (P := P) ok.t hr hL h2
      refine ⟨y :: us, ?_, y, us, rfl, y2, g2⟩
      have hu : tm.getD a undef = .pointer (some ⟨L.blk, L.sh + o, none⟩) := by rw [Array.getD_eq_getD_getElem?, q1]; rfl
      simp only [List.mapM_cons, rv, hu, asAddr, Sem.run_bind, Sem.run_pure, Result.andThen_ok, y1]
      rw [g1]
      rfl

theorem results_ok (ok : Ok P B) {E : Env} {A : AW} {w : World} (hr : Rel G E A.heap.get w) {n : Nat} {T : Tm} {tm : Array Value} (ht : TR E n T tm) {fn : Func} {vs : List AV} (h : valsA B A T fn.results.toList = some vs) :
    ∃ u, (results fn tm).run P w = .ok u w ∧ V E (resA vs) u := by
  obtain ⟨us, h1, h2⟩ := vals_run ok hr ht h
  rw [results_eq]
  have hm : (fn.results.mapM (rv tm)).run P w = .ok us.toArray w := by
    rw [Array.mapM_eq_mapM_toList, Sem.run_map, h1]
    rfl
  simp only [Sem.run_bind]
  rw [hm]
  simp only [Result.andThen_ok, Sem.run_pure]
  refine ⟨_, rfl, ?_⟩
  have hl := h2.length
  rcases vs with _ | ⟨v, _ | ⟨v2, vs⟩⟩
  · simp only [VL] at h2; subst h2
    simp only [List.size_toArray, List.length_nil, resA]
    simp [V, VL]
  · simp only [VL] at h2
    obtain ⟨u, _, rfl, h3, rfl⟩ := h2
    simpa [resA] using h3
  · simp only [List.length_cons] at hl
    rw [dif_neg (by simp; omega)]
    show V E (.tup _) _
    simp only [V]
    exact ⟨_, rfl, by simpa using h2⟩

/-- What lay lies; more may lie behind. -/
theorem Stp.grown {E : Env} {H : Nat → Option AObj} {w w' : World} (hr : Rel G E H w) (m : Nat) (ho : w'.os = w.os) (ht : w'.tape = w.tape) (hp : w'.output = w.output) (hsz : w.heap.size ≤ w'.heap.size)
    (hs : ∀ i, i < w.heap.size → w'.heap[i]? = w.heap[i]?) : Stp G E H w E H w' m m :=
  ⟨Nat.le_refl _, .refl _ _ _, ⟨fun b o L h1 h2 => (hr.obj b o L h1 h2).mono (.refl _) (hs _ (hr.bnd b L h2)), hr.inj, fun b L hb => Nat.lt_of_lt_of_le (hr.bnd b L hb) hsz, hr.off, kept_of (hs G (kept_lt hr.kept)) hr.kept⟩,
    ho, ht, hp, hsz, fun i hi _ => hs i hi, fun _ _ h => h⟩

structure YOk (P : Program) (B : Tb) (G : Nat) : Prop where
  index : ∀ f, B.Y f = some .index → ∀ (a b : ByteArray) (w : World), Kept G w → a.size < 4294967281 → b.size < 4294967281 →
    Calls P f #[.string a, .string b] w (fun e w' => e = .returned (.int .i64 (subAt (nats b) (nats a) ((nats a).length + 1 - (nats b).length) 0)) ∧ w'.os = w.os ∧ w'.tape = w.tape ∧ w'.output = w.output ∧
      w.heap.size ≤ w'.heap.size ∧ ∀ i, i < w.heap.size → w'.heap[i]? = w.heap[i]?)

def RnOk (P : Program) (G : Nat) (rn : Rn) : Prop := ∀ n k c s r, rn n k c s = some r → k ≠ .dfr → ∀ F nn E a w, Wide F → RoOk F k → TR E n s.1 a.tmps → DL E s.2.1 a.defers → Rel G E s.2.2.heap.get w →
  Fit E s.2.2 r.2.2.2.next → c.wpIn F nn P (Post G n E s.2.2 w r.1 r.2) a w

def RnOkS (P : Program) (G : Nat) (rn : Rn) : Prop := ∀ n c s r, rn n .dfr c s = some r → ∀ F nn E a w c₀ cs, c₀.mode = .returning → Wide F → F.round = none → TR E n s.1 a.tmps → DL E s.2.1 a.defers → Rel G E s.2.2.heap.get w →
  Fit E s.2.2 r.2.2.2.next → c.wpSIn F nn P (fun e a' cs' w' => cs' = c₀ :: cs ∧ Post G n E s.2.2 w r.1 r.2 e a' w') a (c₀ :: cs) w

/-- How a call ends. -/
def Ends (G : Nat) (E : Env) (A : AW) (w : World) (r : AV × AW) : Ending → World → Prop := fun e w' =>
  ∃ E' u, e = .returned u ∧ Stp G E A.heap.get w E' r.2.heap.get w' A.next r.2.next ∧ V E' r.1 u

theorem callsIn_of_calls {F : Fence} (hF : Wide F) {nn : Nat} {f : FuncId} {vs : Array Value} {w : World} {R : Ending → World → Prop} (h : Calls P f vs w R) : CallsIn F nn P f vs w R := by
  have : CallsIn F.plain nn P f vs w R := by rw [hF.pl]; exact callsIn_wide.2 h
  exact this

theorem prim_ok (yk : YOk P B G) {E : Env} {A : AW} {w : World} (hr : Rel G E A.heap.get w) {f : FuncId} {y : Prim} (hy : B.Y f = some y) {as : List AV} {vs : Array Value} (hv : VL E as vs.toList) {r : AV × AW} (h : primA A y as = some r) :
    Calls P f vs w (Ends G E A w r) := by
  cases y
  unfold primA at h
  split at h <;> first | contradiction | skip
  · rename_i a b _
    cases hc : (Nat.blt (len a) 4294967281 && Nat.blt (len b) 4294967281) <;> simp only [hc, cond_true, cond_false, reduceCtorEq, Option.some.injEq] at h
    subst h
    simp only [Bool.and_eq_true, Nat.blt_eq, len_eq] at hc
    simp only [VL] at hv
    obtain ⟨v, _, h1, h2, u, _, rfl, h3, rfl⟩ := hv
    obtain ⟨a', rfl, rfl⟩ := V_str h2
    obtain ⟨b', rfl, rfl⟩ := V_str h3
    have hvs : vs = #[.string a', .string b'] := by rw [← Array.toList_inj, h1]
    subst hvs
    rw [nats_len, nats_len] at hc
    refine Calls.mono (yk.index f hy a' b' w hr.kept hc.1 hc.2) ?_
    rintro e w' ⟨rfl, k1, k2, k3, k4, k5⟩
    exact ⟨E, _, rfl, Stp.grown hr _ k1 k2 k3 k4 k5, by rw [len_eq, len_eq]; rfl⟩
end Go.Ax
namespace Go.Ax
open Go
variable {P : Program} {B : Tb} {G : Nat}

theorem bodyA_inv {rn : Rn} {k : Md} {f : FuncId} {as : List AV} {A : AW} {fn : Func} {s : St} (h : bodyA B rn k f as A = some (fn, s)) :
    B.F f = some fn ∧ ∃ c ctl, fn.body = some c ∧ as.length ≤ fn.ntmps ∧ rn fn.ntmps k c (Tm.row .emp 0 as, [], A) = some (ctl, s) ∧ (ctl = .normal ∨ ctl = .ret) := by
  unfold bodyA at h
  split at h
  · cases h
  · rename_i fn' hF
    split at h
    · cases h
    · rename_i c hb
      cases hl : Nat.ble (len as) fn'.ntmps <;> simp only [hl, Bool.not_true, Bool.not_false, cond_true, cond_false, reduceCtorEq] at h
      rw [Nat.ble_eq, len_eq] at hl
      split at h
      · rename_i hr; cases h; exact ⟨hF, c, _, hb, hl, hr, .inl rfl⟩
      · rename_i hr; cases h; exact ⟨hF, c, _, hb, hl, hr, .inr rfl⟩
      · cases h

theorem leave_ok (ok : Ok P B) {rn : Rn} (h2 : RnOkS P G rn) (hn : RnNext rn) {F : Fence} (hF : Wide F) (hro : F.round = none) {fn : Func} {n : Nat} {T : Tm} {tm : Array Value} {R : Ending → World → Prop} {vs : List AV} :
    ∀ {ds : List DI} {l : List Deferred} {E : Env} {A A' : AW} {w : World} (nn : Nat), leaveA B rn ds A = some A' → valsA B A' T fn.results.toList = some vs → DL E ds l → TR E n T tm → Rel G E A.heap.get w → Fit E A A'.next →
    (∀ E' w' u, Stp G E A.heap.get w E' A'.heap.get w' A.next A'.next → V E' (resA vs) u → R (.returned u) w') → LeavesInM F nn P fn tm R l .returning w
  | [], l, E, A, A', w, nn, h, hv, hd, ht, hr, hf, K => by
    simp only [DL] at hd; subst hd
    simp only [leaveA, Option.some.injEq] at h; subst h
    obtain ⟨u, g1, g2⟩ := results_ok (P := P) ok hr ht hv
    exact ⟨u, g1, K E w u (Stp.refl hr _) g2⟩
  | .coll r :: ds, l, E, A, A', w, nn, h, hv, hd, ht, hr, hf, K => by
    obtain ⟨d', l', rfl, ⟨L, hL, htar⟩, hd'⟩ := hd
    simp only [leaveA] at h
    cases hb : A.heap.get r with
    | none => simp [hb] at h
    | some ob =>
      cases ob <;> simp only [hb, reduceCtorEq] at h
      have hob := hr.obj r _ L hb hL
      simp only [ObjR] at hob
      have hg : (getObj L.blk).run P w = .ok (.deferred (some [])) w := getObj_run hob (by simp)
      have hst := Stp.setObj hr hb (by simp) hL (.deferred none) (o := .done) trivial
      refine ⟨by simp, .inl ⟨L.blk, { w with heap := w.heap.setIfInBounds L.blk (.deferred none) }, htar, ?_, ?_⟩⟩
      · unfold Instr.takeDeferred
        simp only [Sem.run_bind, hg, Result.andThen_ok, setObj_run hob (by simp), Sem.run_pure]
      · exact leave_ok ok h2 hn hF hro nn h hv hd' ht hst.rel ⟨hf.fr, (Grow.put hb .done).wf hf.wf⟩ (fun E' w' u s v => K E' w' u (hst.trans s) v)
  | .call d :: ds, l, E, A, A', w, nn, h, hv, hd, ht, hr, hf, K => by
    obtain ⟨d', l', rfl, ⟨fv, cap, htar, hfn, hcap, hargs⟩, hd'⟩ := hd
    simp only [leaveA] at h
    split at h
    · rename_i f hdf
      split at h
      · rename_i fn1 hF1
        split at h
        · split at h
          · rename_i g T1 A1 hbody
            split at h
            · rename_i vs1 hv1
              obtain ⟨hFg, c, ctl, hc, hlen, hrun, hctl⟩ := bodyA_inv hbody
              obtain ⟨hP, hname⟩ := ok.m.F f g hFg
              rw [hdf] at hfn
              simp only [FnR] at hfn; subst hfn
              have hn1 := bodyA_next hn hbody
              have hn2 := leaveA_next hn h
              simp only at hn1
              have hin : VL E (d.args ++ d.captured) (d'.args ++ cap).toList := by rw [Array.toList_append]; exact hargs.append hcap
              refine ⟨by simp, .inr ⟨hF.nd, .func f, cap, f, d'.args ++ cap, htar, ?_, fun g _ => hF.fn g, ?_⟩⟩
              · rw [htar]
                simp [invoke, callFunc, hP, hname, hc]
              · refine callsDIn_of_wpSIn hP hc (hF.fn f) (fun c₀ cs hm => ?_)
                have hw := h2 _ _ _ _ hrun F (nn - 1) E { tmps := (d'.args ++ cap) ++ Array.replicate (g.ntmps - (d'.args ++ cap).size) undef, defers := [] } w c₀ cs hm hF hro (TR_enter hin hlen) rfl hr (hf.sub hn2.le)
                intro b k hb1 hb2 hb3 hb4
                obtain ⟨e, a', cs', w', hl', ⟨hcs, E1, hce, hst, ht1, hd1⟩, harr⟩ := hw b k hb1 hb2 hb3 hb4
                refine ⟨e, a', cs', w', hl', ?_, harr⟩
                simp only [DL] at hd1
                obtain ⟨u, g1, g2⟩ := results_ok (P := P) ok hst.rel ht1 hv1
                have hc0 : ({ c₀ with mode := .returning } : Frame) = c₀ := by rw [← hm]
                have hrest : LeavesInM F nn P fn tm R l' (settle .returning) w' :=
                  leave_ok ok h2 hn hF hro nn h hv (hd'.mono hst.ext.le) (ht.mono hst.ext.le) hst.rel (hst.ext.fit hf hn1) (fun E' w'' u s v => K E' w'' u (hst.trans s) v)
                rcases hctl with rfl | rfl
                · simp only [CtlR] at hce; subst hce
                  exact ⟨hd1, .returning, by rw [hc0]; exact hcs, u, g1, hrest⟩
                · simp only [CtlR] at hce; subst hce
                  exact ⟨hd1, .returning, by rw [hc0]; exact hcs, u, g1, hrest⟩
            · cases h
          · cases h
        · cases h
      · cases h
    · cases h

theorem callA_ok (ok : Ok P B) (yk : YOk P B G) {rn : Rn} (h1 : RnOk P G rn) (h2 : RnOkS P G rn) (hn : RnNext rn) {f : FuncId} {as : List AV} {A : AW} {r : AV × AW} (h : callA B rn f as A = some r) {E : Env} {w : World} {vs : Array Value}
    (hv : VL E as vs.toList) (hr : Rel G E A.heap.get w) (hf : Fit E A r.2.next) {F : Fence} (hF : Wide F) (nn : Nat) : CallsIn F nn P f vs w (Ends G E A w r) := by
  unfold callA at h
  split at h
  · rename_i y hy
    exact callsIn_of_calls hF (prim_ok yk hr hy hv h)
  · split at h
    · cases h
    · rename_i fn T ds A1 hbody
      split at h
      · cases h
      · rename_i A2 hl
        split at h
        · rename_i us hus
          cases h
          obtain ⟨hFg, c, ctl, hc, hlen, hrun, hctl⟩ := bodyA_inv hbody
          obtain ⟨hP, hname⟩ := ok.m.F f fn hFg
          have hn1 := bodyA_next hn hbody
          have hn2 := leaveA_next hn hl
          have key : CallsIn F.plain nn P f vs w (Ends G E A w (resA us, A2)) := by
            refine callsIn_of_wp_marks hP hc (hF.fn f) ?_ rfl
            refine wpIn_mono (h1 _ _ _ _ _ hrun (by simp) F.plain nn E _ w (wide_plain hF) rfl (TR_enter hv hlen) rfl hr (hf.sub hn2.le)) ?_
            rintro e a' w' ⟨E1, hce, hst, ht1, hd1⟩
            have := leave_ok (fn := fn) (R := Ends G E A w (resA us, A2)) ok h2 hn (wide_plain hF) rfl nn hl hus hd1 ht1 hst.rel (hst.ext.fit hf hn1) (fun E' w'' u s v => ⟨E', u, rfl, hst.trans s, v⟩)
            rcases hctl with rfl | rfl
            · simp only [CtlR] at hce; subst hce; exact this
            · simp only [CtlR] at hce; subst hce; exact this
          exact key
        · cases h
end Go.Ax
namespace Go.Ax
open Go
variable {P : Program} {B : Tb} {G : Nat}

theorem fold_TR {E : Env} {n : Nat} : ∀ {ps : List Tmp} {as : List AV} {vs : List Value} {T : Tm} {tm : Array Value}, (ps.all fun p => Nat.blt p n) = true → VL E as vs → TR E n T tm →
    TR E n ((ps.zip as).foldl (fun T (p : Tmp × AV) => T.set p.1 p.2) T) ((ps.zip vs).foldl (fun tm (p : Tmp × Value) => tm.setIfInBounds p.1 p.2) tm)
  | [], as, vs, T, tm, _, _, ht => by simpa using ht
  | p :: ps, [], vs, T, tm, _, hv, ht => by simp only [VL] at hv; subst hv; simpa using ht
  | p :: ps, a :: as, vs, T, tm, hp, hv, ht => by
    simp only [VL] at hv
    obtain ⟨v, vs', rfl, h1, h2⟩ := hv
    simp only [List.all_cons, Bool.and_eq_true, Nat.blt_eq] at hp
    simp only [List.zip_cons_cons, List.foldl_cons]
    exact fold_TR hp.2 h2 (ht.set hp.1 h1)

theorem round_ok (ok : Ok P B) {rn : Rn} (h1 : RnOk P G rn) (hn : RnNext rn) {l : Nat} {as : List AV} {A : AW} {r : AV × AW} (h : roundA rn l as A = some r) {E : Env} {w : World} {L : Loc} (hL : E l = some L) {vs : Array Value}
    (hv : VL E as vs.toList) (hr : Rel G E A.heap.get w) (hf : Fit E A r.2.next) {F : Fence} (hF : Wide F) (nn : Nat) :
    ∃ f tm asg body, (Instr.yield L.blk vs).run P w = .ok (.round L.blk f tm asg body) w ∧ RoundIn F nn P L.blk f tm asg body w (Ends G E A w r) := by
  have hnx := roundA_next hn h
  unfold roundA at h
  split at h
  · rename_i f0 n0 T0 ps asg body dfs hb
    cases hck : (!Nat.beq (len as) (len ps) || !(ps.all fun p => Nat.blt p n0)) <;> simp only [hck, cond_true, cond_false, reduceCtorEq] at h
    simp only [Bool.or_eq_false_iff, Bool.not_eq_false', beq_nat, decide_eq_true_eq, len_eq] at hck
    obtain ⟨tm, fn, D, hob, htm, M, hM, rfl⟩ := hr.obj l _ L hb hL
    have hg : (Instr.getLoop L.blk).run P w = .ok { state := .ready, pending := none, fn, tmps := tm, params := ps.toArray, assign := asg, body, defers := M.blk } w := by
      unfold Instr.getLoop
      simp only [Sem.run_bind, getObj_run hob (by simp), Result.andThen_ok, Sem.run_pure]
    have hsz : vs.size = ps.toArray.size := by
      have := hv.length
      simp only [Array.length_toList] at this
      simp; omega
    refine ⟨fn, ((ps.zip vs.toList).foldl (fun tm (p : Tmp × Value) => tm.setIfInBounds p.1 p.2) tm), asg, body, ?_, ?_⟩
    · unfold Instr.yield
      simp only [Sem.run_bind, hg, Result.andThen_ok]
      rw [if_neg (by simpa using hsz)]
      simp only [Sem.run_pure]
      congr 2
      rw [← Array.foldl_toList, Array.toList_zip]
    · have hT := fold_TR hck.2 hv htm
      split at h
      · rename_i T1 A1 hrun1
        split at h
        · rename_i f2 n2 T2 ps2 asg2 body2 dfs2 hb2
          split at h
          · rename_i c2 T3 A2 hrun2
            have n1 := hn _ _ _ _ _ hrun1
            have n2' := hn _ _ _ _ _ hrun2
            simp only at n1 n2'
            split at h
            · rename_i st3 pd3 f3 n3 T3' ps3 asg3 body3 dfs3 hb3
              have hnext : A2.next = r.2.next := by split at h <;> (cases h; rfl)
              have m1 : Grow A A1 := n1
              have l1 := m1.le
              have l2 : A1.next ≤ A2.next := n2'.le
              refine roundIn_of_wpIn (hF.fn _) (wpIn_mono (h1 _ _ _ _ _ hrun1 (by simp) (F.inRound L.blk) nn E _ w (wide_inRound hF _) rfl hT rfl hr (hf.sub (by simp only; omega))) ?_)
              rintro e a1 w1 ⟨E1, hce, hst1, ht1, hd1⟩
              simp only [CtlR] at hce; subst hce
              have hL1 := hst1.ext.le _ _ hL
              obtain ⟨tm2, fn2, D2, hob2, htm2, M2, hM2, rfl⟩ := hst1.rel.obj l _ L hb2 hL1
              have hg2 : (Instr.getLoop L.blk).run P w1 = .ok { state := .ready, pending := none, fn := fn2, tmps := tm2, params := ps2.toArray, assign := asg2, body := body2, defers := M2.blk } w1 := by
                unfold Instr.getLoop
                simp only [Sem.run_bind, getObj_run hob2 (by simp), Result.andThen_ok, Sem.run_pure]
              have hstb := Stp.setObj hst1.rel hb2 (by simp) hL1 (.loop { state := .busy, pending := none, fn := fn2, tmps := tm2, params := ps2.toArray, assign := asg2, body := body2, defers := M2.blk }) (o := .loop .busy none f2 n2 T2 ps2 asg2 body2 dfs2)
                ⟨tm2, fn2, M2.blk, set_self hob2, htm2, M2, hM2, rfl⟩
              refine ⟨_, ?_, wpIn_mono (h1 _ _ _ _ _ hrun2 (by simp) (F.inRound L.blk) nn E1 a1 _ (wide_inRound hF _) rfl ht1 hd1 hstb.rel ((hstb.ext.fit (hst1.ext.fit hf m1) (Grow.put hb2 _)).sub (by simp only; omega))) ?_⟩
              · unfold Instr.beginRound
                simp only [Sem.run_bind, hg2, Result.andThen_ok, setObj_run hob2 (by simp), Sem.run_pure]
              · rintro e a2 w3 ⟨E2, hce2, hst2, ht2, hd2⟩
                have hL2 := hst2.ext.le _ _ hL1
                obtain ⟨tm3, fn3, D3, hob3, htm3, M3, hM3, rfl⟩ := hst2.rel.obj l _ L hb3 hL2
                have hg3 : (Instr.getLoop L.blk).run P w3 = .ok { state := st3, pending := pd3, fn := fn3, tmps := tm3, params := ps3.toArray, assign := asg3, body := body3, defers := M3.blk } w3 := by
                  unfold Instr.getLoop
                  simp only [Sem.run_bind, getObj_run hob3 (by simp), Result.andThen_ok, Sem.run_pure]
                have fin : ∀ (j : Option Code) (st : LoopState), st = (if j.isNone then LoopState.ready else .done) → r = (.bool j.isNone, A2.put l (.loop st j f3 n3 T3' ps3 asg3 body3 dfs3)) →
                    ∃ v w', (Instr.endRound L.blk j).run P w3 = .ok v w' ∧ Ends G E A w r (.returned v) w' := by
                  rintro j st rfl rfl
                  have hste := Stp.setObj hst2.rel hb3 (by simp) hL2 (.loop { state := if j.isNone then LoopState.ready else .done, pending := j, fn := fn3, tmps := tm3, params := ps3.toArray, assign := asg3, body := body3, defers := M3.blk })
                    (o := .loop (if j.isNone then LoopState.ready else .done) j f3 n3 T3' ps3 asg3 body3 dfs3) ⟨tm3, fn3, M3.blk, set_self hob3, htm3, M3, hM3, rfl⟩
                  refine ⟨.bool j.isNone, _, ?_, E2, _, rfl, (hst1.trans hstb).trans (hst2.trans hste), rfl⟩
                  unfold Instr.endRound
                  simp only [Sem.run_bind, hg3, Result.andThen_ok, setObj_run hob3 (by simp), Sem.run_pure]
                cases c2 with
                | normal => simp only [CtlR] at hce2; subst hce2; cases h; exact fin none _ rfl rfl
                | ret => simp only [CtlR] at hce2; subst hce2; cases h; exact fin (some .ret) _ rfl rfl
                | exit id => simp only [CtlR] at hce2; subst hce2; cases h; exact fin (some (.exit id)) _ rfl rfl
            · cases h
          · cases h
        · cases h
      · cases h
  · cases h
end Go.Ax
namespace Go.Ax
open Go
variable {P : Program} {B : Tb} {G : Nat}

theorem not_bool {E : Env} {a : AV} {v : Value} (hv : V E a v) (h1 : ∀ b, a ≠ .bool b) (h2 : a ≠ .junk) (b : Bool) : v ≠ .bool b := by
  rintro rfl
  cases a <;> simp only [V] at hv
  case bool c => exact h1 c rfl
  case junk => exact h2 rfl
  all_goals simp at hv

theorem wanted_ok {E : Env} {n : Nat} {ops : Array Oper} {T : Tm} {tm : Array Value} {o : Oper} {b : Bool} (ht : TR E n T tm) (h : wantedA ops T o = some b) : Region.wanted o (yielded ops tm) = b := by
  unfold wantedA at h
  unfold Region.wanted
  cases hg : o.guard with
  | none => simp only [hg, Option.some.injEq] at h; exact h
  | some p =>
    obtain ⟨j, want⟩ := p
    simp only [hg] at h ⊢
    unfold yielded
    cases hd : (ops[j]?).bind (·.dst) with
    | none =>
      simp only [hd, Option.some.injEq] at h; subst h
      simp
    | some d =>
      simp only [hd] at h
      cases hT : T.get d with
      | none => simp [hT] at h
      | some v =>
        obtain ⟨v', h1, h2⟩ := ht.slot d v hT
        simp only [Option.bind_some, h1]
        by_cases hb : ∃ c, v = .bool c
        · obtain ⟨c, rfl⟩ := hb
          simp only [hT, Option.some.injEq] at h
          subst h
          rw [V_bool h2]
          cases c <;> cases want <;> rfl
        · by_cases hj : v = .junk
          · subst hj; simp [hT] at h
          · have hnb := not_bool h2 (fun c e => hb ⟨c, e⟩) hj
            have hf : b = false := by
              cases v <;> simp only [hT, Option.some.injEq] at h <;> first | exact h.symm | exact absurd rfl hj | exact absurd ⟨_, rfl⟩ hb
            subst hf
            cases v' <;> first | rfl | exact absurd rfl (hnb _)

/-- An operation is carried out, whoever's code it is, but a deferred call's recover. -/
theorem doA_ok (ok : Ok P B) (yk : YOk P B G) {rn : Rn} (h1 : RnOk P G rn) (h2 : RnOkS P G rn) (hn : RnNext rn) {k : Md} (hk : k ≠ .dfr) {T : Tm} {ds : List DI} {A : AW} {o : Oper} {r : AV × List DI × AW} (h : doA B rn k T ds A o = some r)
    {E : Env} {n : Nat} {a : Act} {w : World} (ht : TR E n T a.tmps) (hd : DL E ds a.defers) (hr : Rel G E A.heap.get w) (hf : Fit E A r.2.2.next) {F : Fence} (hF : Wide F) (hro : k = .fn → F.round = none) (nn : Nat) {Q : Exit → Act → World → Prop} {K : Act → World → Prop}
    (hK : ∀ (E' : Env) (a' : Act) (v : Value) (w' : World), Stp G E A.heap.get w E' r.2.2.heap.get w' A.next r.2.2.next → V E' r.1 v → a'.tmps = a.tmps → DL E' r.2.1 a'.defers → K (a'.put o.dst v) w') : o.wpIn F nn P a w K Q := by
  refine ⟨fun f _ => hF.fn f, ?_⟩
  unfold doA at h
  have hsem : (∀ c, o.op ≠ .defer c) → o.semAt F.round a.eval = execOp a.eval o := fun hnd => Oper.semAt_eq _ _ _ hnd
  cases ho : opA B A T o with
  | none => simp [ho] at h
  | some q =>
    simp only [ho] at h
    have hnd : (∀ d A', q ≠ .defer d A') → ∀ c, o.op ≠ .defer c := by
      intro hq c hc
      unfold opA at ho
      rw [hc] at ho
      simp only [opK] at ho
      split at ho
      · cases ho; exact hq _ _ rfl
      · cases ho
    cases q with
    | val a1 A1 =>
      cases h
      obtain ⟨v, w', E', hrun, hst, hV⟩ := op_ok (P := P) ok hr ht ho hf.fr
      rw [hsem (hnd (fun _ _ => by simp))]
      rcases hrun with hrun | ⟨hrun, rfl⟩
      · rw [hrun]; exact hK E' a v w' hst hV rfl (hd.mono hst.ext.le)
      · rw [hrun]; exact hK E' a _ w' hst hV rfl (hd.mono hst.ext.le)
    | enter f args A1 =>
      simp only at h
      split at h
      · rename_i v A2 hc
        cases h
        have hnx := callA_next hn hc
        have hno := opA_next ho
        obtain ⟨rfl, vs, hrun, hvs, _⟩ := op_ok (P := P) (w := w) ok hr ht ho (hf.sub hnx.le).fr
        rw [hsem (hnd (fun _ _ => by simp)), hrun]
        refine ⟨hF.nd, CallsIn.mono (callA_ok ok yk h1 h2 hn hc hvs hr hf hF (nn - 1)) ?_⟩
        rintro e w'' ⟨E', u, rfl, hst, hV⟩
        exact hK E' a u w'' hst hV rfl (hd.mono hst.ext.le)
      · cases h
    | round l args A1 =>
      simp only at h
      split at h
      · rename_i v A2 hc
        cases h
        have hnx := roundA_next hn hc
        obtain ⟨rfl, L, vs, hL, hrun, hvs⟩ := op_ok (P := P) (w := w) ok hr ht ho (hf.sub hnx.le).fr
        obtain ⟨f, tm, asg, body, hy, hround⟩ := round_ok (P := P) ok h1 hn hc hL hvs hr hf hF (nn - 1)
        rw [hsem (hnd (fun _ _ => by simp)), hrun, hy]
        refine ⟨hF.nd, RoundIn.mono hround ?_⟩
        rintro e w'' ⟨E', u, rfl, hst, hV⟩
        exact hK E' a u w'' hst hV rfl (hd.mono hst.ext.le)
      · cases h
    | defer d A1 =>
      cases k <;> simp only [reduceCtorEq, Option.some.injEq] at h
      subst h
      obtain ⟨rfl, d', hrun, hdr⟩ := op_ok (P := P) (w := w) ok hr ht ho hf.fr
      have hro' : F.round = none := hro rfl
      rw [hro', Oper.semAt_none, hrun]
      exact hK E { a with defers := d' :: a.defers } undef w (Stp.refl hr _) (undef_V E) rfl ⟨d', _, rfl, hdr, hd⟩
    | recov A1 =>
      cases k <;> first | exact absurd rfl hk | simp only [reduceCtorEq] at h

theorem put_TR {E : Env} {n : Nat} {T : Tm} {a' : Act} {d : Option Tmp} {v : AV} {v' : Value} (ht : TR E n T a'.tmps) (hd : inN n d = true) (hv : V E v v') : TR E n (putT T d v) (a'.put d v').tmps := by
  cases d with
  | none => exact ht
  | some d =>
    simp only [inN, Nat.blt_eq] at hd
    exact ht.set hd hv

theorem opsA_ok (ok : Ok P B) (yk : YOk P B G) {rn : Rn} (h1 : RnOk P G rn) (h2 : RnOkS P G rn) (hn : RnNext rn) {k : Md} (hk : k ≠ .dfr) {n : Nat} {ops : Array Oper} {F : Fence} (hF : Wide F) (hro : RoOk F k) (nn : Nat) :
    ∀ (l : List Nat) (os : List Oper) {T : Tm} {ds : List DI} {A : AW} {r : Ctl × St} {E : Env} {a : Act} {w : World} {Q : Exit → Act → World → Prop}, l.map (ops[·]?) = os.map some → opsA B rn n k ops os T ds A = some r → TR E n T a.tmps → DL E ds a.defers → Rel G E A.heap.get w → Fit E A r.2.2.2.next →
    (∀ e a' w', Post G n E A w r.1 r.2 e a' w' → Q e a' w') → wpOpsIn F nn P ops Q l a w
  | [], [], T, ds, A, r, E, a, w, Q, _, h, ht, hd, hr, hf, hQ => by
    simp only [opsA, Option.some.injEq] at h; subst h
    exact hQ _ _ _ ⟨E, rfl, Stp.refl hr _, ht, hd⟩
  | i :: l, o :: os, T, ds, A, r, E, a, w, Q, hl, h, ht, hd, hr, hf, hQ => by
    simp only [List.map_cons, List.cons.injEq] at hl
    simp only [opsA] at h
    cases hin : inN n o.dst <;> simp only [hin, Bool.not_true, Bool.not_false, cond_true, cond_false, reduceCtorEq] at h
    unfold wpOpsIn
    simp only [hl.1]
    cases hw : wantedA ops T o with
    | none => simp [hw] at h
    | some b =>
      rw [wanted_ok ht hw]
      cases b with
      | false =>
        simp only [hw] at h
        simp only [Bool.false_eq_true, if_false]
        exact ⟨fun f _ => hF.fn f, opsA_ok ok yk h1 h2 hn hk hF hro nn l os hl.2 h (put_TR ht hin (undef_V E)) (by cases o.dst <;> exact hd) hr hf hQ⟩
      | true =>
        simp only [hw] at h
        simp only [if_true]
        cases hdo : doA B rn k T ds A o with
        | none => simp [hdo] at h
        | some p =>
          obtain ⟨v, ds', A'⟩ := p
          simp only [hdo] at h
          have m1 := doA_next hn hdo
          have m2 := opsA_next hn h
          refine doA_ok ok yk h1 h2 hn hk hdo ht hd hr (hf.sub m2.le) hF (fun e => by subst e; exact hro) nn (fun E' a' v' w' hst hV hta hda => ?_)
          refine opsA_ok ok yk h1 h2 hn hk hF hro nn l os hl.2 h (put_TR (by rw [hta]; exact ht.mono hst.ext.le) hin hV) (by cases o.dst <;> exact hda) hst.rel (hst.ext.fit hf m1) (fun e a2 w2 hp => hQ e a2 w2 ?_)
          obtain ⟨E2, q1, q2, q3, q4⟩ := hp
          exact ⟨E2, q1, hst.trans q2, q3, q4⟩
  | [], o :: os, T, ds, A, r, E, a, w, Q, hl, _, _, _, _, _, _ => by simp at hl
  | i :: l, [], T, ds, A, r, E, a, w, Q, hl, _, _, _, _, _, _ => by simp at hl
end Go.Ax
namespace Go.Ax
open Go
variable {P : Program} {B : Tb} {G : Nat}

/-- A region that draws its order. -/
def DrawOk (P : Program) (B : Tb) (G : Nat) (rn : Rn) : Prop := ∀ n ops s r, drawA B rn n ops s = some r → ∀ F nn E a w id, Wide F → TR E n s.1 a.tmps → DL E s.2.1 a.defers → Rel G E s.2.2.heap.get w → Fit E s.2.2 r.2.2.2.next →
  (Code.region id ops true).wpIn F nn P (Post G n E s.2.2 w r.1 r.2) a w

theorem Post.trans {n : Nat} {E E1 : Env} {A A1 : AW} {w w1 : World} {c : Ctl} {s : St} {e : Exit} {a' : Act} {w' : World} (h : Stp G E A.heap.get w E1 A1.heap.get w1 A.next A1.next) (hp : Post G n E1 A1 w1 c s e a' w') : Post G n E A w c s e a' w' := by
  obtain ⟨E2, q1, q2, q3, q4⟩ := hp
  exact ⟨E2, q1, h.trans q2, q3, q4⟩

theorem range_map {ops : Array Oper} : (List.range ops.size).map (ops[·]?) = ops.toList.map some := by
  apply List.ext_getElem?
  intro i
  simp only [List.getElem?_map]
  by_cases h : i < ops.size
  · simp [h]
  · simp [h]

/-- The rounds of a loop: as many as the fuel. -/
def RnLoop (P : Program) (G : Nat) (m : Nat) (rn : Rn) : Prop := ∀ n k body s r, rn n k (.loop body) s = some r → k ≠ .dfr → ∀ F nn E a w, Wide F → RoOk F k → TR E n s.1 a.tmps → DL E s.2.1 a.defers → Rel G E s.2.2.heap.get w →
  Fit E s.2.2 r.2.2.2.next → ∀ Q : Exit → Act → World → Prop, (∀ e a' w', Post G n E s.2.2 w r.1 r.2 e a' w' → Q e a' w') → Code.roundsIn F nn P body Q m a w

theorem loop_step {rn : Rn} {m : Nat} (h1 : RnOk P G rn) (hl : RnLoop P G m rn) (hn : RnNext rn) : RnLoop P G (m + 1) (fun n k c => stepA B rn n k c) := by
  intro n k body s r h hk F nn E a w hF hro ht hdl hr hf Q hQ
  have hlow : low k = k := by cases k <;> first | rfl | exact absurd rfl hk
  simp only [stepA, hlow] at h
  rw [roundsIn_succ]
  split at h
  · rename_i s1 hx
    have m1 := hn _ _ _ _ _ hx
    have m2 := hn _ _ _ _ _ h
    refine wpIn_mono (h1 _ _ _ _ _ hx hk F nn E a w hF hro ht hdl hr (hf.sub m2.le)) ?_
    rintro e a1 w1 ⟨E1, hce, hst, ht1, hd1⟩
    simp only [CtlR] at hce; subst hce
    exact hl _ _ _ _ _ h hk F nn E1 a1 w1 hF hro ht1 hd1 hst.rel (hst.ext.fit hf m1) Q (fun e a' w' hp => hQ _ _ _ (Post.trans hst hp))
  · rename_i hne
    have hrn : r.1 ≠ .normal := fun e => hne r.2 (by rw [h, ← e])
    refine wpIn_mono (h1 _ _ _ _ _ h hk F nn E a w hF hro ht hdl hr hf) ?_
    rintro e a1 w1 hp
    have hp' := hp
    obtain ⟨E1, hce, _⟩ := hp'
    obtain ⟨c, s'⟩ := r
    cases c with
    | normal => exact absurd rfl hrn
    | exit id => simp only [CtlR] at hce; subst hce; exact hQ _ _ _ hp
    | ret => simp only [CtlR] at hce; subst hce; exact hQ _ _ _ hp

theorem step_simple (ok : Ok P B) (yk : YOk P B G) {rn : Rn} (h1 : RnOk P G rn) (h2 : RnOkS P G rn) (hn : RnNext rn) (hd : DrawOk P B G rn) {m : Nat} (hlp : RnLoop P G m (fun n k c => stepA B rn n k c))
    (hrf : ∀ n k g ps asg body s r, stepA B rn n k (.rangeFunc g ps asg body) s = some r → k ≠ .dfr → ∀ F nn E a w, Wide F → RoOk F k → TR E n s.1 a.tmps → DL E s.2.1 a.defers → Rel G E s.2.2.heap.get w → Fit E s.2.2 r.2.2.2.next → (Code.rangeFunc g ps asg body).wpIn F nn P (Post G n E s.2.2 w r.1 r.2) a w) :
    RnOk P G (fun n k c => stepA B rn n k c) := by
  intro n k c s r h hk F nn E a w hF hro ht hdl hr hf
  have hlow : low k = k := by cases k <;> first | rfl | exact absurd rfl hk
  have pass : ∀ {s' : St} {c' : Ctl}, Post G n E s.2.2 w c' s' = Post G n E s.2.2 w c' s' := rfl
  cases c <;> simp only [stepA, hlow] at h <;> (try (exfalso; cases h; done))
  case skip => cases h; exact wpIn_skip ⟨E, rfl, Stp.refl hr _, ht, hdl⟩
  case label => cases h; exact wpIn_label ⟨E, rfl, Stp.refl hr _, ht, hdl⟩
  case exit id => cases h; exact wpIn_exit ⟨E, rfl, Stp.refl hr _, ht, hdl⟩
  case ret => cases h; exact wpIn_ret ⟨E, rfl, Stp.refl hr _, ht, hdl⟩
  case region id ops draw =>
    cases draw with
    | true => exact hd n ops s r h F nn E a w id hF ht hdl hr hf
    | false =>
      have hisd : isD k = false := by cases k <;> first | rfl | exact absurd rfl hk
      simp only [hisd, Bool.false_and, cond_false] at h
      exact wpIn_region (opsA_ok ok yk h1 h2 hn hk hF hro nn _ _ range_map h ht hdl hr hf (fun _ _ _ hp => hp))
  case seq x y =>
    split at h
    · rename_i s1 hx
      have m1 := hn _ _ _ _ _ hx
      have m2 := hn _ _ _ _ _ h
      refine wpIn_seq (wpIn_mono (h1 _ _ _ _ _ hx hk F nn E a w hF hro ht hdl hr (hf.sub m2.le)) ?_)
      rintro e a1 w1 ⟨E1, hce, hst, ht1, hd1⟩
      simp only [CtlR] at hce; subst hce
      exact wpIn_mono (h1 _ _ _ _ _ h hk F nn E1 a1 w1 hF hro ht1 hd1 hst.rel (hst.ext.fit hf m1)) (fun e a' w' hp => Post.trans hst hp)
    · rename_i hne
      have hrn : r.1 ≠ .normal := fun e => hne r.2 (by rw [h, ← e])
      refine wpIn_seq (wpIn_mono (h1 _ _ _ _ _ h hk F nn E a w hF hro ht hdl hr hf) ?_)
      rintro e a1 w1 hp
      have hp' := hp
      obtain ⟨E1, hce, _⟩ := hp'
      obtain ⟨c, s'⟩ := r
      cases c with
      | normal => exact absurd rfl hrn
      | exit id => simp only [CtlR] at hce; subst hce; exact hp
      | ret => simp only [CtlR] at hce; subst hce; exact hp
  case cond c x y =>
    split at h
    · rename_i b hc
      exact wpIn_cond (V_bool (ev_V ht hc)) (by
        have := h1 _ _ _ _ _ h hk F nn E a w hF hro ht hdl hr hf
        cases b <;> exact this)
    · cases h
  case block id body =>
    split at h
    · rename_i i s1 hx
      cases h
      refine wpIn_block (wpIn_mono (h1 _ _ _ _ _ hx hk F nn E a w hF hro ht hdl hr hf) ?_)
      rintro e a1 w1 ⟨E1, hce, hst, ht1, hd1⟩
      simp only [CtlR] at hce; subst hce
      show if i = id then _ else _
      rw [beq_nat]
      by_cases e : i = id
      · rw [if_pos e, decide_eq_true e]; exact ⟨E1, rfl, hst, ht1, hd1⟩
      · rw [if_neg e, decide_eq_false e]; exact ⟨E1, rfl, hst, ht1, hd1⟩
    · rename_i hne
      refine wpIn_block (wpIn_mono (h1 _ _ _ _ _ h hk F nn E a w hF hro ht hdl hr hf) ?_)
      rintro e a1 w1 hp
      have hp' := hp
      obtain ⟨E1, hce, _⟩ := hp'
      obtain ⟨c, s'⟩ := r
      cases c with
      | normal => simp only [CtlR] at hce; subst hce; exact hp
      | exit i => exact absurd h (hne i s')
      | ret => simp only [CtlR] at hce; subst hce; exact hp
  case loop body => exact wpIn_loop_rounds m (hlp n k body s r (by simp only [stepA, hlow]; exact h) hk F nn E a w hF hro ht hdl hr hf _ (fun _ _ _ hp => hp))
  case rangeFunc g ps asg body => exact hrf n k g ps asg body s r (by simp only [stepA, hlow]; exact h) hk F nn E a w hF hro ht hdl hr hf
end Go.Ax
namespace Go.Ax
open Go
variable {B : Tb}

/-- Two rows of slots say the same of an operand. -/
def EvEq (T T' : Tm) (xs : Array Operand) : Prop := ∀ x, x ∈ xs → ev T x = ev T' x

theorem EvEq.of {T T' : Tm} {xs : Array Operand} (h : ∀ t, t ∈ xs.toList.filterMap (fun | .tmp t => some t | _ => none) → T.get t = T'.get t) : EvEq T T' xs := by
  intro x hx
  cases x with
  | tmp t => exact h t (List.mem_filterMap.2 ⟨.tmp t, by simpa using hx, rfl⟩)
  | const v => rfl
  | global g => rfl
  | func f => rfl

theorem mapO_congr {α β : Type} {f g : α → Option β} : ∀ {l : List α}, (∀ x, x ∈ l → f x = g x) → mapO f l = mapO g l
  | [], _ => rfl
  | x :: l, h => by
    simp only [mapO]
    rw [h x (by simp), mapO_congr (fun y hy => h y (by simp [hy]))]

theorem parts2_congr {T T' : Tm} : ∀ {l : List (Nat × Operand)}, (∀ p, p ∈ l → ev T p.2 = ev T' p.2) → parts2 T l = parts2 T' l
  | [], _ => rfl
  | (i, x) :: l, h => by
    simp only [parts2]
    rw [h (i, x) (by simp), parts2_congr (fun y hy => h y (by simp [hy]))]

theorem resolveA_congr {T T' : Tm} {c : Call} (h : EvEq T T' c.operands) : resolveA T c = resolveA T' c := by
  unfold resolveA
  have h1 : mapO (ev T) c.args.toList = mapO (ev T') c.args.toList := mapO_congr (fun x hx => h x (by
    unfold Call.operands; exact Array.mem_append.2 (.inr (by simpa using hx))))
  rw [h1]
  cases hc : c.callee with
  | builtin b => rfl
  | value f =>
    have : ev T f = ev T' f := h f (by unfold Call.operands; rw [hc]; simp)
    simp only [this]
  | invoke r n =>
    have : ev T r = ev T' r := h r (by unfold Call.operands; rw [hc]; simp)
    simp only [this]

theorem opA_congr {A : AW} {T T' : Tm} {o : Oper} (h : EvEq T T' o.op.operands) : opA B A T o = opA B A T' o := by
  unfold opA
  cases ho : o.op <;> rw [ho] at h <;> simp only [opK]
  case pick c a b =>
    rw [h c (by simp [Op.operands]), h a (by simp [Op.operands]), h b (by simp [Op.operands])]
  case build t ps =>
    rw [parts2_congr (T := T) (T' := T') (fun p hp => h p.2 (by simp only [Op.operands]; simpa using ⟨p.1, by simpa using hp⟩))]
  case buildSlice t n ps =>
    rw [parts2_congr (T := T) (T' := T') (fun p hp => h p.2 (by simp only [Op.operands]; simpa using ⟨p.1, by simpa using hp⟩))]
  case makeFunc f a b =>
    rw [mapO_congr (f := ev T) (g := ev T') (fun x hx => h x (by simp only [Op.operands]; exact Array.mem_append.2 (.inl (by simpa using hx)))),
      mapO_congr (l := b.toList) (f := ev T) (g := ev T') (fun x hx => h x (by simp only [Op.operands]; exact Array.mem_append.2 (.inr (by simpa using hx))))]
  case makeMap t r =>
    cases r with
    | none => rfl
    | some x => simp only []; rw [h x (by simp [Op.operands])]
  case slice t x lo hi mx =>
    have e : ∀ y : Option Operand, (∀ z, y = some z → ev T z = ev T' z) → evO T y = evO T' y := by
      intro y hy
      cases y with
      | none => rfl
      | some z => simp only [evO]; rw [hy z rfl]
    rw [h x (by simp [Op.operands]), e lo (fun z hz => h z (by subst hz; simp [Op.operands])), e hi (fun z hz => h z (by subst hz; simp [Op.operands])),
      e mx (fun z hz => h z (by subst hz; simp [Op.operands]))]
  case call c =>
    cases hc : c.callee with
    | builtin b =>
      simp only []
      rw [mapO_congr (f := ev T) (g := ev T') (fun x hx => h x (by
        simp only [Op.operands]; unfold Call.operands; exact Array.mem_append.2 (.inr (by simpa using hx))))]
    | value f => simp only []; rw [resolveA_congr (T := T) (T' := T') h]
    | invoke r n => simp only []; rw [resolveA_congr (T := T) (T' := T') h]
  case defer c => rw [resolveA_congr (T := T) (T' := T') h]
  all_goals
    first
      | rfl
      | (rename_i x; rw [h x (by simp [Op.operands])]; done)
      | (rename_i x _; rw [h x (by simp [Op.operands])]; done)
      | (rename_i x _ _; rw [h x (by simp [Op.operands])]; done)
      | (rename_i x _ _ _; rw [h x (by simp [Op.operands])]; done)
      | (rename_i x y; rw [h x (by simp [Op.operands]), h y (by simp [Op.operands])]; done)
      | (rename_i x y _; rw [h x (by simp [Op.operands]), h y (by simp [Op.operands])]; done)
      | (rename_i x y z; rw [h x (by simp [Op.operands]), h y (by simp [Op.operands]), h z (by simp [Op.operands])]; done)

theorem opA_congr_slots {ops : Array Oper} {A : AW} {T T' : Tm} {o : Oper} (h : ∀ t, t ∈ o.looksAt ops → T.get t = T'.get t) : opA B A T o = opA B A T' o :=
  opA_congr (EvEq.of fun t ht => h t (by unfold Oper.looksAt; exact List.mem_append_left _ ht))

theorem wantedA_congr {ops : Array Oper} {T T' : Tm} {o : Oper} (h : ∀ t, t ∈ o.looksAt ops → T.get t = T'.get t) : wantedA ops T o = wantedA ops T' o := by
  unfold wantedA
  cases hg : o.guard with
  | none => rfl
  | some p =>
    obtain ⟨j, want⟩ := p
    simp only []
    cases hd : (ops[j]?).bind (·.dst) with
    | none => rfl
    | some d =>
      simp only []
      rw [h d (by unfold Oper.looksAt; rw [hg]; simp [hd])]

theorem doA_congr {rn : Rn} {k : Md} {ops : Array Oper} {A : AW} {T T' : Tm} {ds : List DI} {o : Oper} (h : ∀ t, t ∈ o.looksAt ops → T.get t = T'.get t) : doA B rn k T ds A o = doA B rn k T' ds A o := by
  unfold doA
  rw [opA_congr_slots h]

/-! What reads no block. -/
theorem ofV_all {A : AW} {x : Option AV} {r : OR} (h : OR.ofV A x = some r) : ∃ v, r = .val v A ∧ ∀ A', OR.ofV A' x = some (.val v A') := by
  obtain ⟨v, rfl, rfl⟩ := ofV_some h
  exact ⟨v, rfl, fun _ => rfl⟩
theorem val_all {A : AW} {v : AV} {r : OR} (h : some (OR.val v A) = some r) : ∃ v', r = .val v' A ∧ ∀ A', some (OR.val v A') = some (.val v' A') := by
  cases h; exact ⟨v, rfl, fun _ => rfl⟩

def intD : TD → Bool
  | .int _ => true
  | _ => false
theorem ofP_all {A : AW} {f : AW → Option (AV × AW)} {r : OR} (hf : ∀ p, f A = some p → ∃ v, p = (v, A) ∧ ∀ A', f A' = some (v, A')) (h : OR.ofP (f A) = some r) : ∃ v, r = .val v A ∧ ∀ A', OR.ofP (f A') = some (.val v A') := by
  obtain ⟨v, A1, h1, rfl⟩ := ofP_some h
  obtain ⟨v', h2, h3⟩ := hf _ h1
  cases h2
  exact ⟨v, rfl, fun A' => by rw [h3]; rfl⟩
theorem pair_all {A : AW} {v : AV} {p : AV × AW} (h : some (v, A) = some p) : ∃ v', p = (v', A) ∧ ∀ A' : AW, some (v, A') = some (v', A') := by
  cases h; exact ⟨v, rfl, fun _ => rfl⟩

theorem conv_pure {A : AW} {s d : TypeId} {x : AV} (hp : (match und B s, und B d with
    | some (.int _), _ => true
    | some .str, some .str => true
    | _, _ => false) = true) : ∀ p, convA B A s d x = some p → ∃ v, p = (v, A) ∧ ∀ A', convA B A' s d x = some (v, A') := by
  intro p h
  unfold convA at h ⊢
  cases hs : und B s with
  | none => simp [hs] at hp
  | some a =>
    cases hd : und B d with
    | none => simp [hs, hd] at h
    | some b =>
      simp only [hs, hd] at hp h ⊢
      cases a <;> (try (exfalso; simp at hp; done))
      case int k =>
        cases b <;> cases x <;> simp only [reduceCtorEq] at h ⊢ <;> exact pair_all h
      case str =>
        cases b <;> (try (exfalso; simp at hp; done))
        cases x <;> simp only [reduceCtorEq] at h ⊢ <;> exact pair_all h

theorem slice_pure {A : AW} {t : TypeId} {x : AV} {lo hi mx : Option AV} (hp : und B t = some .str) : ∀ p, sliceA B A t x lo hi mx = some p → ∃ v, p = (v, A) ∧ ∀ A', sliceA B A' t x lo hi mx = some (v, A') := by
  intro p h
  unfold sliceA at h ⊢
  cases mx with
  | some m => cases h
  | none =>
    simp only [hp] at h ⊢
    cases x <;> simp only [reduceCtorEq] at h
    rename_i l
    cases hs : sliceStr l lo hi with
    | none => simp only [hs, Option.map_none, reduceCtorEq] at h
    | some u => simp only [hs, Option.map_some] at h ⊢; exact pair_all h

theorem len_pure {A : AW} {ts : Array TypeId} {ty : TypeId} {as : List AV} {r : OR} {t : TypeId} (ht : ts[0]? = some t) (hp : (match und B t with
        | some .str => true
        | some (.slice _) => true
        | _ => false) = true) (h : builtinA B A .len ts ty as = some r) : ∃ v, r = .val v A ∧ ∀ A', builtinA B A' .len ts ty as = some (.val v A') := by
  unfold builtinA at h ⊢
  rcases as with _ | ⟨x, _ | ⟨y, l⟩⟩
  · simp at h
  · simp only [ht] at h ⊢
    cases hd : und B t with
    | none => simp [hd] at hp
    | some d =>
      cases d <;> simp [hd] at hp <;> simp only [hd] at h ⊢ <;> cases x <;> simp only [reduceCtorEq] at h ⊢ <;> exact val_all h
  · simp at h

theorem pure_op {A : AW} {T : Tm} {o : Oper} {r : OR} (hp : pureOp B o.op = true) (h : opA B A T o = some r) : ∃ v, r = .val v A ∧ ∀ A', opA B A' T o = some (.val v A') := by
  unfold opA at h ⊢
  cases ho : o.op <;> rw [ho] at h hp <;> (try (exfalso; simp [pureOp] at hp; done))
  case move x => simp only [opK] at h ⊢; exact ofV_all h
  case assign x => simp only [opK] at h ⊢; exact ofV_all h
  case pick c a b =>
    simp only [opK] at h ⊢
    split at h
    · exact val_all h
    · cases h
  case build t ps =>
    simp only [opK] at h ⊢
    split at h
    · exact ofV_all h
    · cases h
  case nilCheck x =>
    simp only [opK] at h ⊢
    split at h <;> first | exact val_all h | contradiction | skip
    split at h <;> first | exact val_all h | contradiction
  case unOp op t x =>
    simp only [opK] at h ⊢
    split at h
    · exact ofV_all h
    · cases h
  case binOp op t x y ty =>
    simp only [opK, Bool.cond_eq_ite] at h ⊢
    split at h
    · split at h
      · rename_i hg
        simp only [hg, if_true]
        exact ofV_all h
      · cases h
    · cases h
  case makeInterface t x =>
    simp only [opK] at h ⊢
    split at h
    · cases h
    · exact val_all h
    · cases h
  case makeFunc fn a b =>
    simp only [opK, Bool.cond_eq_ite] at h ⊢
    split at h
    · split at h
      · rename_i hg
        simp only [hg, if_true]
        exact val_all h
      · cases h
    · cases h
  case field t x f =>
    simp only [opK] at h ⊢
    split at h
    · exact ofV_all h
    · cases h
  case fieldAddr t x f =>
    simp only [opK, Bool.cond_eq_ite] at h ⊢
    split at h
    · split at h
      · split at h
        · cases h
        · rename_i hg
          simp only [hg, if_false]
          exact val_all h
      · cases h
    · cases h
  case indexAddr t x i =>
    simp only [opK] at h ⊢
    split at h
    · exact ofV_all h
    · cases h
  case index t x i =>
    simp only [opK] at h ⊢
    split at h
    · exact ofV_all h
    · cases h
  case extract x i =>
    simp only [opK] at h ⊢
    split at h
    · exact ofV_all h
    · cases h
  case typeAssert x t u c =>
    simp only [opK] at h ⊢
    split at h
    · exact ofV_all h
    · cases h
  case convert s d x =>
    simp only [pureOp] at hp
    simp only [opK] at h ⊢
    split at h
    · exact ofP_all (f := fun A => convA B A s d _) (conv_pure hp) h
    · cases h
  case slice t x lo hi mx =>
    simp only [pureOp] at hp
    simp only [opK] at h ⊢
    have hd : und B t = some .str := by
      revert hp
      generalize und B t = d
      intro hp
      split at hp
      · rfl
      · cases hp
    split at h
    · exact ofP_all (f := fun A => sliceA B A t _ _ _ _) (slice_pure hd) h
    · cases h
  case call c =>
    simp only [pureOp] at hp
    simp only [opK] at h ⊢
    cases hc : c.callee with
    | value f => simp [hc] at hp
    | invoke f n => simp [hc] at hp
    | builtin b =>
      simp only [hc] at hp h ⊢
      split at h
      · cases b <;> simp only [reduceCtorEq, Bool.false_eq_true] at hp
        case min =>
          rename_i as _
          unfold builtinA at h ⊢
          rcases as with _ | ⟨x, l⟩
          · simp at h
          · exact ofV_all h
        case max =>
          rename_i as _
          unfold builtinA at h ⊢
          rcases as with _ | ⟨x, l⟩
          · simp at h
          · exact ofV_all h
        case len =>
          split at hp
          · rename_i t ht
            exact len_pure ht hp h
          · cases hp
      · cases h

end Go.Ax
namespace Go.Ax
open Go
variable {P : Program} {B : Tb} {G : Nat}

/-! ### What is laid over, whatever the order -/
open Classical in
noncomputable def ov {β : Type} (X : Nat → Nat → β) (Wr : Nat → Nat → Prop) (S : Nat → Bool) : Nat → Nat → β
  | 0, b => X 0 b
  | j + 1, b => if S j = true ∧ Wr j b then X (j + 1) b else ov X Wr S j b

section
variable {β : Type} {X : Nat → Nat → β} {Wr : Nat → Nat → Prop} {S : Nat → Bool} {b : Nat}

theorem ov_prefix : ∀ {y : Nat}, (∀ x, x < y → ¬ Wr x b → X (x + 1) b = X x b) → (∀ x, x < y → Wr x b → S x = true) → ov X Wr S y b = X y b
  | 0, _, _ => rfl
  | y + 1, h, k => by
    simp only [ov]
    by_cases e : Wr y b
    · rw [if_pos ⟨k y (Nat.lt_succ_self _) e, e⟩]
    · rw [if_neg (fun x => e x.2), h y (Nat.lt_succ_self _) e]
      exact ov_prefix (fun x hx => h x (by omega)) (fun x hx => k x (by omega))

theorem ov_suffix {y : Nat} : ∀ {m : Nat}, (∀ z, y ≤ z → z < y + m → Wr z b → S z = false) → ov X Wr S (y + m) b = ov X Wr S y b
  | 0, _ => rfl
  | m + 1, h => by
    show ov X Wr S ((y + m) + 1) b = _
    simp only [ov]
    rw [if_neg (fun x => by
      have := h (y + m) (by omega) (by omega) x.2
      rw [x.1] at this; cases this)]
    exact ov_suffix (fun z h1 h2 => h z h1 (by omega))

theorem ov_at {y n : Nat} (hy : y ≤ n) (h : ∀ x, x < n → ¬ Wr x b → X (x + 1) b = X x b) (h1 : ∀ x, x < y → Wr x b → S x = true) (h2 : ∀ z, y ≤ z → z < n → Wr z b → S z = false) : ov X Wr S n b = X y b := by
  obtain ⟨m, rfl⟩ : ∃ m, n = y + m := ⟨n - y, by omega⟩
  rw [ov_suffix h2]
  exact ov_prefix (fun x hx => h x (by omega)) h1

theorem ov_other {S' : Nat → Bool} : ∀ {n : Nat}, (∀ x, x < n → Wr x b → S' x = S x) → ov X Wr S' n b = ov X Wr S n b
  | 0, _ => rfl
  | n + 1, h => by
    simp only [ov]
    rw [ov_other (n := n) (fun x hx => h x (by omega))]
    by_cases e : Wr n b
    · rw [h n (Nat.lt_succ_self _) e]
    · rw [if_neg (fun x => e x.2), if_neg (fun x => e x.2)]

theorem ov_new {y n : Nat} {S' : Nat → Bool} (hy : y < n) (hS : S' y = true) (hw : Wr y b) (h2 : ∀ z, y < z → z < n → Wr z b → S' z = false) : ov X Wr S' n b = X (y + 1) b := by
  obtain ⟨m, rfl⟩ : ∃ m, n = (y + 1) + m := ⟨n - (y + 1), by omega⟩
  rw [ov_suffix (fun z h1 h3 => h2 z (by omega) h3)]
  simp only [ov]
  rw [if_pos ⟨hS, hw⟩]
end

/-! ### The frame -/
/-- A step over a part of the heap. -/
theorem Stp.over {E0 E E' : Env} {H0 H H' K K' : Nat → Option AObj} {w0 w w' : World} {m0 n0 m n : Nat} (In : Nat → Prop) (h : Stp G E0 H0 w0 E H w m0 n0) (g : Stp G E K w E' K' w' m n) (hm : m0 ≤ m) (hn : n ≤ n0)
    (hK : ∀ b o L, K b = some o → E b = some L → H b = some o) (hin : ∀ b, ¬ In b → K b = none ∧ ¬ (m ≤ b ∧ b < n)) (h1 : ∀ b L, In b → E' b = some L → H' b = K' b) (h2 : ∀ b L, ¬ In b → E' b = some L → H' b = H b) :
    Stp G E0 H0 w0 E' H' w' m0 n0 := by
  have hE : ∀ b, ¬ In b → E' b = E b := fun b hb => g.ext.out b (by
    have := (hin b hb).2; omega)
  have nimg : ∀ b o L, ¬ In b → E b = some L → H b = some o → o ≠ .dead → ¬ Img E K L.blk := by
    rintro b o L hb hL ho hd ⟨b2, o2, L2, q1, q2, q3, q4⟩
    have := h.rel.inj b2 b o2 o L2 L (hK b2 o2 L2 q1 q3) ho q2 hd q3 hL q4
    subst this
    rw [(hin b2 hb).1] at q1; cases q1
  have hsub : ∀ i, i < w.heap.size → Img E' H' i → Img E H i := by
    rintro i hi ⟨b, o, L, q1, q2, q3, q4⟩
    by_cases hb : In b
    · rw [h1 b L hb q3] at q1
      obtain ⟨b2, o2, L2, r1, r2, r3, r4⟩ := g.sub i hi ⟨b, o, L, q1, q2, q3, q4⟩
      exact ⟨b2, o2, L2, hK b2 o2 L2 r1 r3, r2, r3, r4⟩
    · rw [h2 b L hb q3] at q1
      rw [hE b hb] at q3
      exact ⟨b, o, L, q1, q2, q3, q4⟩
  have hmix : ∀ b b' o o' L L', In b → ¬ In b' → H' b = some o → H' b' = some o' → o ≠ .dead → o' ≠ .dead → E' b = some L → E' b' = some L' → L.blk = L'.blk → False := by
    intro b b' o o' L L' hb hb' q1 q2 q3 q4 q5 q6 q7
    rw [h1 b L hb q5] at q1
    rw [h2 b' L' hb' q6] at q2
    rw [hE b' hb'] at q6
    have hlt := h.rel.bnd b' L' q6
    exact nimg b' o' L' hb' q6 q2 q4 (q7 ▸ g.sub L.blk (by rw [q7]; exact hlt) ⟨b, o, L, q1, q3, q5, rfl⟩)
  refine ⟨h.nxt, ⟨h.ext.le.trans g.ext.le, fun b hb => ?_⟩, ⟨?_, ?_, g.rel.bnd, ?_, g.rel.kept⟩, g.os.trans h.os, g.tape.trans h.tape, g.output.trans h.output, Nat.le_trans h.size g.size, ?_, ?_⟩
  · rw [g.ext.out b (by omega), h.ext.out b hb]
  · intro b o L q1 q2
    by_cases hb : In b
    · exact g.rel.obj b o L (by rw [← h1 b L hb q2]; exact q1) q2
    · rw [h2 b L hb q2] at q1
      have q2' := q2
      rw [hE b hb] at q2'
      by_cases hd : o = .dead
      · subst hd; simp [ObjR]
      · exact (h.rel.obj b o L q1 q2').mono g.ext.le (g.same L.blk (h.rel.bnd b L q2') (nimg b o L hb q2' q1 hd))
  · intro b b' o o' L L' q1 q2 q3 q4 q5 q6 q7
    by_cases hb : In b <;> by_cases hb' : In b'
    · exact g.rel.inj b b' o o' L L' (by rw [← h1 b L hb q5]; exact q1) (by rw [← h1 b' L' hb' q6]; exact q2) q3 q4 q5 q6 q7
    · exact (hmix b b' o o' L L' hb hb' q1 q2 q3 q4 q5 q6 q7).elim
    · exact (hmix b' b o' o L' L hb' hb q2 q1 q4 q3 q6 q5 q7.symm).elim
    · rw [h2 b L hb q5] at q1
      rw [h2 b' L' hb' q6] at q2
      rw [hE b hb] at q5
      rw [hE b' hb'] at q6
      exact h.rel.inj b b' o o' L L' q1 q2 q3 q4 q5 q6 q7
  · intro b o L q1 hd q2
    by_cases hb : In b
    · exact g.rel.off b o L (by rw [← h1 b L hb q2]; exact q1) hd q2
    · rw [h2 b L hb q2] at q1
      rw [hE b hb] at q2
      exact h.rel.off b o L q1 hd q2
  · intro i hi hn'
    have hi' : i < w.heap.size := Nat.lt_of_lt_of_le hi h.size
    rw [g.same i hi' ?_, h.same i hi hn']
    rintro ⟨b2, o2, L2, r1, r2, r3, r4⟩
    exact hn' (h.sub i hi ⟨b2, o2, L2, hK b2 o2 L2 r1 r3, r2, r3, r4⟩)
  · intro i hi x
    exact h.sub i hi (hsub i (Nat.lt_of_lt_of_le hi h.size) x)

theorem Rel.sub {E : Env} {H K : Nat → Option AObj} {w : World} (h : Rel G E H w) (hK : ∀ b o L, K b = some o → E b = some L → H b = some o) : Rel G E K w :=
  ⟨fun b o L q1 q2 => h.obj b o L (hK b o L q1 q2) q2, fun b b' o o' L L' q1 q2 q3 q4 q5 q6 q7 => h.inj b b' o o' L L' (hK b o L q1 q5) (hK b' o' L' q2 q6) q3 q4 q5 q6 q7, h.bnd,
    fun b o L q1 q2 q3 => h.off b o L (hK b o L q1 q3) q2 q3, h.kept⟩
end Go.Ax
namespace Go.Ax
open Go
variable {P : Program} {B : Tb} {G : Nat}

/-! ### Masks -/
theorem orMasks_bit {ms : List Nat} {x : Nat} : ∀ {ds : List Nat}, Nat.testBit (orMasks ms ds) x = true → ∃ e, e ∈ ds ∧ (x = e ∨ Nat.testBit ((nth ms e).getD 0) x = true)
  | [], h => by simp [orMasks] at h
  | e :: ds, h => by
    simp only [orMasks, Nat.lor_eq, Nat.testBit_or, Bool.or_eq_true] at h
    rcases h with (h | h) | h
    · rw [Nat.testBit_two_pow] at h
      exact ⟨e, by simp, .inl (by simpa using h : e = x).symm⟩
    · exact ⟨e, by simp, .inr h⟩
    · obtain ⟨e', h1, h2⟩ := orMasks_bit h
      exact ⟨e', by simp [h1], h2⟩

theorem masks_spec : ∀ {l : List Oper} {ms : List Nat} {k : Nat} {o : Oper}, (∀ j o, l[j]? = some o → ∀ e ∈ deps o, e < ms.length + j) → l[k]? = some o →
    ∀ x, Nat.testBit ((nth (masks ms l) (ms.length + k)).getD 0) x = true → ∃ e, e ∈ deps o ∧ (x = e ∨ Nat.testBit ((nth (masks ms l) e).getD 0) x = true)
  | [], ms, k, o, _, h, _, _ => by simp at h
  | p :: l, ms, k, o, hd, h, x, hx => by
    have keep : ∀ (l : List Oper) (ms : List Nat) (e : Nat), e < ms.length → nth (masks ms l) e = nth ms e := by
      intro l
      induction l with
      | nil => intro ms e _; rfl
      | cons q l ih =>
        intro ms e he
        simp only [masks, app_eq]
        rw [ih _ e (by simp; omega), nth_eq, nth_eq, List.getElem?_append_left he]
    cases k with
    | zero =>
      simp at h; subst h
      have hx' : Nat.testBit ((nth (app ms [orMasks ms (deps p)]) ms.length).getD 0) x = true := by
        simp only [masks] at hx
        rw [keep l _ (ms.length + 0) (by simp [app_eq])] at hx
        exact hx
      rw [app_eq, nth_eq] at hx'
      simp at hx'
      obtain ⟨e, h1, h2⟩ := orMasks_bit hx'
      refine ⟨e, h1, h2.imp id (fun h2 => ?_)⟩
      rw [keep (p :: l) ms e (by have := hd 0 p (by simp) e h1; omega)]
      exact h2
    | succ k =>
      simp at h
      have := masks_spec (l := l) (ms := app ms [orMasks ms (deps p)]) (k := k) (o := o) (fun j o hj e he => by
        have := hd (j + 1) o (by simpa using hj) e he
        simp [app_eq]; omega) h x (by
          simp only [masks] at hx
          have e : (app ms [orMasks ms (deps p)]).length + k = ms.length + (k + 1) := by simp [app_eq]; omega
          rw [e]; exact hx)
      exact this

theorem slotsOk_spec {ops : Array Oper} {ms : List Nat} : ∀ {l : List Oper} {i : Nat}, slotsOk ops ms i l = true → ∀ k o, l[k]? = some o →
    (∀ e ∈ deps o, e < i + k) ∧ (∀ x p, (ops.toList.take (i + k))[x]? = some p → clash ops p o = true → Nat.testBit ((nth ms (i + k)).getD 0) x = true)
  | [], i, _, k, o, ho => by simp at ho
  | y :: l, i, h, k, o, ho => by
    simp only [slotsOk, Bool.and_eq_true] at h
    obtain ⟨⟨⟨h1, h2⟩, h3⟩, h4⟩ := h
    cases k with
    | zero =>
      simp at ho; subst ho
      refine ⟨fun e he => ?_, ?_⟩
      · have := List.all_eq_true.1 h1 e he
        rw [Nat.blt_eq] at this; omega
      · have key : ∀ (l : List Oper) (i m : Nat), clashes ops y m i l = true → ∀ x p, l[x]? = some p → clash ops p y = true → Nat.testBit m (i + x) = true := by
          intro l
          induction l with
          | nil => intro i m _ x p hp; simp at hp
          | cons q l ih =>
            intro i m hc x p hp hcl
            simp only [clashes, Bool.and_eq_true, Bool.or_eq_true, Bool.not_eq_true'] at hc
            cases x with
            | zero =>
              simp at hp; subst hp
              rcases hc.1 with h | h
              · rw [h] at hcl; cases hcl
              · exact h
            | succ x =>
              simp at hp
              have := ih (i + 1) m hc.2 x p hp hcl
              rw [show i + (x + 1) = i + 1 + x by omega]; exact this
        intro x p hp hcl
        rw [tke_eq] at h2
        have := key _ 0 _ h2 x p hp hcl
        simpa using this
    | succ k =>
      simp at ho
      have := slotsOk_spec h4 k o ho
      rw [show i + (k + 1) = i + 1 + k by omega]
      exact this

/-! ### The trace -/
theorem apartFrom_spec {ms : List Nat} {e : Nat} {ws : List Nat} : ∀ {tr : List (Nat × Cls)}, apartFrom ms e ws tr = true → ∀ j c, (j, c) ∈ tr → j = e ∨ met ms e j = true ∨ c = .p ∨ (∃ b, c = .n b ∧ b ∉ ws) ∨ (∃ b, c = .l b ∧ b ∉ ws)
  | [], _, j, c, h => by simp at h
  | (i, d) :: tr, h, j, c, hm => by
    simp only [apartFrom, Bool.and_eq_true, Bool.or_eq_true] at h
    rcases List.mem_cons.1 hm with hm | hm
    · cases hm
      rcases h.1 with (h | h) | h
      · rw [beq_nat] at h; exact .inl (by simpa using h)
      · exact .inr (.inl h)
      · cases d <;> simp at h
        · exact .inr (.inr (.inl rfl))
        · exact .inr (.inr (.inr (.inl ⟨_, rfl, h⟩)))
        · exact .inr (.inr (.inr (.inr ⟨_, rfl, h⟩)))
    · exact apartFrom_spec h.2 j c hm

theorem trOk_spec {ms : List Nat} {tr : List (Nat × Cls)} : ∀ {l : List (Nat × Cls)}, trOk ms tr l = true → ∀ e ws, (e, .e ws) ∈ l → apartFrom ms e ws tr = true
  | [], _, e, ws, h => by simp at h
  | (i, .e vs) :: l, h, e, ws, hm => by
    simp only [trOk, Bool.and_eq_true] at h
    rcases List.mem_cons.1 hm with hm | hm
    · cases hm; exact h.1
    · exact trOk_spec h.2 e ws hm
  | (i, .p) :: l, h, e, ws, hm => by
    rcases List.mem_cons.1 hm with hm | hm
    · cases hm
    · exact trOk_spec (by simpa [trOk] using h) e ws hm
  | (i, .n b) :: l, h, e, ws, hm => by
    rcases List.mem_cons.1 hm with hm | hm
    · cases hm
    · exact trOk_spec (by simpa [trOk] using h) e ws hm
  | (i, .l b) :: l, h, e, ws, hm => by
    rcases List.mem_cons.1 hm with hm | hm
    · cases hm
    · exact trOk_spec (by simpa [trOk] using h) e ws hm
  | (i, .q) :: l, h, e, ws, hm => by
    rcases List.mem_cons.1 hm with hm | hm
    · cases hm
    · exact trOk_spec (by simpa [trOk] using h) e ws hm

/-- The one order that was walked. -/
structure Rg (B : Tb) (rn : Rn) (N : Nat) (ops : Array Oper) (tr : List (Nat × Cls)) (Tf : Nat → Tm) (Af : Nat → AW) (on : Nat → Bool) (i : Nat) (l : List Oper) : Prop where
  step : ∀ k o, l[k]? = some o → inN N o.dst = true ∧ wantedA ops (Tf (i + k)) o = some (on (i + k)) ∧
    (on (i + k) = false → Af (i + k + 1) = Af (i + k) ∧ Tf (i + k + 1) = putT (Tf (i + k)) o.dst (.tup [])) ∧
    (on (i + k) = true → (∃ v, doA B rn .rnd (Tf (i + k)) [] (Af (i + k)) o = some (v, [], Af (i + k + 1)) ∧ Tf (i + k + 1) = putT (Tf (i + k)) o.dst v) ∧
      (i + k, clsOf B (Tf (i + k)) (Af (i + k)) (Af (i + k + 1)) o) ∈ tr)

theorem opsT_rg {rn : Rn} {N : Nat} {ops : Array Oper} : ∀ {l : List Oper} {i : Nat} {T : Tm} {A : AW} {tr : List (Nat × Cls)} {T' : Tm} {A' : AW}, opsT B rn N ops i l T A = some (tr, T', A') →
    ∃ Tf Af on, Tf i = T ∧ Af i = A ∧ Tf (i + l.length) = T' ∧ Af (i + l.length) = A' ∧ Rg B rn N ops tr Tf Af on i l
  | [], i, T, A, tr, T', A', h => by
    simp only [opsT, Option.some.injEq, Prod.mk.injEq] at h
    obtain ⟨rfl, rfl, rfl⟩ := h
    exact ⟨fun _ => T, fun _ => A, fun _ => false, rfl, rfl, rfl, rfl, ⟨fun k o h => by simp at h⟩⟩
  | o :: l, i, T, A, tr, T', A', h => by
    simp only [opsT] at h
    cases hin : inN N o.dst <;> simp only [hin, Bool.not_true, Bool.not_false, cond_true, cond_false, reduceCtorEq] at h
    have fin : ∀ (b : Bool) (T1 : Tm) (A1 : AW) (tr1 : List (Nat × Cls)), (∀ p, p ∈ tr1 → p ∈ tr) → opsT B rn N ops (i + 1) l T1 A1 = some (tr1, T', A') → wantedA ops T o = some b →
        (b = false → A1 = A ∧ T1 = putT T o.dst (.tup [])) → (b = true → (∃ v, doA B rn .rnd T [] A o = some (v, [], A1) ∧ T1 = putT T o.dst v) ∧ (i, clsOf B T A A1 o) ∈ tr) →
        ∃ Tf Af on, Tf i = T ∧ Af i = A ∧ Tf (i + (o :: l).length) = T' ∧ Af (i + (o :: l).length) = A' ∧ Rg B rn N ops tr Tf Af on i (o :: l) := by
      intro b T1 A1 tr1 hsub h1 hw hf ht
      obtain ⟨Tf, Af, on, q1, q2, q3, q4, q5⟩ := opsT_rg h1
      have ne : ∀ k, ¬ (i + 1 + k = i) := fun k => by omega
      refine ⟨fun j => if j = i then T else Tf j, fun j => if j = i then A else Af j, fun j => if j = i then b else on j, by simp, by simp, ?_, ?_, ⟨fun k o' hk => ?_⟩⟩
      · simp only [List.length_cons]
        rw [if_neg (by omega), show i + (l.length + 1) = i + 1 + l.length by omega]; exact q3
      · simp only [List.length_cons]
        rw [if_neg (by omega), show i + (l.length + 1) = i + 1 + l.length by omega]; exact q4
      · cases k with
        | zero =>
          simp at hk; subst hk
          simp only [Nat.add_zero, if_true, if_neg (show ¬ (i + 1 = i) by omega), q1, q2]
          exact ⟨hin, hw, hf, ht⟩
        | succ k =>
          simp at hk
          have := q5.step k o' hk
          rw [show i + (k + 1) = i + 1 + k by omega]
          simp only [if_neg (ne k), if_neg (show ¬ (i + 1 + k + 1 = i) by omega)]
          exact ⟨this.1, this.2.1, this.2.2.1, fun x => ⟨(this.2.2.2 x).1, hsub _ (this.2.2.2 x).2⟩⟩
    cases hw : wantedA ops T o with
    | none => simp [hw] at h
    | some b =>
      cases b with
      | false =>
        simp only [hw] at h
        exact fin false _ _ _ (fun _ h => h) h hw (fun _ => ⟨rfl, rfl⟩) (fun x => by cases x)
      | true =>
        simp only [hw] at h
        cases hdo : doA B rn .rnd T [] A o with
        | none => simp [hdo] at h
        | some p =>
          obtain ⟨v, ds, A1⟩ := p
          cases ds with
          | cons d ds => simp [hdo] at h
          | nil =>
            simp only [hdo] at h
            cases h1 : opsT B rn N ops (i + 1) l (putT T o.dst v) A1 with
            | none => simp [h1] at h
            | some q =>
              obtain ⟨tr1, T2, A2⟩ := q
              simp only [h1, Option.some.injEq, Prod.mk.injEq] at h
              obtain ⟨rfl, rfl, rfl⟩ := h
              exact fin true _ _ tr1 (fun _ h => by simp [h]) h1 hw (fun x => by cases x) (fun _ => ⟨⟨v, hdo, rfl⟩, by simp⟩)
end Go.Ax
namespace Go.Ax
open Go
variable {P : Program} {B : Tb} {G : Nat}

theorem new_op {A : AW} {T : Tm} {o : Oper} {r : OR} (hp : newOp o.op = true) (h : opA B A T o = some r) : ∃ v ob, r = .val v (A.new ob) ∧ ∀ A₂ : AW, A₂.next = A.next → opA B A₂ T o = some (.val v (A₂.new ob)) := by
  unfold opA at h ⊢
  cases ho : o.op <;> rw [ho] at h hp <;> (try (exfalso; simp [newOp] at hp; done))
  case alloc e =>
    simp only [opK] at h ⊢
    split at h
    · cases h; exact ⟨_, _, rfl, fun A₂ e => by rw [e]⟩
    · cases h
  case box e x =>
    simp only [opK, Bool.cond_eq_ite] at h ⊢
    split at h
    · split at h
      · rename_i hg
        cases h
        simp only [hg, if_true]
        exact ⟨_, _, rfl, fun A₂ e => by rw [e]⟩
      · cases h
    · cases h
  case buildSlice t n ps =>
    simp only [opK] at h ⊢
    split at h
    · obtain ⟨v, A', h1, rfl⟩ := ofP_some h
      unfold buildSliceA at h1 ⊢
      simp only [Bool.cond_eq_ite] at h1 ⊢
      split at h1
      · split at h1
        · split at h1
          · rename_i hg
            simp only [hg, if_true]
            split at h1
            · rename_i hf
              cases h1
              exact ⟨_, _, rfl, fun A₂ e => by simp only [e, OR.ofP]⟩
            · cases h1
          · cases h1
        · cases h1
      · cases h1
    · cases h
  case makeMap t r =>
    simp only [opK] at h ⊢
    cases r with
    | none => cases h; exact ⟨_, _, rfl, fun A₂ e => by rw [e]⟩
    | some x =>
      simp only [] at h ⊢
      split at h
      · cases h; exact ⟨_, _, rfl, fun A₂ e => by rw [e]⟩
      · cases h
  case makeSlice t l c =>
    simp only [opK] at h ⊢
    split at h
    · split at h
      · rcases cc h with h' | h'
        · rename_i hg
          cases h'
          refine ⟨_, _, rfl, fun A₂ e => ?_⟩
          revert h
          generalize (Nat.ble _ _ && Nat.ble _ 65536 && Nat.beq _ _ && _) = q
          intro h
          cases q
          · cases h
          · simp only [cond_true, e]
        · cases h'
      · cases h
    · cases h

theorem ld_same {A A₂ : AW} {t : TypeId} {b o : Nat} (h : A₂.heap.get b = A.heap.get b) : ld B A₂ t b o = ld B A t b o := by
  unfold ld ldCells
  rw [h]

theorem load_op {A : AW} {T : Tm} {o : Oper} {r : OR} {t : TypeId} {x : Operand} (ho : o.op = .load t x) (h : opA B A T o = some r) :
    ∃ v b p, ev T x = some (.ptr b p) ∧ r = .val v A ∧ ∀ A₂ : AW, A₂.heap.get b = A.heap.get b → opA B A₂ T o = some (.val v A₂) := by
  unfold opA at h ⊢
  rw [ho] at h ⊢
  simp only [opK] at h ⊢
  split at h
  · rename_i b p hx
    obtain ⟨v, h1, rfl⟩ := ofV_some h
    exact ⟨v, b, p, hx, rfl, fun A₂ e => by rw [ld_same e, h1]; rfl⟩
  · cases h

theorem lookup_op {A : AW} {T : Tm} {o : Oper} {r : OR} {t : TypeId} {m k : Operand} {ok : Bool} (ho : o.op = .lookup t m k ok) (h : opA B A T o = some r) :
    ∃ v, r = .val v A ∧ ((∃ b, ev T m = some (.map b) ∧ ∀ A₂ : AW, A₂.heap.get b = A.heap.get b → opA B A₂ T o = some (.val v A₂)) ∨ (∀ b, ev T m ≠ some (.map b))) := by
  unfold opA at h ⊢
  rw [ho] at h ⊢
  simp only [opK] at h ⊢
  split at h
  · rename_i vm vk hm hk
    obtain ⟨v, h1, rfl⟩ := ofV_some h
    refine ⟨v, rfl, ?_⟩
    by_cases e : ∃ b, vm = .map b
    · obtain ⟨b, rfl⟩ := e
      refine .inl ⟨b, hm, fun A₂ e => ?_⟩
      have : lookupA B A₂ t (.map b) vk ok = lookupA B A t (.map b) vk ok := by
        unfold lookupA
        simp only [e]
      rw [this, h1]; rfl
    · refine .inr (fun b hb => e ⟨b, ?_⟩)
      rw [hm] at hb; cases hb; rfl
  · cases h

/-- One block of a heap. -/
noncomputable def oneA (A : AW) (b : Nat) : AW := match A.heap.get b with
  | some o => ⟨PT.leaf.set b o, A.next, []⟩
  | none => ⟨.leaf, A.next, []⟩
def emptyA (A : AW) : AW := ⟨.leaf, A.next, []⟩
theorem oneA_get (A : AW) (b b' : Nat) : (oneA A b).heap.get b' = if b' = b then A.heap.get b else none := by
  unfold oneA
  split
  · rename_i o h
    rw [h, PT.get_set, PT.get_leaf]
  · rename_i h
    rw [h]; simp [PT.get_leaf]
theorem oneA_next (A : AW) (b : Nat) : (oneA A b).next = A.next := by unfold oneA; split <;> rfl
theorem emptyA_get (A : AW) (b : Nat) : (emptyA A).heap.get b = none := PT.get_leaf b
theorem new_get (A : AW) (o : AObj) (b : Nat) : (A.new o).heap.get b = if b = A.next then some o else A.heap.get b := PT.get_set _ _ _ _

/-- It reads block b. -/
def Rd (c : Cls) (b : Nat) : Prop := c = .q ∨ (∃ ws, c = .e ws) ∨ c = .l b
/-- It writes block b. -/
def Wrt (c : Cls) (A A' : AW) (b : Nat) : Prop := (∃ ws, c = .e ws ∧ b ∈ ws) ∨ (A.next ≤ b ∧ b < A'.next)

structure View (B : Tb) (rn : Rn) (T : Tm) (o : Oper) (v : AV) (A A' : AW) (c : Cls) (K K' : AW) (In : Nat → Prop) : Prop where
  run : doA B rn .rnd T [] K o = some (v, [], K')
  next : K.next = A.next
  next' : K'.next = A'.next
  wf : WF K
  sub : ∀ b x, K.heap.get b = some x → A.heap.get b = some x ∧ b < A.next ∧ Rd c b
  out : ∀ b, ¬ In b → K.heap.get b = none ∧ ¬ Wrt c A A' b
  inn : ∀ b, In b → K'.heap.get b = A'.heap.get b
  rd : ∀ b, In b → (A.next ≤ b ∧ b < A'.next) ∨ (b < A.next ∧ Rd c b)
  keep : ∀ b, ¬ Wrt c A A' b → A'.heap.get b = A.heap.get b
  fresh : ∀ b, A.next ≤ b → b < A'.next → c = .q ∨ (∃ ws, c = .e ws) ∨ c = .n b
  old : ∀ ws, c = .e ws → ∀ b, b ∈ ws → b < A.next

theorem below_mem {n b : Nat} : ∀ {l : List Nat}, b ∈ below n l ↔ b ∈ l ∧ b < n
  | [] => by simp [below]
  | x :: l => by
    simp only [below]
    cases h : Nat.blt x n
    · have : ¬ x < n := fun e => by rw [← Nat.blt_eq] at e; rw [e] at h; cases h
      simp only [cond_false, below_mem, List.mem_cons]
      constructor
      · rintro ⟨h1, h2⟩; exact ⟨.inr h1, h2⟩
      · rintro ⟨h1 | h1, h2⟩
        · subst h1; exact absurd h2 this
        · exact ⟨h1, h2⟩
    · rw [Nat.blt_eq] at h
      simp only [cond_true, below_mem, List.mem_cons]
      constructor
      · rintro (h1 | h1)
        · subst h1; exact ⟨.inl rfl, h⟩
        · exact ⟨.inr h1.1, h1.2⟩
      · rintro ⟨h1 | h1, h2⟩
        · exact .inl h1
        · exact .inr ⟨h1, h2⟩

theorem doA_val {rn : Rn} {k : Md} {T : Tm} {ds : List DI} {A A' : AW} {o : Oper} {v : AV} (h : opA B A T o = some (.val v A')) : doA B rn k T ds A o = some (v, ds, A') := by
  unfold doA
  rw [h]

theorem view_all {rn : Rn} {T : Tm} {o : Oper} {v : AV} {A A' : AW} {c : Cls} (hw : WF A) (h : doA B rn .rnd T [] A o = some (v, [], A')) (g : Grow A A')
    (hc : c = .q ∨ ∃ ws, c = .e ws) (hk : ∀ b, b < A.next → ¬ Wrt c A A' b → A'.heap.get b = A.heap.get b) (hold : ∀ ws, c = .e ws → ∀ b, b ∈ ws → b < A.next) : View B rn T o v A A' c A A' (fun b => b < A'.next) := by
  have hrd : ∀ b, Rd c b := fun b => hc.elim .inl (fun h => .inr (.inl h))
  have hle := g.le
  refine ⟨h, rfl, rfl, hw, fun b x hb => ⟨hb, hw b (by rw [hb]; simp), hrd b⟩, fun b hb => ⟨?_, ?_⟩, fun _ _ => rfl, fun b hb => ?_, fun b hb => ?_, fun b _ _ => hc.elim .inl (fun h => .inr (.inl h)), hold⟩
  · cases hx : A.heap.get b with
    | none => rfl
    | some x => have := hw b (by rw [hx]; simp); omega
  · rintro (⟨ws, h1, h2⟩ | ⟨h1, h2⟩)
    · have := hold ws h1 b h2; omega
    · omega
  · by_cases e : b < A.next
    · exact .inr ⟨e, hrd b⟩
    · exact .inl ⟨by omega, hb⟩
  · by_cases e : b < A.next
    · exact hk b e hb
    · have n1 : ¬ b < A'.next := fun x => hb (.inr ⟨by omega, x⟩)
      cases hx : A'.heap.get b with
      | some x => exact absurd (g.wf hw b (by rw [hx]; simp)) n1
      | none =>
        cases hy : A.heap.get b with
        | some y => exact absurd (hw b (by rw [hy]; simp)) e
        | none => rfl

theorem cls_view {rn : Rn} (hn : RnNext rn) {T : Tm} {o : Oper} {v : AV} {A A' : AW} (hw : WF A) (h : doA B rn .rnd T [] A o = some (v, [], A')) :
    ∃ K K' In, View B rn T o v A A' (clsOf B T A A' o) K K' In := by
  have g : Grow A A' := doA_next hn h
  have hq : opA B A T o ≠ none := by
    intro e; unfold doA at h; rw [e] at h; cases h
  obtain ⟨r, hr⟩ : ∃ r, opA B A T o = some r := by
    cases e : opA B A T o with
    | none => exact absurd e hq
    | some r => exact ⟨r, rfl⟩
  by_cases hp : pureOp B o.op = true
  · obtain ⟨v', rfl, hall⟩ := pure_op hp hr
    have := doA_val (rn := rn) (k := .rnd) (ds := []) hr
    rw [this] at h
    cases h
    have hc : clsOf B T A A o = .p := by unfold clsOf; rw [hp]; rfl
    rw [hc]
    refine ⟨emptyA A, emptyA A, fun _ => False, doA_val (hall _), rfl, rfl, fun b hb => absurd (emptyA_get A b) hb, fun b x hb => (by rw [emptyA_get] at hb; cases hb),
      fun b _ => ⟨emptyA_get A b, ?_⟩, fun _ h => h.elim, fun _ h => h.elim, fun _ _ => rfl, fun b h1 h2 => by omega, fun ws e => by cases e⟩
    rintro (⟨ws, h1, _⟩ | ⟨h1, h2⟩)
    · cases h1
    · omega
  · by_cases hnw : newOp o.op = true
    · obtain ⟨v', ob, rfl, hall⟩ := new_op hnw hr
      have := doA_val (rn := rn) (k := .rnd) (ds := []) hr
      rw [this] at h
      cases h
      have hc : clsOf B T A (A.new ob) o = .n A.next := by
        unfold clsOf
        rw [Bool.not_eq_true] at hp
        rw [hp, hnw]; rfl
      rw [hc]
      refine ⟨emptyA A, (emptyA A).new ob, fun b => b = A.next, doA_val (hall _ rfl), rfl, rfl, fun b hb => absurd (emptyA_get A b) hb, fun b x hb => (by rw [emptyA_get] at hb; cases hb),
        fun b hb => ⟨emptyA_get A b, ?_⟩, fun b hb => ?_, fun b hb => ?_, fun b hb => ?_, fun b h1 h2 => ?_, fun ws e => by cases e⟩
      · rintro (⟨ws, h1, _⟩ | ⟨h1, h2⟩)
        · cases h1
        · simp only [AW.new] at h2; omega
      · subst hb
        rw [new_get, new_get, if_pos rfl]; exact if_pos rfl
      · subst hb; exact .inl ⟨Nat.le_refl _, by simp only [AW.new]; omega⟩
      · rw [new_get, if_neg]
        intro e; exact hb (.inr ⟨by omega, by simp only [AW.new]; omega⟩)
      · refine .inr (.inr ?_)
        have : b = A.next := by simp only [AW.new] at h2; omega
        rw [this]
    · rw [Bool.not_eq_true] at hp hnw
      -- what it wrote
      have rest : ∀ c, (c = .q ∨ ∃ ws, c = .e ws) → (∀ b, b < A.next → ¬ Wrt c A A' b → A'.heap.get b = A.heap.get b) → (∀ ws, c = .e ws → ∀ b, b ∈ ws → b < A.next) →
          ∃ K K' In, View B rn T o v A A' c K K' In := fun c h1 h2 h3 => ⟨A, A', _, view_all hw h g h1 h2 h3⟩
      have one : ∀ b, A' = A → (∀ A₂ : AW, A₂.heap.get b = A.heap.get b → opA B A₂ T o = some (.val v A₂)) → ∃ K K' In, View B rn T o v A A' (.l b) K K' In := by
        rintro b rfl hall
        have ho : (oneA A' b).heap.get b = A'.heap.get b := by rw [oneA_get, if_pos rfl]
        refine ⟨oneA A' b, oneA A' b, fun b' => b' = b ∧ A'.heap.get b ≠ none, doA_val (hall _ ho), oneA_next _ _, oneA_next _ _, fun b' hb' => ?_, fun b' x hb' => ?_, fun b' hb' => ⟨?_, ?_⟩,
          fun b' hb' => ?_, fun b' hb' => ?_, fun _ _ => rfl, fun b h1 h2 => by omega, fun ws e => by cases e⟩
        · rw [oneA_get] at hb'
          rw [oneA_next]
          by_cases e : b' = b
          · subst e; rw [if_pos rfl] at hb'; exact hw b' hb'
          · rw [if_neg e] at hb'; exact absurd rfl hb'
        · rw [oneA_get] at hb'
          by_cases e : b' = b
          · subst e; rw [if_pos rfl] at hb'; exact ⟨hb', hw b' (by rw [hb']; simp), .inr (.inr rfl)⟩
          · rw [if_neg e] at hb'; cases hb'
        · rw [oneA_get]
          by_cases e : b' = b
          · subst e
            rw [if_pos rfl]
            cases hx : A'.heap.get b' with
            | none => rfl
            | some x => exact absurd ⟨rfl, by rw [hx]; simp⟩ hb'
          · rw [if_neg e]
        · rintro (⟨ws, h1, _⟩ | ⟨h1, h2⟩)
          · cases h1
          · omega
        · obtain ⟨rfl, _⟩ := hb'; exact ho
        · obtain ⟨rfl, h2⟩ := hb'; exact .inr ⟨hw b' h2, .inr (.inr rfl)⟩
      have val : ∀ v' A1, r = .val v' A1 → v' = v ∧ A1 = A' := by
        rintro v' A1 rfl
        have := doA_val (rn := rn) (k := .rnd) (ds := []) hr
        rw [this] at h; cases h; exact ⟨rfl, rfl⟩
      have wr : ∃ K K' In, View B rn T o v A A' (match below A.next (tke (len A'.wl - len A.wl) A'.wl) with | [] => .q | ws => .e ws) K K' In := by
        obtain ⟨l, hl, hk⟩ := g.wl
        have e1 : tke (len A'.wl - len A.wl) A'.wl = l := by
          rw [tke_eq, len_eq, len_eq, hl]
          simp
        rw [e1]
        split
        · rename_i hb
          refine rest _ (.inl rfl) (fun b hlt _ => hk b hlt (fun hm => ?_)) (fun ws e => by cases e)
          have : b ∈ below A.next l := below_mem.2 ⟨hm, hlt⟩
          rw [hb] at this; cases this
        · rename_i ws hne
          refine rest _ (.inr ⟨_, rfl⟩) (fun b hlt hnw => hk b hlt (fun hm => hnw (.inl ⟨_, rfl, below_mem.2 ⟨hm, hlt⟩⟩))) (fun ws e b hb => ?_)
          cases e
          exact (below_mem.1 hb).2
      unfold clsOf
      rw [hp, hnw]
      simp only [cond_false]
      split
      · rename_i t x ho
        obtain ⟨v', b, p, hx, hrv, hall⟩ := load_op ho hr
        obtain ⟨rfl, rfl⟩ := val _ _ hrv
        rw [hx]
        exact one b rfl hall
      · rename_i t x k ok ho
        obtain ⟨v', hrv, hcase⟩ := lookup_op ho hr
        obtain ⟨rfl, rfl⟩ := val _ _ hrv
        rcases hcase with ⟨b, hx, hall⟩ | hx
        · rw [hx]; exact one b rfl hall
        · split
          · rename_i b hb; exact absurd hb (hx b)
          · exact rest _ (.inl rfl) (fun _ _ _ => rfl) (fun ws e => by cases e)
      · exact wr
end Go.Ax
namespace Go.Ax
open Go
variable {P : Program} {B : Tb} {G : Nat}

theorem doA_more {rn : Rn} {T : Tm} {A A' : AW} {o : Oper} {v : AV} (h : doA B rn .rnd T [] A o = some (v, [], A')) (ds : List DI) : doA B rn .rnd T ds A o = some (v, ds, A') := by
  unfold doA at h ⊢
  split at h
  · cases h
  · cases h; rfl
  · split at h
    · rename_i hc; cases h; simp only [hc]
    · cases h
  · split at h
    · rename_i hc; cases h; simp only [hc]
    · cases h
  · cases h
  · cases h

section
variable {rn : Rn} {N : Nat} {ops : Array Oper} {tr : List (Nat × Cls)} {Tf : Nat → Tm} {Af : Nat → AW} {on : Nat → Bool}

/-- What a walked region is. -/
structure Reg (B : Tb) (rn : Rn) (N : Nat) (ops : Array Oper) (tr : List (Nat × Cls)) (Tf : Nat → Tm) (Af : Nat → AW) (on : Nat → Bool) (ms : List Nat) : Prop where
  rg : ∀ j o, ops[j]? = some o → inN N o.dst = true ∧ wantedA ops (Tf j) o = some (on j) ∧
    (on j = false → Af (j + 1) = Af j ∧ Tf (j + 1) = putT (Tf j) o.dst (.tup [])) ∧
    (on j = true → (∃ v, doA B rn .rnd (Tf j) [] (Af j) o = some (v, [], Af (j + 1)) ∧ Tf (j + 1) = putT (Tf j) o.dst v) ∧ (j, clsOf B (Tf j) (Af j) (Af (j + 1)) o) ∈ tr)
  dep : ∀ j o, ops[j]? = some o → ∀ e ∈ deps o, e < j
  bit : ∀ j o, ops[j]? = some o → ∀ x, Nat.testBit ((nth ms j).getD 0) x = true → ∃ e, e ∈ deps o ∧ (x = e ∨ Nat.testBit ((nth ms e).getD 0) x = true)
  cla : ∀ j o x p, ops[j]? = some o → ops[x]? = some p → x < j → clash ops p o = true → Nat.testBit ((nth ms j).getD 0) x = true
  tro : ∀ e ws, (e, Cls.e ws) ∈ tr → apartFrom ms e ws tr = true
  wf : WF (Af 0)

/-- The class of what is done at place j. -/
noncomputable def cl (B : Tb) (ops : Array Oper) (Tf : Nat → Tm) (Af : Nat → AW) (on : Nat → Bool) (j : Nat) : Cls := match ops[j]? with
  | some o => if on j then clsOf B (Tf j) (Af j) (Af (j + 1)) o else .p
  | none => .p
def WrA (B : Tb) (ops : Array Oper) (Tf : Nat → Tm) (Af : Nat → AW) (on : Nat → Bool) (j b : Nat) : Prop := Wrt (cl B ops Tf Af on j) (Af j) (Af (j + 1)) b
def WrT (ops : Array Oper) (j t : Nat) : Prop := ∃ o, ops[j]? = some o ∧ o.dst = some t

variable {ms : List Nat} (R : Reg B rn N ops tr Tf Af on ms) (hn : RnNext rn)
include R hn

theorem Reg.grow {j : Nat} (hj : j < ops.size) : Grow (Af j) (Af (j + 1)) := by
  obtain ⟨h1, h2, h3, h4⟩ := R.rg j _ (Array.getElem?_eq_getElem hj)
  cases h : on j
  · rw [(h3 h).1]; exact .refl _
  · obtain ⟨⟨v, hv, _⟩, _⟩ := h4 h
    exact doA_next hn hv

theorem Reg.grows {j k : Nat} (hjk : j ≤ k) (hk : k ≤ ops.size) : Grow (Af j) (Af k) := by
  obtain ⟨m, rfl⟩ : ∃ m, k = j + m := ⟨k - j, by omega⟩
  clear hjk
  induction m with
  | zero => exact .refl _
  | succ m ih => exact (ih (by omega)).trans (R.grow hn (j := j + m) (by omega))

theorem Reg.wfs {j : Nat} (hj : j ≤ ops.size) : WF (Af j) := (R.grows hn (Nat.zero_le j) hj).wf R.wf

theorem Reg.view {j : Nat} {o : Oper} (ho : ops[j]? = some o) (h : on j = true) : ∃ v K K' In, View B rn (Tf j) o v (Af j) (Af (j + 1)) (cl B ops Tf Af on j) K K' In ∧ Tf (j + 1) = putT (Tf j) o.dst v := by
  obtain ⟨h1, h2, h3, h4⟩ := R.rg j o ho
  obtain ⟨⟨v, hv, hT⟩, _⟩ := h4 h
  have hj : j < ops.size := (Array.getElem?_eq_some_iff.1 ho).1
  obtain ⟨K, K', In, hV⟩ := cls_view hn (R.wfs hn (Nat.le_of_lt hj)) hv
  refine ⟨v, K, K', In, ?_, hT⟩
  unfold cl
  simp only [ho, h, if_true]
  exact hV

theorem Reg.keep {j : Nat} (hj : j < ops.size) {b : Nat} (hb : ¬ WrA B ops Tf Af on j b) : (Af (j + 1)).heap.get b = (Af j).heap.get b := by
  have ho := Array.getElem?_eq_getElem hj
  cases h : on j
  · rw [((R.rg j _ ho).2.2.1 h).1]
  · obtain ⟨v, K, K', In, hV, _⟩ := R.view hn ho h
    exact hV.keep b hb

theorem Reg.mem {j : Nat} (hj : j < ops.size) (h : on j = true) : (j, cl B ops Tf Af on j) ∈ tr := by
  have ho := Array.getElem?_eq_getElem hj
  have := ((R.rg j _ ho).2.2.2 h).2
  unfold cl
  simp only [ho, h, if_true]
  exact this

theorem Reg.on_of {j : Nat} (h : cl B ops Tf Af on j ≠ .p) : on j = true := by
  cases h' : on j
  · exfalso; apply h
    unfold cl
    split
    · simp [h']
    · rfl
  · rfl

theorem Reg.old {j : Nat} (hj : j < ops.size) {ws : List Nat} (h : cl B ops Tf Af on j = .e ws) {b : Nat} (hb : b ∈ ws) : b < (Af j).next := by
  obtain ⟨v, K, K', In, hV, _⟩ := R.view hn (Array.getElem?_eq_getElem hj) (R.on_of hn (by rw [h]; simp))
  exact hV.old ws h b hb

theorem Reg.fresh {j : Nat} (hj : j < ops.size) {b : Nat} (h1 : (Af j).next ≤ b) (h2 : b < (Af (j + 1)).next) : on j = true ∧ (cl B ops Tf Af on j = .q ∨ (∃ ws, cl B ops Tf Af on j = .e ws) ∨ cl B ops Tf Af on j = .n b) := by
  have ho := Array.getElem?_eq_getElem hj
  cases h : on j
  · rw [((R.rg j _ ho).2.2.1 h).1] at h2; omega
  · obtain ⟨v, K, K', In, hV, _⟩ := R.view hn ho h
    exact ⟨rfl, hV.fresh b h1 h2⟩

theorem Reg.put {j : Nat} {o : Oper} (ho : ops[j]? = some o) : ∃ v, Tf (j + 1) = putT (Tf j) o.dst v := by
  obtain ⟨h1, h2, h3, h4⟩ := R.rg j o ho
  cases h : on j
  · exact ⟨_, (h3 h).2⟩
  · obtain ⟨⟨v, _, hT⟩, _⟩ := h4 h
    exact ⟨v, hT⟩

theorem Reg.slot_keep {j : Nat} (hj : j < ops.size) {t : Nat} (ht : ¬ WrT ops j t) : (Tf (j + 1)).get t = (Tf j).get t := by
  have ho := Array.getElem?_eq_getElem hj
  obtain ⟨v, hv⟩ := R.put hn ho
  rw [hv]
  cases hd : (ops[j]).dst with
  | none => rfl
  | some d =>
    show ((Tf j).set d v).get t = _
    rw [Tm.get_set, if_neg]
    rintro rfl; exact ht ⟨_, ho, hd⟩

/-- What is ahead of an operation in every order. -/
theorem Reg.lt {j x : Nat} (hj : j < ops.size) (h : Nat.testBit ((nth ms j).getD 0) x = true) : x < j := by
  induction j using Nat.strongRecOn with
  | _ j ih =>
    obtain ⟨e, h1, h2⟩ := R.bit j _ (Array.getElem?_eq_getElem hj) x h
    have he := R.dep j _ (Array.getElem?_eq_getElem hj) e h1
    rcases h2 with rfl | h2
    · exact he
    · have := ih e he (by omega) h2; omega

/-- A place that was taken. -/
structure Down (ops : Array Oper) (S : Nat → Bool) : Prop where
  cl : ∀ j o, ops[j]? = some o → S j = true → ∀ e ∈ deps o, S e = true

theorem Reg.ahead_in {S : Nat → Bool} (hS : Down ops S) {j x : Nat} (hj : j < ops.size) (hSj : S j = true) (h : Nat.testBit ((nth ms j).getD 0) x = true) : S x = true := by
  induction j using Nat.strongRecOn with
  | _ j ih =>
    obtain ⟨e, h1, h2⟩ := R.bit j _ (Array.getElem?_eq_getElem hj) x h
    have he := R.dep j _ (Array.getElem?_eq_getElem hj) e h1
    have hSe := hS.cl j _ (Array.getElem?_eq_getElem hj) hSj e h1
    rcases h2 with rfl | h2
    · exact hSe
    · exact ih e he (by omega) hSe h2

theorem Reg.ahead_ready {S : Nat → Bool} (hS : Down ops S) {y x : Nat} {o : Oper} (ho : ops[y]? = some o) (hr : ∀ e ∈ deps o, S e = true) (h : Nat.testBit ((nth ms y).getD 0) x = true) : S x = true := by
  obtain ⟨e, h1, h2⟩ := R.bit y _ ho x h
  have he := R.dep y _ ho e h1
  have hy : y < ops.size := (Array.getElem?_eq_some_iff.1 ho).1
  rcases h2 with rfl | h2
  · exact hr _ h1
  · exact R.ahead_in hn hS (by omega) (hr e h1) h2

/-- Who writes what another reads is ahead of it, or behind it. -/
theorem Reg.order {z y : Nat} (hz : z < ops.size) (hy : y < ops.size) (hne : y ≠ z) {ws : List Nat} {b : Nat} (hc : cl B ops Tf Af on z = .e ws) (hb : b ∈ ws) (hoy : on y = true)
    (hc2 : cl B ops Tf Af on y = .q ∨ (∃ ws, cl B ops Tf Af on y = .e ws) ∨ cl B ops Tf Af on y = .l b ∨ cl B ops Tf Af on y = .n b) : (z < y → Nat.testBit ((nth ms y).getD 0) z = true) ∧ (y < z → Nat.testBit ((nth ms z).getD 0) y = true) := by
  have hm := R.mem hn hz (R.on_of hn (by rw [hc]; simp))
  rw [hc] at hm
  have := apartFrom_spec (R.tro z ws hm) y _ (R.mem hn hy hoy)
  rcases this with h | h | h | ⟨b', h, h'⟩ | ⟨b', h, h'⟩
  · exact absurd h hne
  · unfold met at h
    rw [Bool.or_eq_true] at h
    rcases h with h | h
    · have := R.lt hn hy h
      exact ⟨fun _ => h, fun _ => by omega⟩
    · have := R.lt hn hz h
      exact ⟨fun _ => by omega, fun _ => h⟩
  · rw [h] at hc2; simp at hc2
  · rw [h] at hc2; simp at hc2; subst hc2; exact absurd hb h'
  · rw [h] at hc2; simp at hc2; subst hc2; exact absurd hb h'

variable {S : Nat → Bool} (hS : Down ops S) {y : Nat} {o : Oper} (ho : ops[y]? = some o) (hr : ∀ e ∈ deps o, S e = true) (hy : S y = false)
include hS ho hr hy

omit hr in
/-- A later write of what place y reads or makes isn't done. -/
theorem Reg.later {z b : Nat} (hz : z < ops.size) (hyz : y < z) (hoy : on y = true) (hw : WrA B ops Tf Af on z b) (hb : b < (Af (y + 1)).next)
    (hc2 : cl B ops Tf Af on y = .q ∨ (∃ ws, cl B ops Tf Af on y = .e ws) ∨ cl B ops Tf Af on y = .l b ∨ cl B ops Tf Af on y = .n b) : S z = false := by
  have hys : y < ops.size := (Array.getElem?_eq_some_iff.1 ho).1
  rcases hw with ⟨ws, h1, h2⟩ | ⟨h1, h2⟩
  · cases hSz : S z
    · rfl
    · have := R.ahead_in hn hS hz hSz ((R.order hn hz hys (by omega) h1 h2 hoy hc2).2 hyz)
      rw [this] at hy; cases hy
  · have := (R.grows hn (show y + 1 ≤ z by omega) (by omega)).le
    omega

/-- What place y reads lies as it lay in the one order. -/
theorem Reg.reads {E : Env} (hE : ∀ j, j < ops.size → S j = false → Free E (Af j).next (Af (j + 1)).next) {b : Nat} {L : Loc} (hL : E b = some L) (hb : b < (Af y).next) (hoy : on y = true) (hrd : Rd (cl B ops Tf Af on y) b) :
    ov (fun j b => (Af j).heap.get b) (WrA B ops Tf Af on) S ops.size b = (Af y).heap.get b := by
  have hys : y < ops.size := (Array.getElem?_eq_some_iff.1 ho).1
  have hc2 : cl B ops Tf Af on y = .q ∨ (∃ ws, cl B ops Tf Af on y = .e ws) ∨ cl B ops Tf Af on y = .l b ∨ cl B ops Tf Af on y = .n b := by
    rcases hrd with h | h | h
    · exact .inl h
    · exact .inr (.inl h)
    · exact .inr (.inr (.inl h))
  refine ov_at (X := fun j b => (Af j).heap.get b) (Nat.le_of_lt hys) (fun x hx h => R.keep hn hx h) (fun x hx hw => ?_) (fun z h1 h2 hw => ?_)
  · rcases hw with ⟨ws, h1, h2⟩ | ⟨h1, h2⟩
    · exact R.ahead_ready hn hS ho hr ((R.order hn (by omega) hys (by omega) h1 h2 hoy hc2).1 hx)
    · cases hSx : S x
      · have := hE x (by omega) hSx b h1 h2
        rw [this] at hL; cases hL
      · rfl
  · by_cases e : z = y
    · subst e; exact hy
    · exact R.later hn hS ho hy h2 (by omega) hoy hw (by have := (R.grow hn hys).le; omega) hc2

/-- What lies behind place y. -/
theorem Reg.next {E E' : Env} (hE : ∀ j, j < ops.size → S j = false → Free E (Af j).next (Af (j + 1)).next) (hext : Ext' E E' (Af y).next (Af (y + 1)).next) {S' : Nat → Bool} (hS' : ∀ x, S' x = if x = y then true else S x) (hoy : on y = true)
    {T : Tm} {v : AV} {K K' : AW} {In : Nat → Prop} (hV : View B rn T o v (Af y) (Af (y + 1)) (cl B ops Tf Af on y) K K' In) :
    (∀ b L, In b → E' b = some L → ov (fun j b => (Af j).heap.get b) (WrA B ops Tf Af on) S' ops.size b = K'.heap.get b) ∧
    (∀ b L, ¬ In b → E' b = some L → ov (fun j b => (Af j).heap.get b) (WrA B ops Tf Af on) S' ops.size b = ov (fun j b => (Af j).heap.get b) (WrA B ops Tf Af on) S ops.size b) := by
  have hys : y < ops.size := (Array.getElem?_eq_some_iff.1 ho).1
  have other : ∀ b, ¬ WrA B ops Tf Af on y b → ov (fun j b => (Af j).heap.get b) (WrA B ops Tf Af on) S' ops.size b = ov (fun j b => (Af j).heap.get b) (WrA B ops Tf Af on) S ops.size b := fun b hb =>
    ov_other (fun x _ hw => by
      rw [hS', if_neg]
      rintro rfl; exact hb hw)
  refine ⟨fun b L hin hL => ?_, fun b L hin hL => other b (hV.out b hin).2⟩
  rw [hV.inn b hin]
  by_cases hw : WrA B ops Tf Af on y b
  · refine ov_new (X := fun j b => (Af j).heap.get b) hys (by rw [hS', if_pos rfl]) hw (fun z h1 h2 hwz => ?_)
    rw [hS', if_neg (by omega)]
    rcases hw with ⟨ws, q1, q2⟩ | ⟨q1, q2⟩
    · have := R.old hn hys q1 q2
      exact R.later hn hS ho hy h2 h1 hoy hwz (by have := (R.grow hn hys).le; omega) (.inr (.inl ⟨ws, q1⟩))
    · refine R.later hn hS ho hy h2 h1 hoy hwz q2 ?_
      rcases (R.fresh hn hys q1 q2).2 with h | h | h
      · exact .inl h
      · exact .inr (.inl h)
      · exact .inr (.inr (.inr h))
  · rw [other b hw, R.keep hn hys hw]
    rcases hV.rd b hin with h | ⟨h1, h2⟩
    · exact absurd (.inr h) hw
    · have hE' : E b = some L := by
        rw [← hext.out b (.inl h1)]; exact hL
      exact R.reads hn hS ho hr hy hE hE' h1 hoy h2

/-- The slots that place y looks at. -/
theorem Reg.slots {t : Nat} (ht : t ∈ o.looksAt ops) : ov (fun j t => (Tf j).get t) (WrT ops) S ops.size t = (Tf y).get t := by
  have hys : y < ops.size := (Array.getElem?_eq_some_iff.1 ho).1
  refine ov_at (X := fun j t => (Tf j).get t) (Nat.le_of_lt hys) (fun x hx h => R.slot_keep hn hx h) (fun x hx hw => ?_) (fun z h1 h2 hw => ?_)
  · obtain ⟨p, hp, hd⟩ := hw
    refine R.ahead_ready hn hS ho hr (R.cla y o x p ho hp hx ?_)
    unfold clash
    simp only [hd, Bool.or_eq_true]
    exact .inl (.inl (by simpa using ht))
  · by_cases e : z = y
    · subst e; exact hy
    · obtain ⟨p, hp, hd⟩ := hw
      cases hSz : S z
      · rfl
      · have := R.ahead_in hn hS h2 hSz (R.cla z p y o hp ho (by omega) (by
          unfold clash
          simp only [hd, Bool.or_eq_true]
          exact .inr (by simpa using ht)))
        rw [this] at hy; cases hy

/-- The slots behind place y. -/
theorem Reg.slots_next {S' : Nat → Bool} (hS' : ∀ x, S' x = if x = y then true else S x) {T : Tm} (hT : ∀ t, T.get t = ov (fun j t => (Tf j).get t) (WrT ops) S ops.size t) {v : AV} (hv : Tf (y + 1) = putT (Tf y) o.dst v) (t : Nat) :
    (putT T o.dst v).get t = ov (fun j t => (Tf j).get t) (WrT ops) S' ops.size t := by
  have hys : y < ops.size := (Array.getElem?_eq_some_iff.1 ho).1
  by_cases hw : WrT ops y t
  · obtain ⟨p, hp, hd⟩ := hw
    rw [ho] at hp; cases hp
    rw [ov_new (X := fun j t => (Tf j).get t) hys (by rw [hS', if_pos rfl]) ⟨o, ho, hd⟩ (fun z h1 h2 hwz => ?_), hv, hd]
    · show (T.set t v).get t = ((Tf y).set t v).get t
      rw [Tm.get_set, Tm.get_set, if_pos rfl, if_pos rfl]
    · rw [hS', if_neg (by omega)]
      obtain ⟨p, hp, hd2⟩ := hwz
      cases hSz : S z
      · rfl
      · have := R.ahead_in hn hS h2 hSz (R.cla z p y o hp ho h1 (by
          unfold clash
          simp only [hd, hd2, Bool.or_eq_true]
          exact .inl (.inr (by simp))))
        rw [this] at hy; cases hy
  · rw [ov_other (S := S) (fun x _ hwx => by
      rw [hS', if_neg]
      rintro rfl; exact hw hwx), ← hT]
    cases hd : o.dst with
    | none => rfl
    | some d =>
      show (T.set d v).get t = _
      rw [Tm.get_set, if_neg]
      rintro rfl; exact hw ⟨o, ho, hd⟩
end
end Go.Ax
namespace Go.Ax
open Go
variable {P : Program} {B : Tb} {G : Nat}

theorem cnt_lt {p q : Nat → Bool} (hqp : ∀ x, q x = true → p x = true) {i : Nat} (hp : p i = true) (hq : q i = false) : ∀ {l : List Nat}, i ∈ l → l.countP q < l.countP p
  | [], h => by cases h
  | x :: l, h => by
    have hle : l.countP q ≤ l.countP p := List.countP_mono_left (fun x _ hx => hqp x hx)
    rw [List.countP_cons, List.countP_cons]
    rcases List.mem_cons.1 h with rfl | h
    · rw [hp, hq]; simp; omega
    · have := cnt_lt hqp hp hq h
      by_cases e : q x = true
      · rw [e, hqp x e]; simp; omega
      · rw [Bool.not_eq_true] at e
        rw [e]
        simp only [Bool.false_eq_true, if_false, Nat.add_zero]
        exact Nat.lt_of_lt_of_le this (Nat.le_add_right _ _)

def SL (L : Array Bool) (j : Nat) : Bool := L.getD j true

theorem SL_set {L : Array Bool} {i : Nat} (hi : i < L.size) (x : Nat) : SL (L.setIfInBounds i true) x = if x = i then true else SL L x := by
  unfold SL
  by_cases e : x = i
  · subst e
    rw [if_pos rfl, Array.getD_eq_getD_getElem?, Array.getElem?_setIfInBounds_self_of_lt hi]
    rfl
  · rw [if_neg e]; exact getD_set_ne true (Ne.symm e)

theorem mem_deps {o : Oper} {e : Nat} : e ∈ deps o ↔ ∃ g ∈ o.after, Region.binds .any g = true ∧ g.on = e := by
  unfold deps
  rw [List.mem_map]
  constructor
  · rintro ⟨g, hg, rfl⟩
    rw [List.mem_filter] at hg
    exact ⟨g, by simpa using hg.1, hg.2, rfl⟩
  · rintro ⟨g, h1, h2, rfl⟩
    exact ⟨g, List.mem_filter.2 ⟨by simpa using h1, h2⟩, rfl⟩

section
variable {rn : Rn} {N : Nat} {ops : Array Oper} {tr : List (Nat × Cls)} {Tf : Nat → Tm} {Af : Nat → AW} {on : Nat → Bool} {ms : List Nat}

theorem ready_spec (R : Reg B rn N ops tr Tf Af on ms) {L : Array Bool} (hL : L.size = ops.size) {i : Nat} (h : i ∈ Region.ready .any ops L) : SL L i = false ∧ ∃ o, ops[i]? = some o ∧ ∀ e ∈ deps o, SL L e = true := by
  obtain ⟨h1, o, h2, h3⟩ := mem_ready.1 h
  refine ⟨h1, o, h2, fun e he => ?_⟩
  obtain ⟨g, g1, g2, rfl⟩ := mem_deps.1 he
  have hlt : g.on < L.size := by
    have := R.dep i o h2 g.on he
    have := (Array.getElem?_eq_some_iff.1 h2).1
    omega
  have := h3 g g1 g2
  unfold SL
  rw [Array.getD_eq_getD_getElem?, Array.getElem?_eq_getElem hlt] at this ⊢
  exact this

theorem ready_nil (R : Reg B rn N ops tr Tf Af on ms) {L : Array Bool} (hL : L.size = ops.size) (h : Region.ready .any ops L = []) {j : Nat} (hj : j < ops.size) : SL L j = true := by
  induction j using Nat.strongRecOn with
  | _ j ih =>
    cases hS : SL L j
    · have ho := Array.getElem?_eq_getElem hj
      have : j ∈ Region.ready .any ops L := mem_ready.2 ⟨hS, _, ho, fun g hg hb => by
        have hd : g.on ∈ deps ops[j] := mem_deps.2 ⟨g, hg, hb, rfl⟩
        have hlt := R.dep j _ ho g.on hd
        have := ih g.on hlt (by omega)
        unfold SL at this
        rw [Array.getD_eq_getD_getElem?, Array.getElem?_eq_getElem (by omega)] at this ⊢
        exact this⟩
      rw [h] at this; cases this
    · rfl

/-- Every order. -/
theorem draw_any (ok : Ok P B) (yk : YOk P B G) (h1 : RnOk P G rn) (h2 : RnOkS P G rn) (hn : RnNext rn) (R : Reg B rn N ops tr Tf Af on ms) {F : Fence} (hF : Wide F) (nn : Nat) {E0 : Env} {w0 : World} {ds : List DI} {Q : Exit → Act → World → Prop}
    (hQ : ∀ a w, Post G N E0 (Af 0) w0 .normal (Tf ops.size, ds, Af ops.size) .normal a w → Q .normal a w) :
    ∀ (fuel : Nat) (L : Array Bool) (E : Env) (a : Act) (w : World) (T : Tm), L.size = ops.size → (List.range ops.size).countP (fun j => !SL L j) ≤ fuel → Down ops (SL L) → TR E N T a.tmps →
      (∀ t, T.get t = ov (fun j t => (Tf j).get t) (WrT ops) (SL L) ops.size t) → DL E ds a.defers →
      Stp G E0 (Af 0).heap.get w0 E (ov (fun j b => (Af j).heap.get b) (WrA B ops Tf Af on) (SL L) ops.size) w (Af 0).next (Af ops.size).next →
      (∀ j, j < ops.size → SL L j = false → Free E (Af j).next (Af (j + 1)).next) → wpAnyIn F nn P .any ops Q fuel L a w := by
  have fin : ∀ (L : Array Bool) (E : Env) (a : Act) (w : World) (T : Tm), (∀ j, j < ops.size → SL L j = true) → TR E N T a.tmps →
      (∀ t, T.get t = ov (fun j t => (Tf j).get t) (WrT ops) (SL L) ops.size t) → DL E ds a.defers →
      Stp G E0 (Af 0).heap.get w0 E (ov (fun j b => (Af j).heap.get b) (WrA B ops Tf Af on) (SL L) ops.size) w (Af 0).next (Af ops.size).next → Q .normal a w := by
    intro L E a w T hall ht hT hd hst
    refine hQ a w ⟨E, rfl, ?_, ⟨ht.size, fun i v hv => ht.slot i v ?_⟩, hd⟩
    · have : ov (fun j b => (Af j).heap.get b) (WrA B ops Tf Af on) (SL L) ops.size = (Af ops.size).heap.get := by
        funext b
        exact ov_prefix (X := fun j b => (Af j).heap.get b) (fun x hx h => R.keep hn hx h) (fun x hx _ => hall x hx)
      rw [this] at hst
      exact hst
    · rw [hT]
      have := ov_prefix (X := fun j t => (Tf j).get t) (Wr := WrT ops) (S := SL L) (b := i) (y := ops.size) (fun x hx h => R.slot_keep hn hx h) (fun x hx _ => hall x hx)
      rw [this]; exact hv
  intro fuel
  induction fuel with
  | zero =>
    intro L E a w T hL hcnt hD ht hT hd hst hfr
    have hall : ∀ j, j < ops.size → SL L j = true := by
      intro j hj
      cases hS : SL L j
      · have : 0 < (List.range ops.size).countP (fun j => !SL L j) := List.countP_pos_iff.2 ⟨j, List.mem_range.2 hj, by simp [hS]⟩
        omega
      · rfl
    refine ⟨?_, fin L E a w T hall ht hT hd hst⟩
    cases hr : Region.ready .any ops L with
    | nil => rfl
    | cons i l =>
      obtain ⟨q1, o, q2, _⟩ := ready_spec R hL (i := i) (by rw [hr]; simp)
      rw [hall i (Array.getElem?_eq_some_iff.1 q2).1] at q1; cases q1
  | succ fuel ih =>
    intro L E a w T hL hcnt hD ht hT hd hst hfr
    refine ⟨fun hr => fin L E a w T (fun j hj => ready_nil R hL hr hj) ht hT hd hst, fun i hi => ?_⟩
    obtain ⟨hSi, o, ho, hdep⟩ := ready_spec R hL hi
    have his : i < ops.size := (Array.getElem?_eq_some_iff.1 ho).1
    have hS' := SL_set (L := L) (i := i) (by omega)
    have hcnt' : (List.range ops.size).countP (fun j => !SL (L.setIfInBounds i true) j) ≤ fuel := by
      have : (List.range ops.size).countP (fun j => !SL (L.setIfInBounds i true) j) < (List.range ops.size).countP (fun j => !SL L j) := by
        refine cnt_lt (fun x hx => ?_) (i := i) (by simp [hSi]) (by rw [hS', if_pos rfl]; rfl) (List.mem_range.2 his)
        simp only [Bool.not_eq_true'] at hx ⊢
        rw [hS'] at hx
        by_cases e : x = i
        · rw [if_pos e] at hx; cases hx
        · rw [if_neg e] at hx; exact hx
      omega
    have hD' : Down ops (SL (L.setIfInBounds i true)) := ⟨fun j p hj hSj e he => by
      rw [hS'] at hSj ⊢
      by_cases e1 : e = i
      · rw [if_pos e1]
      · rw [if_neg e1]
        by_cases e2 : j = i
        · subst e2; rw [ho] at hj; cases hj; exact hdep e he
        · rw [if_neg e2] at hSj; exact hD.cl j p hj hSj e he⟩
    obtain ⟨hin, hw, hoff, hon⟩ := R.rg i o ho
    have hslots : ∀ t, t ∈ o.looksAt ops → T.get t = (Tf i).get t := fun t h => by rw [hT, R.slots hn hD ho hdep hSi h]
    have hwT : wantedA ops T o = some (on i) := by rw [wantedA_congr hslots, hw]
    unfold wpOpIn
    simp only [ho]
    rw [wanted_ok ht hwT]
    cases hoi : on i with
    | false =>
      simp only [Bool.false_eq_true, if_false]
      obtain ⟨hA, hTe⟩ := hoff hoi
      refine ⟨fun f _ => hF.fn f, ih (L.setIfInBounds i true) E _ w (putT T o.dst (.tup [])) (by simpa using hL) hcnt' hD' (put_TR ht hin (undef_V E)) (R.slots_next hn hD ho hdep hSi hS' hT hTe) (by cases o.dst <;> exact hd) ?_ (fun j hj hSj => ?_)⟩
      · have : ov (fun j b => (Af j).heap.get b) (WrA B ops Tf Af on) (SL (L.setIfInBounds i true)) ops.size = ov (fun j b => (Af j).heap.get b) (WrA B ops Tf Af on) (SL L) ops.size := by
          funext b
          refine ov_other (fun x hx hwx => ?_)
          rw [hS', if_neg]
          rintro rfl
          rcases hwx with ⟨ws, q1, _⟩ | ⟨q1, q2⟩
          · have := R.on_of hn (j := x) (by rw [q1]; simp)
            rw [hoi] at this; cases this
          · rw [hA] at q2; omega
        rw [this]; exact hst
      · rw [hS'] at hSj
        by_cases e : j = i
        · rw [if_pos e] at hSj; cases hSj
        · rw [if_neg e] at hSj; exact hfr j hj hSj
    | true =>
      simp only [if_true]
      obtain ⟨v, K, K', In, hV, hTe⟩ := R.view hn ho hoi
      have hrun : doA B rn .rnd T ds K o = some (v, ds, K') := by
        refine doA_more ?_ ds
        rw [doA_congr hslots]; exact hV.run
      have hsub : ∀ b x M, K.heap.get b = some x → E b = some M → ov (fun j b => (Af j).heap.get b) (WrA B ops Tf Af on) (SL L) ops.size b = some x := fun b x M q1 q2 => by
        obtain ⟨r1, r2, r3⟩ := hV.sub b x q1
        rw [R.reads hn hD ho hdep hSi hfr q2 r2 hoi r3, r1]
      refine doA_ok ok yk h1 h2 hn (by simp) hrun ht hd (hst.rel.sub hsub) ⟨?_, hV.wf⟩ hF (fun e => by cases e) nn (fun E' a' v' w' hst' hVv hta hda => ?_)
      · simp only [hV.next, hV.next']; exact hfr i his hSi
      · simp only [hV.next, hV.next'] at hst'
        obtain ⟨n1, n2⟩ := R.next hn hD ho hdep hSi hfr hst'.ext hS' hoi hV
        have hover := Stp.over (H' := ov (fun j b => (Af j).heap.get b) (WrA B ops Tf Af on) (SL (L.setIfInBounds i true)) ops.size) In hst hst' (R.grows hn (Nat.zero_le i) (by omega)).le (R.grows hn (show i + 1 ≤ ops.size by omega) (Nat.le_refl _)).le hsub
          (fun b hb => ⟨(hV.out b hb).1, fun x => (hV.out b hb).2 (.inr x)⟩) n1 n2
        refine ih (L.setIfInBounds i true) E' _ w' (putT T o.dst v) (by simpa using hL) hcnt' hD' (put_TR (by rw [hta]; exact ht.mono hst'.ext.le) hin hVv) (R.slots_next hn hD ho hdep hSi hS' hT hTe) (by cases o.dst <;> exact hda) hover (fun j hj hSj b q1 q2 => ?_)
        rw [hS'] at hSj
        by_cases e : j = i
        · rw [if_pos e] at hSj; cases hSj
        · rw [if_neg e] at hSj
          rw [hst'.ext.out b ?_]
          · exact hfr j hj hSj b q1 q2
          · rcases Nat.lt_or_gt_of_ne e with h | h
            · have := (R.grows hn (show j + 1 ≤ i by omega) (by omega)).le; omega
            · have := (R.grows hn (show i + 1 ≤ j by omega) (by omega)).le; omega
end

theorem draw_ok (hm : P.follows .mixedOrders = true) (ok : Ok P B) (yk : YOk P B G) {rn : Rn} (h1 : RnOk P G rn) (h2 : RnOkS P G rn) (hn : RnNext rn) : DrawOk P B G rn := by
  intro n ops s r h F nn E a w id hF ht hd hr hf
  unfold drawA at h
  simp only [Bool.cond_eq_ite] at h
  split at h
  · cases h
  · rename_i hreg
    split at h
    · rename_i tr T A hops
      split at h
      · rename_i htr
        cases h
        simp only [Bool.not_eq_true', Bool.not_eq_false] at hreg
        obtain ⟨Tf, Af, on, q1, q2, q3, q4, q5⟩ := opsT_rg hops
        have hsz : ops.toList.length = ops.size := by simp
        have hget : ∀ j : Nat, ops.toList[j]? = ops[j]? := fun j => by simp
        have hdep : ∀ j o, ops[j]? = some o → ∀ e ∈ deps o, e < j := fun j o ho e he => by
          have := (slotsOk_spec hreg j o (by rw [hget]; exact ho)).1 e he
          omega
        have R : Reg B rn n ops tr Tf Af on (masks [] ops.toList) := by
          refine ⟨fun j o ho => ?_, hdep, fun j o ho x hx => ?_, fun j o x p ho hp hx hc => ?_, trOk_spec htr, by rw [q2]; exact hf.wf⟩
          · have := q5.step j o (by rw [hget]; exact ho)
            simpa using this
          · have := masks_spec (l := ops.toList) (ms := []) (k := j) (o := o) (fun j o ho e he => by
              have := hdep j o (by rw [← hget]; exact ho) e he
              simpa using this) (by rw [hget]; exact ho) x (by simpa using hx)
            exact this
          · have := (slotsOk_spec hreg j o (by rw [hget]; exact ho)).2 x p (by
              rw [List.getElem?_take, if_pos (by omega), hget]; exact hp) hc
            simpa using this
        rw [hsz] at q3 q4
        simp only [Nat.zero_add] at q3 q4
        refine wpIn_region_any hm ?_
        have hrep : ∀ j, j < ops.size → SL (Array.replicate ops.size false) j = false := fun j hj => by
          unfold SL
          rw [Array.getD_eq_getD_getElem?, Array.getElem?_replicate, if_pos hj]; rfl
        have hov : ∀ {β : Type} (X : Nat → Nat → β) (Wr : Nat → Nat → Prop) b, ov X Wr (SL (Array.replicate ops.size false)) ops.size b = X 0 b := fun X Wr b => by
          have := ov_at (X := X) (Wr := Wr) (S := SL (Array.replicate ops.size false)) (b := b) (y := 0) (n := ops.size) (Nat.zero_le _)
          have e := ov_suffix (X := X) (Wr := Wr) (S := SL (Array.replicate ops.size false)) (b := b) (y := 0) (m := ops.size) (fun z _ hz _ => hrep z (by omega))
          rw [Nat.zero_add] at e
          rw [e]; rfl
        refine draw_any ok yk h1 h2 hn R hF nn (E0 := E) (w0 := w) (ds := s.2.1) (fun a' w' hp => ?_) ops.size _ E a _ s.1 (by simp) ?_ ⟨fun j o ho hS => ?_⟩ ht (fun t => ?_) hd ?_ (fun j hj _ => ?_)
        · rw [q2, q3, q4] at hp; exact hp
        · refine Nat.le_trans (List.countP_le_length) (by simp)
        · rw [hrep j (Array.getElem?_eq_some_iff.1 ho).1] at hS; cases hS
        · rw [hov]; show s.1.get t = (Tf 0).get t; rw [q1]
        · have : ov (fun j b => (Af j).heap.get b) (WrA B ops Tf Af on) (SL (Array.replicate ops.size false)) ops.size = s.2.2.heap.get := by
            funext b
            rw [hov]; show (Af 0).heap.get b = _; rw [q2]
          rw [this, q2, q4]
          have g : Grow s.2.2 A := by have := opsT_next hn hops; exact this
          have hs := Stp.draw (w' := { w with drawn := w.drawn + 1 }) hr s.2.2.next rfl rfl rfl rfl
          exact ⟨g.le, ⟨hs.ext.le, fun b hb => rfl⟩, hs.rel, hs.os, hs.tape, hs.output, hs.size, hs.same, hs.sub⟩
        · refine hf.fr.sub ?_ ?_
          · have := (R.grows hn (Nat.zero_le j) (by omega)).le
            rw [q2] at this; exact this
          · have := (R.grows hn (show j + 1 ≤ ops.size by omega) (Nat.le_refl _)).le
            rw [q4] at this; exact this
      · cases h
    · cases h
end Go.Ax
namespace Go.Ax
open Go
variable {P : Program} {B : Tb} {G : Nat}

theorem callA_fun {rn : Rn} {f : FuncId} {as : List AV} {A : AW} {r : AV × AW} (h : callA B rn f as A = some r) {g : Fn} {x y : List AV} (hm : AV.fn g x y ∈ as) : ∃ fn c, B.F f = some fn ∧ fn.body = some c := by
  unfold callA at h
  split at h
  · rename_i p _
    exfalso
    cases p
    unfold primA at h
    split at h
    · simp at hm
    · cases h
  · split at h
    · cases h
    · rename_i hb
      obtain ⟨h1, c, _, h2, _⟩ := bodyA_inv hb
      exact ⟨_, c, h1, h2⟩

theorem range_ok (ok : Ok P B) (yk : YOk P B G) {rn : Rn} (h1 : RnOk P G rn) (h2 : RnOkS P G rn) (hn : RnNext rn) :
    ∀ n k g ps asg body s r, stepA B rn n k (.rangeFunc g ps asg body) s = some r → k ≠ .dfr → ∀ F nn E a w, Wide F → RoOk F k → TR E n s.1 a.tmps → DL E s.2.1 a.defers → Rel G E s.2.2.heap.get w →
      Fit E s.2.2 r.2.2.2.next → (Code.rangeFunc g ps asg body).wpIn F nn P (Post G n E s.2.2 w r.1 r.2) a w := by
  intro n k g ps asg body s r h hk F nn E a w hF hro ht hd hr hf
  obtain ⟨T, ds, A⟩ := s
  simp only at ht hd hr hf h
  simp only [stepA] at h
  cases hlow : low k with
  | dfr => rw [hlow] at h; simp at h
  | rnd => rw [hlow] at h; simp at h
  | fn =>
  have hkf : k = .fn := by cases k <;> first | rfl | exact absurd rfl hk | cases hlow
  subst hkf
  have hro' : F.round = none := hro
  rw [hlow] at h
  cases hev : ev T g with
  | none => rw [hev] at h; simp at h
  | some gv =>
  rw [hev] at h
  cases gv with
  | fn gf first captured =>
    cases gf with
    | func f =>
      simp only at h
      cases hc : callA B rn f (first ++ [.fn (.yield (A.new .defs).next) [] []] ++ captured) ((A.new .defs).new (.loop .ready none 0 n T ps.toList asg body A.next)) with
      | none => rw [hc] at h; cases h
      | some p =>
      obtain ⟨cv, A3⟩ := p
      rw [hc] at h
      simp only at h
      have hnx := callA_next hn hc
      simp only at hnx
      obtain ⟨fn, c, hBF, hbody⟩ := callA_fun hc (g := .yield (A.new .defs).next) (x := []) (y := []) (by simp)
      obtain ⟨hP, hname⟩ := ok.m.F f fn hBF
      have hN : A3.next ≤ r.2.2.2.next := by
        split at h
        · cases h
        · split at h <;> first | (cases h; exact Nat.le_refl _) | cases h
        · cases h
      have hle1 : A.next + 1 + 1 ≤ A3.next := hnx.le
      -- the two blocks
      have hE0 : E A.next = none := hf.fr A.next (Nat.le_refl _) (by omega)
      have st1 := Stp.new hr hE0 .defs (.deferred (some [])) 0 (by simp only [ObjR]; exact alloc_self _ _)
      have hE1 : (E.bind A.next ⟨w.heap.size, 0, 0⟩) (A.new .defs).next = none := by
        rw [st1.ext.out _ (.inr (Nat.le_refl _))]
        exact hf.fr _ (by simp only [AW.new]; omega) (by simp only [AW.new]; omega)
      have fit1 : Fit (E.bind A.next ⟨w.heap.size, 0, 0⟩) (A.new .defs) r.2.2.2.next := st1.ext.fit hf (Grow.new _ _)
      refine wpIn_rangeFunc (fun fid _ => ?_)
      have hd0 : (E.bind A.next ⟨w.heap.size, 0, 0⟩) A.next = some ⟨w.heap.size, 0, 0⟩ := Env.bind_self _ _ _
      have st2 := Stp.new (G := G) (A := A.new .defs) (w := w.alloc (.deferred (some []))) st1.rel hE1 (.loop .ready none 0 n T ps.toList asg body A.next)
        (.loop { state := .ready, pending := none, fn := fid, tmps := a.tmps, params := ps, assign := asg, body := body, defers := w.heap.size }) 0 (by
          simp only [ObjR]
          refine ⟨a.tmps, fid, w.heap.size, ?_, (ht.mono st1.ext.le).mono (Env.bind_le hE1), ⟨w.heap.size, 0, 0⟩, Env.bind_le hE1 _ _ hd0, rfl⟩
          rw [alloc_self])
      have fit2 := st2.ext.fit fit1 (Grow.new _ _)
      have st12 := st1.trans st2
      generalize hE2 : (E.bind A.next ⟨w.heap.size, 0, 0⟩).bind (A.new .defs).next ⟨(w.alloc (.deferred (some []))).heap.size, 0, 0⟩ = E2 at st2 fit2 st12
      have hl2 : E2 (A.new .defs).next = some ⟨(w.alloc (.deferred (some []))).heap.size, 0, 0⟩ := by rw [← hE2]; exact Env.bind_self _ _ _
      have hgv := ev_V ht hev
      simp only [V] at hgv
      obtain ⟨f', a', c', g1, g2, g3, g4⟩ := hgv
      simp only [FnR] at g2; subst g2
      have hargs : VL E2 (first ++ [.fn (.yield (A.new .defs).next) [] []] ++ captured) ((a' ++ #[Value.func (.yield (w.alloc (.deferred (some []))).heap.size) #[] #[]]) ++ c').toList := by
        rw [Array.toList_append, Array.toList_append]
        refine ((g3.mono st12.ext.le).append ?_).append (g4.mono st12.ext.le)
        simp only [VL]
        refine ⟨_, [], rfl, ?_, rfl⟩
        simp only [V]
        exact ⟨_, _, _, rfl, ⟨_, hl2, rfl⟩, rfl, rfl⟩
      obtain ⟨W2, hW2⟩ : ∃ W2, W2 = (w.alloc (.deferred (some []))).alloc (.loop { state := .ready, pending := none, fn := fid, tmps := a.tmps, params := ps, assign := asg, body := body, defers := w.heap.size }) := ⟨_, rfl⟩
      rw [← hW2] at st2 st12
      have e1 : (Instr.enterLoop fid a.tmps ps asg body F.round).run P w = .ok ((w.alloc (.deferred (some []))).heap.size, [{ target := .collected w.heap.size, args := #[] }]) W2 := by
        rw [hro', hW2]
        unfold Instr.enterLoop
        simp
      have e2 : (resolve a.eval (rangeCall g (w.alloc (.deferred (some []))).heap.size) 0).run P W2 = .ok { target := .fn (.func f) c', args := a' ++ #[Value.func (.yield (w.alloc (.deferred (some []))).heap.size) #[] #[]] } W2 := by
        unfold resolve
        simp only [g1, Deferred.ofValue, Sem.run_pure]
        simp [Act.eval]
      have e3 : (invoke (.fn (.func f) c') (a' ++ #[Value.func (.yield (w.alloc (.deferred (some []))).heap.size) #[] #[]])).run P W2 = .ok (.enter f ((a' ++ #[Value.func (.yield (w.alloc (.deferred (some []))).heap.size) #[] #[]]) ++ c')) W2 := by
        simp [invoke, callFunc, hP, hname, hbody]
      refine ⟨_, _, W2, _, W2, f, _, W2, e1, e2, fun f' _ => hF.fn f', e3, hF.nd, ?_⟩
      · refine CallsIn.mono (callA_ok ok yk h1 h2 hn hc hargs st2.rel (fit2.sub hN) hF (nn - 1)) ?_
        rintro e w3 ⟨E3, u, rfl, st3, _⟩
        have hl3 := st3.ext.le _ _ hl2
        have hr3 : E3 A.next = some ⟨w.heap.size, 0, 0⟩ := st3.ext.le _ _ (by rw [← hE2]; exact Env.bind_le hE1 _ _ hd0)
        have st := st12.trans st3
        split at h
        · cases h
        · rename_i state pending f2 n2 T2 ps2 asg2 body2 dfs2 hbusy hb
          obtain ⟨tm3, fn3, D3, hob3, htm3, M3, hM3, rfl⟩ := st3.rel.obj _ _ _ hb hl3
          have hnb : (state == LoopState.busy) = false := by
            cases state <;> first | rfl | exact (hbusy rfl).elim
          have hg3 : (Instr.getLoop (w.alloc (.deferred (some []))).heap.size).run P w3 = .ok { state := state, pending := pending, fn := fn3, tmps := tm3, params := ps2.toArray, assign := asg2, body := body2, defers := M3.blk } w3 := by
            unfold Instr.getLoop
            simp only [Sem.run_bind, getObj_run hob3 (by simp), Result.andThen_ok, Sem.run_pure]
          have st4 := Stp.setObj st3.rel hb (by simp) hl3 (.loop { state := .exhausted, pending := pending, fn := fn3, tmps := tm3, params := ps2.toArray, assign := asg2, body := body2, defers := M3.blk })
            (o := .loop .exhausted pending f2 n2 T2 ps2 asg2 body2 dfs2) ⟨tm3, fn3, M3.blk, set_self hob3, htm3, M3, hM3, rfl⟩
          have hend : (Instr.endLoop (w.alloc (.deferred (some []))).heap.size).run P w3 = .ok pending { w3 with heap := w3.heap.setIfInBounds (w.alloc (.deferred (some []))).heap.size (.loop { state := .exhausted, pending := pending, fn := fn3, tmps := tm3, params := ps2.toArray, assign := asg2, body := body2, defers := M3.blk }) } := by
            unfold Instr.endLoop
            simp only [Sem.run_bind, hg3, Result.andThen_ok, hnb, Bool.false_eq_true, if_false, setObj_run hob3 (by simp), Sem.run_pure]
          have stf := st.trans st4
          have fin : ∀ (ctl : Ctl) (ex : Exit), CtlR ctl ex → r = (ctl, (T, .coll A.next :: ds, A3.put (A.new .defs).next (.loop .exhausted pending f2 n2 T2 ps2 asg2 body2 dfs2))) →
              Post G n E A w r.1 r.2 ex { a with defers := [{ target := .collected w.heap.size, args := #[] }] ++ a.defers } { w3 with heap := w3.heap.setIfInBounds (w.alloc (.deferred (some []))).heap.size (.loop { state := .exhausted, pending := pending, fn := fn3, tmps := tm3, params := ps2.toArray, assign := asg2, body := body2, defers := M3.blk }) } := by
            rintro ctl ex hcx rfl
            exact ⟨E3, hcx, stf, ht.mono stf.ext.le, ⟨_, _, rfl, ⟨_, hr3, rfl⟩, hd.mono stf.ext.le⟩⟩
          refine ⟨pending, _, hend, ?_⟩
          split at h
          · cases h; exact fin .normal _ rfl rfl
          · cases h; exact wpIn_ret (fin .ret _ rfl rfl)
          · cases h; exact wpIn_exit (fin (.exit _) _ rfl rfl)
          · cases h
        · cases h
    | _ => simp at h
  | _ => simp at h
end Go.Ax
namespace Go.Ax
open Go
variable {P : Program} {B : Tb} {G : Nat}

theorem opsD_ok (ok : Ok P B) {n : Nat} {ops : Array Oper} {F : Fence} (hF : Wide F) (nn : Nat) {c₀ : Frame} {cs : List Frame} (hm : c₀.mode = .returning) :
    ∀ (l : List Nat) (os : List Oper) {T : Tm} {ds : List DI} {A : AW} {r : Ctl × St} {E : Env} {a : Act} {w : World} {Q : Exit → Act → List Frame → World → Prop}, l.map (ops[·]?) = os.map some → opsD B n ops os T ds A = some r → TR E n T a.tmps → DL E ds a.defers → Rel G E A.heap.get w → Fit E A r.2.2.2.next →
    (∀ e a' w', Post G n E A w r.1 r.2 e a' w' → Q e a' (c₀ :: cs) w') → wpOpsSIn F nn P ops Q l a (c₀ :: cs) w
  | [], [], T, ds, A, r, E, a, w, Q, _, h, ht, hd, hr, hf, hQ => by
    simp only [opsD, Option.some.injEq] at h; subst h
    exact hQ _ _ _ ⟨E, rfl, Stp.refl hr _, ht, hd⟩
  | i :: l, o :: os, T, ds, A, r, E, a, w, Q, hl, h, ht, hd, hr, hf, hQ => by
    simp only [List.map_cons, List.cons.injEq] at hl
    simp only [opsD] at h
    cases hin : inN n o.dst <;> simp only [hin, Bool.not_true, Bool.not_false, cond_true, cond_false, reduceCtorEq] at h
    unfold wpOpsSIn
    simp only [hl.1]
    refine ⟨fun f _ => hF.fn f, ?_⟩
    cases hw : wantedA ops T o with
    | none => simp [hw] at h
    | some b =>
      rw [wanted_ok ht hw]
      cases b with
      | false =>
        simp only [hw] at h
        simp only [Bool.false_eq_true, if_false]
        exact opsD_ok ok hF nn hm l os hl.2 h (put_TR ht hin (undef_V E)) (by cases o.dst <;> exact hd) hr hf hQ
      | true =>
        simp only [hw] at h
        simp only [if_true]
        cases hdo : opA B A T o with
        | none => simp [hdo] at h
        | some p =>
          cases p with
          | val v A' =>
            simp only [hdo] at h
            have m1 : Grow A A' := opA_next hdo
            have m2 := opsD_next h
            obtain ⟨v', w', E', hrun, hst, hV⟩ := op_ok (P := P) ok hr ht hdo (hf.sub m2.le).fr
            have key : ∀ a' : Act, a'.tmps = a.tmps → a'.defers = a.defers → wpOpsSIn F nn P ops Q l (a'.put o.dst v') (c₀ :: cs) w' := fun a' q1 q2 =>
              opsD_ok ok hF nn hm l os hl.2 h (put_TR (by rw [q1]; exact ht.mono hst.ext.le) hin hV) (by cases o.dst <;> (show DL E' ds a'.defers; rw [q2]; exact hd.mono hst.ext.le)) hst.rel (hst.ext.fit hf m1) (fun e a2 w2 hp => hQ e a2 w2 (Post.trans hst hp))
            rcases hrun with hrun | ⟨hrun, rfl⟩
            · rw [hrun]; exact key a rfl rfl
            · rw [hrun]; exact key a rfl rfl
          | recov A' =>
            simp only [hdo] at h
            obtain ⟨rfl, hrun⟩ := op_ok (P := P) (w := w) ok hr ht hdo (hf.sub (opsD_next h).le).fr
            rw [hrun]
            have hrec : recoverD (c₀ :: cs) = none := by simp [recoverD, hm]
            simp only [hrec]
            exact opsD_ok ok hF nn hm l os hl.2 h (put_TR ht hin (by simp only [V])) (by cases o.dst <;> exact hd) hr hf hQ
          | enter f as A' => simp [hdo] at h
          | round f as A' => simp [hdo] at h
          | defer d A' => simp [hdo] at h
  | [], o :: os, T, ds, A, r, E, a, w, Q, hl, _, _, _, _, _, _ => by simp at hl
  | i :: l, [], T, ds, A, r, E, a, w, Q, hl, _, _, _, _, _, _ => by simp at hl

theorem wpSIn_mono {F : Fence} {n : Nat} {c : Code} {Q Q' : Exit → Act → List Frame → World → Prop} {a : Act} {cs : List Frame} {w : World} (h : c.wpSIn F n P Q a cs w) (hq : ∀ e a cs w, Q e a cs w → Q' e a cs w) : c.wpSIn F n P Q' a cs w :=
  fun b k h1 h2 h3 h4 => let ⟨e, a', cs', w', l, q, r⟩ := h b k h1 h2 h3 h4; ⟨e, a', cs', w', l, hq _ _ _ _ q, r⟩

theorem stepS (ok : Ok P B) (yk : YOk P B G) {rn : Rn} (h1 : RnOk P G rn) (h2 : RnOkS P G rn) (hn : RnNext rn) (hs : RnOk P G (fun n k c => stepA B rn n k c)) : RnOkS P G (fun n k c => stepA B rn n k c) := by
  intro n c s r h F nn E a w c₀ cs hm hF hro ht hd hr hf
  -- what is no other than in a call of its own
  have plain : stepA B rn n .fn c s = some r → c.wpSIn F nn P (fun e a' cs' w' => cs' = c₀ :: cs ∧ Post G n E s.2.2 w r.1 r.2 e a' w') a (c₀ :: cs) w := fun h' =>
    wpSIn_of_wpIn hro (wpIn_mono (hs n .fn c s r h' (by simp) F nn E a w hF hro ht hd hr hf) (fun _ _ _ hp => ⟨rfl, hp⟩))
  cases c <;> simp only [stepA] at h <;> (try (exact plain h))
  case region id ops draw =>
    cases draw with
    | true => exact plain h
    | false =>
      cases hrec : ops.toList.any isRec with
      | false =>
        refine plain ?_
        simp only [stepA, cond_false, hrec, Bool.and_false] at h ⊢
        exact h
      | true =>
        simp only [cond_false, hrec, isD, Bool.and_true, cond_true] at h
        exact wpSIn_region (opsD_ok ok hF nn hm _ _ range_map h ht hd hr hf (fun _ _ _ hp => ⟨rfl, hp⟩))
  case seq x y =>
    split at h
    · rename_i s1 hx
      have m1 := hn _ _ _ _ _ hx
      have m2 := hn _ _ _ _ _ h
      refine wpSIn_seq (wpSIn_mono (h2 _ _ _ _ hx F nn E a w c₀ cs hm hF hro ht hd hr (hf.sub m2.le)) ?_)
      rintro e a1 cs1 w1 ⟨rfl, E1, hce, hst, ht1, hd1⟩
      simp only [CtlR] at hce; subst hce
      exact wpSIn_mono (h2 _ _ _ _ h F nn E1 a1 w1 c₀ cs hm hF hro ht1 hd1 hst.rel (hst.ext.fit hf m1)) (fun e a' cs' w' hp => ⟨hp.1, Post.trans hst hp.2⟩)
    · rename_i hne
      have hrn : r.1 ≠ .normal := fun e => hne r.2 (by rw [h, ← e])
      refine wpSIn_seq (wpSIn_mono (h2 _ _ _ _ h F nn E a w c₀ cs hm hF hro ht hd hr hf) ?_)
      rintro e a1 cs1 w1 ⟨rfl, hp⟩
      have hp' := hp
      obtain ⟨E1, hce, _⟩ := hp'
      obtain ⟨c, s'⟩ := r
      cases c with
      | normal => exact absurd rfl hrn
      | exit id => simp only [CtlR] at hce; subst hce; exact ⟨rfl, hp⟩
      | ret => simp only [CtlR] at hce; subst hce; exact ⟨rfl, hp⟩
  case cond c x y =>
    split at h
    · rename_i b hc
      exact wpSIn_cond (V_bool (ev_V ht hc)) (by
        have := h2 _ _ _ _ h F nn E a w c₀ cs hm hF hro ht hd hr hf
        cases b <;> exact this)
    · cases h

/-- The evaluator is right, whatever the fuel. -/
theorem run_all (hm : P.follows .mixedOrders = true) (ok : Ok P B) (yk : YOk P B G) : ∀ fuel, RnOk P G (runA B fuel) ∧ RnOkS P G (runA B fuel) ∧ RnLoop P G fuel (runA B fuel)
  | 0 => ⟨fun _ _ _ _ _ h => (by cases h), fun _ _ _ _ h => (by cases h), fun _ _ _ _ _ h => (by cases h)⟩
  | fuel + 1 => by
    obtain ⟨h1, h2, h3⟩ := run_all hm ok yk fuel
    have hn := runA_next (B := B) fuel
    have hl := loop_step (B := B) h1 h3 hn
    have hs := step_simple ok yk h1 h2 hn (draw_ok hm ok yk h1 h2 hn) hl (range_ok ok yk h1 h2 hn)
    exact ⟨hs, stepS ok yk h1 h2 hn hs, hl⟩

def A0 : AW := ⟨.leaf, 0, []⟩

/-- A closed call: what the evaluator says is so, from any world. -/
theorem closed_call (hm : P.follows .mixedOrders = true) (ok : Ok P B) (yk : YOk P B G) {fuel : Nat} {f : FuncId} {as : List AV} {v : AV} {A' : AW} (h : callA B (runA B fuel) f as A0 = some (v, A')) {vs : Array Value} (hv : VL (fun _ => none) as vs.toList) {w : World} (hk : Kept G w) :
    Calls P f vs w (fun e w' => ∃ (E : Env) (u : Value), e = .returned u ∧ V E v u ∧ w'.os = w.os ∧ w'.tape = w.tape ∧ w'.output = w.output ∧ w.heap.size ≤ w'.heap.size ∧ (∀ i, i < w.heap.size → w'.heap[i]? = w.heap[i]?)) := by
  obtain ⟨h1, h2, _⟩ := run_all hm ok yk fuel
  have hr : Rel G (fun _ => none) A0.heap.get w := ⟨fun b o L _ h => (by cases h), fun b b' o o' L L' _ _ _ _ h => (by cases h), fun b L h => (by cases h), fun b o L _ _ h => (by cases h), hk⟩
  have := callA_ok ok yk h1 h2 (runA_next fuel) h hv hr ⟨fun _ _ _ => rfl, fun b hb => absurd (PT.get_leaf b) hb⟩ (F := Fence.wide) ⟨rfl⟩ 0
  refine Calls.mono (callsIn_wide.1 this) ?_
  rintro e w' ⟨E', u, rfl, hst, hV⟩
  refine ⟨E', u, rfl, hV, hst.os, hst.tape, hst.output, hst.size, fun i hi => hst.same i hi ?_⟩
  rintro ⟨b, o, L, q, _⟩
  exact absurd (PT.get_leaf (α := AObj) b) (by
    intro e
    have : A0.heap.get b = none := e
    rw [this] at q; cases q)
end Go.Ax
namespace Go.Ax
open Go
variable {B : Tb}

/-- What one run gives, the other one gives. -/
def RnLe (rn rn' : Rn) : Prop := ∀ n k c s r, rn n k c s = some r → rn' n k c s = some r

section
variable {rn rn' : Rn} (hl : RnLe rn rn')
include hl

theorem bodyA_le {k : Md} {f : FuncId} {as : List AV} {A : AW} {r : Func × St} (h : bodyA B rn k f as A = some r) : bodyA B rn' k f as A = some r := by
  unfold bodyA at h ⊢
  split at h
  · cases h
  · split at h
    · cases h
    · rcases cc h with h' | h'
      · cases h'
      · revert h
        generalize (!Nat.ble (len as) _) = q
        intro h
        cases q
        · simp only [cond_false] at h ⊢
          split at h
          · rename_i e; cases h; rw [hl _ _ _ _ _ e]
          · rename_i e; cases h; rw [hl _ _ _ _ _ e]
          · cases h
        · cases h

theorem leaveA_le : ∀ {ds : List DI} {A A' : AW}, leaveA B rn ds A = some A' → leaveA B rn' ds A = some A'
  | [], A, A', h => h
  | .coll r :: ds, A, A', h => by
    simp only [leaveA] at h ⊢
    split at h
    · exact leaveA_le h
    · cases h
  | .call d :: ds, A, A', h => by
    simp only [leaveA] at h ⊢
    split at h
    · split at h
      · split at h
        · split at h
          · rename_i hb
            rw [bodyA_le hl hb]
            split at h
            · rename_i hv
              simp only [hv]
              exact leaveA_le h
            · cases h
          · cases h
        · cases h
      · cases h
    · cases h

theorem callA_le {f : FuncId} {as : List AV} {A : AW} {r : AV × AW} (h : callA B rn f as A = some r) : callA B rn' f as A = some r := by
  unfold callA at h ⊢
  split at h
  · exact h
  · split at h
    · cases h
    · rename_i hb
      rw [bodyA_le hl hb]
      split at h
      · cases h
      · rename_i hv
        simp only [leaveA_le hl hv]
        exact h

theorem roundA_le {l : Nat} {as : List AV} {A : AW} {r : AV × AW} (h : roundA rn l as A = some r) : roundA rn' l as A = some r := by
  unfold roundA at h ⊢
  split at h
  · revert h
    generalize (!Nat.beq (len as) _ || !_) = q
    intro h
    cases q
    · simp only [cond_false] at h ⊢
      split at h
      · rename_i e1
        rw [hl _ _ _ _ _ e1]
        simp only []
        split at h
        · split at h
          · rename_i e2
            simp only [hl _ _ _ _ _ e2]
            exact h
          · cases h
        · cases h
      · cases h
    · cases h
  · cases h

theorem doA_le {k : Md} {T : Tm} {ds : List DI} {A : AW} {o : Oper} {r : AV × List DI × AW} (h : doA B rn k T ds A o = some r) : doA B rn' k T ds A o = some r := by
  unfold doA at h ⊢
  split at h
  · cases h
  · exact h
  · split at h
    · rename_i hc; rw [callA_le hl hc]; exact h
    · cases h
  · split at h
    · rename_i hc; rw [roundA_le hl hc]; exact h
    · cases h
  · exact h
  · exact h

theorem opsA_le {n : Nat} {k : Md} {ops : Array Oper} : ∀ {l : List Oper} {T : Tm} {ds : List DI} {A : AW} {r : Ctl × St}, opsA B rn n k ops l T ds A = some r → opsA B rn' n k ops l T ds A = some r
  | [], T, ds, A, r, h => h
  | o :: l, T, ds, A, r, h => by
    simp only [opsA] at h ⊢
    cases hin : inN n o.dst <;> simp only [hin, Bool.not_true, Bool.not_false, cond_true, cond_false, reduceCtorEq] at h ⊢
    split at h
    · cases h
    · exact opsA_le h
    · split at h
      · cases h
      · rename_i hd
        rw [doA_le hl hd]
        exact opsA_le h

theorem opsT_le {n : Nat} {ops : Array Oper} : ∀ {l : List Oper} {i : Nat} {T : Tm} {A : AW} {r : List (Nat × Cls) × Tm × AW}, opsT B rn n ops i l T A = some r → opsT B rn' n ops i l T A = some r
  | [], i, T, A, r, h => h
  | o :: l, i, T, A, r, h => by
    simp only [opsT] at h ⊢
    cases hin : inN n o.dst <;> simp only [hin, Bool.not_true, Bool.not_false, cond_true, cond_false, reduceCtorEq] at h ⊢
    split at h
    · cases h
    · exact opsT_le h
    · split at h
      · rename_i hd
        rw [doA_le hl hd]
        simp only []
        split at h
        · rename_i ht
          rw [opsT_le ht]
          exact h
        · cases h
      · cases h

theorem drawA_le {n : Nat} {ops : Array Oper} {s : St} {r : Ctl × St} (h : drawA B rn n ops s = some r) : drawA B rn' n ops s = some r := by
  unfold drawA at h ⊢
  cases hr : regOk ops <;> simp only [hr, Bool.not_true, Bool.not_false, cond_true, cond_false, reduceCtorEq] at h ⊢
  split at h
  · rename_i ht
    rw [opsT_le hl ht]
    exact h
  · cases h

theorem stepA_le : RnLe (fun n k c => stepA B rn n k c) (fun n k c => stepA B rn' n k c) := by
  intro n k c s r h
  cases c <;> simp only [stepA] at h ⊢
  case skip => exact h
  case label => exact h
  case exit => exact h
  case ret => exact h
  case region id ops draw =>
    cases draw with
    | true => exact drawA_le hl h
    | false =>
      simp only [cond_false] at h ⊢
      revert h
      generalize (isD k && ops.toList.any isRec) = q
      intro h
      cases q
      · exact opsA_le hl h
      · exact h
  case seq a b =>
    split at h
    · rename_i e; rw [hl _ _ _ _ _ e]; exact hl _ _ _ _ _ h
    · rename_i hne
      rw [hl _ _ _ _ _ h]
      split
      · rename_i s' e
        cases e
        exact absurd h (hne s')
      · rfl
  case cond c x y =>
    split at h
    · exact hl _ _ _ _ _ h
    · cases h
  case block id body =>
    split at h
    · rename_i e; rw [hl _ _ _ _ _ e]; exact h
    · rename_i hne
      rw [hl _ _ _ _ _ h]
      split
      · rename_i i s' e
        cases e
        exact absurd h (hne i s')
      · rfl
  case loop body =>
    split at h
    · rename_i e; rw [hl _ _ _ _ _ e]; exact hl _ _ _ _ _ h
    · rename_i hne
      rw [hl _ _ _ _ _ h]
      split
      · rename_i s' e
        cases e
        exact absurd h (hne s')
      · rfl
  case rangeFunc g ps asg body =>
    split at h
    · split at h
      · rename_i hc
        rw [callA_le hl hc]
        exact h
      · cases h
    · cases h
  all_goals cases h
end

theorem runA_succ (fuel : Nat) : RnLe (runA B fuel) (runA B (fuel + 1)) := by
  induction fuel with
  | zero => intro n k c s r h; cases h
  | succ fuel ih => exact stepA_le ih
theorem runA_le {m n : Nat} (h : m ≤ n) : RnLe (runA B m) (runA B n) := by
  obtain ⟨d, rfl⟩ : ∃ d, n = m + d := ⟨n - m, by omega⟩
  clear h
  induction d with
  | zero => exact fun _ _ _ _ _ h => h
  | succ d ih => exact fun n k c s r h => runA_succ _ _ _ _ _ _ (ih n k c s r h)
end Go.Ax
