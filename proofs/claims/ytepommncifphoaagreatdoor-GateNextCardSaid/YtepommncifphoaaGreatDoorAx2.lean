/- A part of the proof that GateNext of stetlaw20 answers true at every input: the single operations of the evaluator (second half). Conditions: none. -/
import Derived.Test.YtepommncifphoaaGreatDoorAx1
import Derived.Deep.AppendSrc
import Derived.Laws.BytesString
import Derived.Lib.UnsafeStr
import Derived.Conc.MarkLaws
import Derived.Lib.Bytealg
import Derived.Lib.MakeNoZero
set_option linter.unusedVariables false
set_option linter.unusedSimpArgs false
set_option linter.unusedSectionVars false
namespace Go.Ax
open Go
variable {P : Program} {B : Tb} {G : Nat}

/-- What an operation that gives a value comes to. -/
def Val (P : Program) (G : Nat) (E : Env) (A : AW) (w : World) (m : Sem Value) (v : AV) (A' : AW) : Prop :=
  ∃ v' w' E', m.run P w = .ok v' w' ∧ Stp G E A.heap.get w E' A'.heap.get w' A.next A'.next ∧ V E' v v'

theorem Val.same {E : Env} {A : AW} {w : World} (hr : Rel G E A.heap.get w) {m : Sem Value} {v : AV} {v' : Value} (h : m.run P w = .ok v' w) (hV : V E v v') : Val P G E A w m v A :=
  ⟨v', w, E, h, Stp.refl hr _, hV⟩

/-- A block of another kind. -/
theorem Val.made {E : Env} {A : AW} {w : World} (hr : Rel G E A.heap.get w) (hf : Free E A.next (A.next + 1)) (o : AObj) (ob : Obj) (cnt : Nat)
    (ho : ObjR (E.bind A.next ⟨w.heap.size, 0, cnt⟩) ⟨w.heap.size, 0, cnt⟩ (w.alloc ob) o) {m : Sem Value} {v : AV} {v' : Value} (h : m.run P w = .ok v' (w.alloc ob)) (hV : V (E.bind A.next ⟨w.heap.size, 0, cnt⟩) v v') :
    Val P G E A w m v (A.new o) := ⟨v', _, _, h, Stp.new hr (Env.bind_new hf) o ob cnt ho, hV⟩

theorem alloc_self (w : World) (ob : Obj) : (w.alloc ob).heap[w.heap.size]? = some ob := by
  show (w.heap.push ob)[w.heap.size]? = _
  simp

theorem range_run (ht : TOk P B) {E : Env} {A A' : AW} {w : World} (hr : Rel G E A.heap.get w) {t : TypeId} {x a : AV} {v : Value} (hv : V E x v) (h : rangeA B A t x = some (a, A')) (hf : Free E A.next A'.next) :
    Val P G E A w (Instr.range t v) a A' := by
  unfold rangeA at h
  cases hu : und B t with
  | none => simp [hu] at h
  | some td =>
    obtain ⟨D, hD1, hD2⟩ := und_ok ht hu
    rw [hu] at h
    cases td <;> cases x <;> simp only [reduceCtorEq] at h
    case str.str s =>
      obtain ⟨rfl⟩ : D = .string := by cases D <;> simp [tdOf] at hD2; rfl
      obtain ⟨s', rfl, hs⟩ := V_str hv
      simp only [Option.some.injEq, Prod.mk.injEq] at h
      obtain ⟨rfl, rfl⟩ := h
      refine Val.made hr hf _ (.stringIter s' 0) 0 (by simp only [ObjR]; exact ⟨trivial, s', alloc_self _ _, hs⟩) (v' := .pointer (some ⟨w.heap.size, 0, none⟩)) ?_ ?_
      · simp [Instr.range, run_underlying hD1]
      · simp only [V]; exact ⟨_, Env.bind_self _ _ _, rfl⟩
    case map.nilm kt et =>
      obtain ⟨rfl⟩ : D = .map kt et := by cases D <;> simp [tdOf] at hD2; rw [hD2.1, hD2.2]
      simp only [V] at hv; subst hv
      simp only [Option.some.injEq, Prod.mk.injEq] at h
      obtain ⟨rfl, rfl⟩ := h
      refine Val.made hr hf _ (.mapIter none 0 #[] 0) 0 (by simp only [ObjR]; exact ⟨trivial, none, alloc_self _ _, rfl⟩) (v' := .pointer (some ⟨w.heap.size, 0, none⟩)) ?_ ?_
      · simp [Instr.range, run_underlying hD1]
      · simp only [V]; exact ⟨_, Env.bind_self _ _ _, rfl⟩
    case map.map kt et b =>
      obtain ⟨rfl⟩ : D = .map kt et := by cases D <;> simp [tdOf] at hD2; rw [hD2.1, hD2.2]
      simp only [V] at hv
      obtain ⟨L, hL, rfl⟩ := hv
      cases hb : A.heap.get b with
      | none => simp [hb] at h
      | some ob =>
        cases ob <;> simp only [hb, reduceCtorEq] at h
        rename_i es clock
        simp only [Option.some.injEq, Prod.mk.injEq] at h
        obtain ⟨rfl, rfl⟩ := h
        obtain ⟨fs, h1, h2⟩ := hr.obj b _ L hb hL
        have hg : (getObj L.blk).run P w = .ok (.map fs clock) w := getObj_run h1 (by simp)
        refine Val.made hr hf _ (.mapIter (some L.blk) clock #[] clock) 0 (by simp only [ObjR]; exact ⟨trivial, some L.blk, alloc_self _ _, L, Env.bind_le (Env.bind_new hf) _ _ hL, rfl⟩) (v' := .pointer (some ⟨w.heap.size, 0, none⟩)) ?_ ?_
        · simp [Instr.range, run_underlying hD1, hg]
        · simp only [V]; exact ⟨_, Env.bind_self _ _ _, rfl⟩

/-! ### Entries -/
theorem ERL_nil {E : Env} {fs : List MapEntry} (h : ERL E [] fs) : fs = [] := List.length_eq_zero_iff.1 h.1.symm
theorem ERL_cons {E : Env} {e : AV × AV × Nat} {es : List (AV × AV × Nat)} {fs : List MapEntry} (h : ERL E (e :: es) fs) : ∃ f gs, fs = f :: gs ∧ ER E e f ∧ ERL E es gs := by
  cases fs with
  | nil => have := h.1; simp at this
  | cons f gs =>
    obtain ⟨f', h1, h2⟩ := h.2 0 e (by simp)
    simp at h1; subst h1
    exact ⟨f, gs, rfl, h2, by simpa using h.1, fun i x hx => by simpa using h.2 (i + 1) x (by simpa using hx)⟩
theorem ERL_mk {E : Env} {e : AV × AV × Nat} {f : MapEntry} {es : List (AV × AV × Nat)} {fs : List MapEntry} (h1 : ER E e f) (h2 : ERL E es fs) : ERL E (e :: es) (f :: fs) :=
  ⟨by simp [h2.1], fun i x hx => by cases i with
    | zero => simp at hx; subst hx; exact ⟨f, by simp, h1⟩
    | succ i => simpa using h2.2 i x (by simpa using hx)⟩
theorem ERL.filter {E : Env} (p : Nat → Bool) : ∀ {es : List (AV × AV × Nat)} {fs : List MapEntry}, ERL E es fs → ERL E (es.filter fun e => p e.2.2) (fs.filter fun f => p f.born)
  | [], fs, h => by rw [ERL_nil h]; exact ⟨rfl, fun i x hx => by simp at hx⟩
  | e :: es, fs, h => by
    obtain ⟨f, gs, rfl, h1, h2⟩ := ERL_cons h
    simp only [List.filter_cons]
    rw [h1.2.2]
    split
    · exact ERL_mk h1 (h2.filter p)
    · exact h2.filter p
theorem ERL.all {E : Env} (p : Nat → Bool) : ∀ {es : List (AV × AV × Nat)} {fs : List MapEntry}, ERL E es fs → (es.all fun e => p e.2.2) = fs.all fun f => p f.born
  | [], fs, h => by rw [ERL_nil h]; rfl
  | e :: es, fs, h => by
    obtain ⟨f, gs, rfl, h1, h2⟩ := ERL_cons h
    simp only [List.all_cons, h1.2.2, h2.all p]
theorem ERL.find {E : Env} (p : Nat → Bool) {e : AV × AV × Nat} : ∀ {es : List (AV × AV × Nat)} {fs : List MapEntry}, ERL E es fs → es.find? (fun e => p e.2.2) = some e → ∃ f, fs.find? (fun f => p f.born) = some f ∧ ER E e f
  | [], fs, h, k => by simp at k
  | d :: es, fs, h, k => by
    obtain ⟨f, gs, rfl, h1, h2⟩ := ERL_cons h
    simp only [List.find?_cons] at k ⊢
    rw [h1.2.2] at k
    cases hp : p f.born
    · rw [hp] at k; exact h2.find p k
    · rw [hp] at k; simp only [Option.some.injEq] at k; subst k; exact ⟨f, rfl, h1⟩

theorem entry_run {E : Env} {A : AW} {w : World} (hr : Rel G E A.heap.get w) {x a : AV} {v : Value} (hv : V E x v) (h : entryA A x = some a) : ∃ v', (Instr.entry v).run P w = .ok v' w ∧ V E a v' := by
  unfold entryA at h
  split at h
  · rename_i r
    simp only [V] at hv
    obtain ⟨L, hL, rfl⟩ := hv
    cases hb : A.heap.get r with
    | none => simp [hb] at h
    | some ob =>
      have hob := hr.obj r ob L hb hL
      cases ob <;> simp only [hb, reduceCtorEq] at h
      rename_i m since seen last
      cases m with
      | none => simp at h
      | some m =>
        obtain ⟨h0, m', h1, M, hM, rfl⟩ := hob
        cases hl : seen.getLast? with
        | none => simp [hl] at h
        | some stamp =>
          cases hm : A.heap.get m with
          | none => simp [hl, hm] at h
          | some om =>
            have hom := hr.obj m om M hm hM
            cases om <;> simp only [hl, hm, reduceCtorEq] at h
            rename_i es clock
            obtain ⟨fs, h2, h3⟩ := hom
            simp only [beq_nat] at h
            by_cases hc : clock = last
            · subst hc
              simp only [decide_true, Bool.not_true, cond_false] at h
              cases hfi : es.find? (fun e => decide (e.2.2 = stamp)) with
              | none => simp [hfi] at h
              | some e =>
                simp only [hfi, Option.some.injEq] at h
                subst h
                obtain ⟨f, k1, k2⟩ := h3.find (fun n => decide (n = stamp)) hfi
                have k1' : fs.find? (fun f => f.born == stamp) = some f := by
                  rw [← Array.find?_toList, ← k1]; congr 1
                refine ⟨.tuple #[f.key, f.val], ?_, ?_⟩
                · have hs : seen.toArray.back? = some stamp := by rw [← hl]; simp
                  have hg1 : (getObj L.blk).run P w = .ok (.mapIter (some M.blk) since seen.toArray clock) w := getObj_run h1 (by simp)
                  have hg2 : (getObj M.blk).run P w = .ok (.map fs clock) w := getObj_run h2 (by simp)
                  unfold Instr.entry
                  simp only [h0, Nat.add_zero, Sem.run_bind, hg1, hg2, Result.andThen_ok, hs, bne_self_eq_false, Bool.false_eq_true, if_false, Sem.run_pure, k1']
                · simp only [V]; exact ⟨_, rfl, _, _, rfl, k2.1, _, _, rfl, k2.2.1, rfl⟩
            · simp [hc] at h
  · cases h

theorem nats_back (s : ByteArray) : (⟨((nats s).map UInt8.ofNat).toArray⟩ : ByteArray) = s := by
  apply nats_inj
  rw [nats_ofNats nats_lt]

theorem dec_ok {s : ByteArray} {pos : Nat} (h : pos < s.size) : dec (nats s) pos = Utf8.decode s pos := by
  unfold dec decHigh
  rw [nats_back]
  rw [nth_eq]
  cases hb : (nats s)[pos]? with
  | none => rw [List.getElem?_eq_none_iff, nats_len] at hb; omega
  | some b =>
    simp only
    cases hlt : Nat.blt b 128
    · rfl
    · obtain ⟨u, hu, rfl⟩ := nats_get hb
      rw [Nat.blt_eq] at hlt
      have : (s.get! (pos + 0)).toNat = u.toNat := by
        rw [Nat.add_zero]
        have hlt' : pos < s.size := h
        have h1 : s[pos] = u := by
          rw [getElem?_pos s pos hlt'] at hu
          exact Option.some.inj hu
        have h2 : s.get! pos = s[pos] := by
          show s.data[pos]! = s.data[pos]
          rw [getElem!_pos]
        rw [h2, h1]
      unfold Utf8.decode
      simp only [this, cond_true]
      rw [if_pos hlt]

theorem next_run {E : Env} {A A' : AW} {w : World} (hr : Rel G E A.heap.get w) {x a : AV} {v : Value} {s : Bool} {t : TypeId} (hv : V E x v) (h : nextA A x s = some (a, A')) : Val P G E A w (Instr.next v s t) a A' := by
  unfold nextA at h
  split at h
  · rename_i r
    simp only [V] at hv
    obtain ⟨L, hL, rfl⟩ := hv
    cases hb : A.heap.get r with
    | none => simp [hb] at h
    | some ob =>
      have hob := hr.obj r ob L hb hL
      cases ob <;> simp only [hb, reduceCtorEq] at h
      case siter l pos =>
        cases s <;> simp only [reduceCtorEq] at h
        obtain ⟨h0, s', h1, rfl⟩ := hob
        have hg1 : (getObj L.blk).run P w = .ok (.stringIter s' pos) w := getObj_run h1 (by simp)
        rw [len_eq, nats_len] at h
        cases hlt : Nat.blt pos s'.size
        · simp only [hlt, cond_false, Option.some.injEq, Prod.mk.injEq] at h
          obtain ⟨rfl, rfl⟩ := h
          have hn : ¬ pos < s'.size := by rw [← Nat.blt_eq, hlt]; simp
          refine Val.same hr (v' := .tuple #[.bool false]) ?_ ?_
          · unfold Instr.next
            simp [h0, hg1, hn]
          · simp only [V]; exact ⟨_, rfl, _, _, rfl, rfl, rfl⟩
        · have hn : pos < s'.size := by rw [← Nat.blt_eq, hlt]
          simp only [hlt, cond_true, dec_ok hn, Option.some.injEq, Prod.mk.injEq] at h
          obtain ⟨rfl, rfl⟩ := h
          refine ⟨.tuple #[.bool true, goInt pos, .int .i32 (Utf8.decode s' pos).1], _, E, ?_, Stp.setObj hr hb (by simp) hL (.stringIter s' (pos + (Utf8.decode s' pos).2)) ⟨h0, s', set_self h1, rfl⟩, ?_⟩
          · unfold Instr.next
            simp only [h0, Nat.add_zero, Sem.run_bind, hg1, Result.andThen_ok]
            rw [if_pos hn]
            simp only [Sem.run_bind, setObj_run h1 (by simp), Result.andThen_ok, Sem.run_pure]
          · simp only [V]; exact ⟨_, rfl, _, _, rfl, rfl, _, _, rfl, rfl, _, _, rfl, rfl, rfl⟩
      case miter m since seen last =>
        cases m with
        | none =>
          cases s <;> simp only [reduceCtorEq, Option.some.injEq, Prod.mk.injEq] at h
          obtain ⟨rfl, rfl⟩ := h
          obtain ⟨h0, m', h1, rfl⟩ := hob
          have hg1 : (getObj L.blk).run P w = .ok (.mapIter none since seen.toArray last) w := getObj_run h1 (by simp)
          refine Val.same hr (v' := .tuple #[.bool false]) ?_ ?_
          · unfold Instr.next
            simp [h0, hg1]
          · simp only [V]; exact ⟨_, rfl, _, _, rfl, rfl, rfl⟩
        | some m =>
          cases s <;> simp only [reduceCtorEq] at h
          obtain ⟨h0, m', h1, M, hM, rfl⟩ := hob
          have hg1 : (getObj L.blk).run P w = .ok (.mapIter (some M.blk) since seen.toArray last) w := getObj_run h1 (by simp)
          cases hm : A.heap.get m with
          | none => simp [hm] at h
          | some om =>
            have hom := hr.obj m om M hm hM
            cases om <;> simp only [hm, reduceCtorEq] at h
            rename_i es clock
            obtain ⟨fs, h2, h3⟩ := hom
            have hg2 : (getObj M.blk).run P w = .ok (.map fs clock) w := getObj_run h2 (by simp)
            cases hgone : (!seen.isEmpty && !es.isEmpty && es.all (fun e => Nat.ble last e.2.2)) <;> simp only [hgone, cond_true, cond_false, reduceCtorEq] at h
            have hgone' : (!seen.toArray.isEmpty && !fs.isEmpty && fs.all (fun f => decide (f.born ≥ last))) = false := by
              rw [← hgone]
              have e1 : seen.toArray.isEmpty = seen.isEmpty := by simp
              have e2 : fs.isEmpty = es.isEmpty := by
                have := h3.1
                rw [Bool.eq_iff_iff]
                simp only [Array.isEmpty_iff, List.isEmpty_iff]
                constructor
                · rintro rfl; simpa using this
                · rintro rfl; simpa [eq_comm] using this
              have e3 : fs.all (fun f => decide (f.born ≥ last)) = es.all (fun e => Nat.ble last e.2.2) := by
                rw [← Array.all_toList, h3.all (fun n => Nat.ble last n)]
                congr 1; funext f
                rw [Bool.eq_iff_iff]; simp [Nat.ble_eq]
              rw [e1, e2, e3]
            have hleft := h3.filter (fun n => !seen.contains n)
            cases hl : es.filter (fun e => !seen.contains e.2.2) with
            | nil =>
              simp only [hl, Option.some.injEq, Prod.mk.injEq] at h
              obtain ⟨rfl, rfl⟩ := h
              rw [hl] at hleft
              have hnil := ERL_nil hleft
              refine Val.same hr (v' := .tuple #[.bool false]) ?_ ?_
              · have hleft' : fs.filter (fun f => !seen.toArray.contains f.born) = #[] := by
                  rw [← Array.toList_inj, Array.toList_filter]
                  simpa using hnil
                unfold Instr.next
                simp only [h0, Nat.add_zero, Sem.run_bind, hg1, Result.andThen_ok, hg2, hgone', Bool.false_eq_true, if_false, Sem.run_pure, hleft']
                simp [Question.forced]
              · simp only [V]; exact ⟨_, rfl, _, _, rfl, rfl, rfl⟩
            | cons e rest =>
              cases rest with
              | cons e' rest => simp only [hl, reduceCtorEq] at h
              | nil =>
                simp only [hl] at h
                cases hold : Nat.blt e.2.2 since <;> simp only [hold, cond_true, cond_false, reduceCtorEq, Option.some.injEq, Prod.mk.injEq] at h
                obtain ⟨rfl, rfl⟩ := h
                rw [hl] at hleft
                obtain ⟨f, gs, hfl, hE, hgs⟩ := ERL_cons hleft
                have := ERL_nil hgs; subst this
                have hleft' : fs.filter (fun f => !seen.toArray.contains f.born) = #[f] := by
                  rw [← Array.toList_inj, Array.toList_filter]
                  simpa using hfl
                have hborn : f.born < since := by rw [← hE.2.2, ← Nat.blt_eq, hold]
                refine ⟨.tuple #[.bool true, f.key, f.val], _, E, ?_, Stp.setObj hr hb (by simp) hL (.mapIter (some M.blk) since (seen.toArray.push f.born) clock) ?_, ?_⟩
                · unfold Instr.next
                  simp only [h0, Nat.add_zero, Sem.run_bind, hg1, Result.andThen_ok, hg2, hgone', Bool.false_eq_true, if_false, Sem.run_pure, hleft']
                  have e1 : (#[f].filter (fun f => decide (f.born < since))) = #[f] := by simp [hborn]
                  have e2 : (#[f].filter (fun f => decide (f.born ≥ since))) = #[] := by simp; omega
                  simp only [e1, e2]
                  simp [Question.forced, setObj_run h1]
                · refine ⟨h0, some M.blk, ?_, M, hM, rfl⟩
                  rw [set_self h1, ← hE.2.2]; simp
                · simp only [V]; exact ⟨_, rfl, _, _, rfl, rfl, _, _, rfl, hE.1, _, _, rfl, hE.2.1, rfl⟩
      all_goals (cases s <;> simp at h)
  · cases h
end Go.Ax
namespace Go.Ax
open Go
variable {P : Program} {B : Tb} {G : Nat}

/-- Of the interfaces. -/
structure IOk (P : Program) (B : Tb) : Prop where
  I : ∀ t u b, B.I t u = some b → ∃ want ti, P.underlying t = some (.interface want) ∧ P.info? u = some ti ∧ (Instr.missingMethod want ti.methods).isNone = b

theorem pair_V {E : Env} {a b : AV} {x y : Value} (ha : V E a x) (hb : V E b y) : V E (.tup [a, b]) (.tuple #[x, y]) := by
  simp only [V]; exact ⟨_, rfl, _, _, rfl, ha, _, _, rfl, hb, rfl⟩

theorem assert_run (ht : TOk P B) (hi : IOk P B) {E : Env} {x a : AV} {v : Value} {xt t : TypeId} {ok : Bool} (hv : V E x v) (h : assertA B x t ok = some a) (w : World) : ∃ v', (Instr.typeAssert v xt t ok).run P w = .ok v' w ∧ V E a v' := by
  have holds : ∀ {y : AV} {u : Value}, V E y u → a = (bif ok then .tup [y, .bool true] else y) → ∃ v', (pure (if ok then Value.tuple #[u, .bool true] else u) : Sem Value).run P w = .ok v' w ∧ V E a v' := by
    rintro y u hy rfl
    refine ⟨_, rfl, ?_⟩
    cases ok
    · exact hy
    · exact pair_V hy rfl
  have fails : ∀ {n : Sem Value}, (bif ok then (zeroA B t).map fun z => AV.tup [z, .bool false] else none) = some a → ∃ v', (if ok = true then (do pure (.tuple #[← zeroValue t, .bool false]) : Sem Value) else n).run P w = .ok v' w ∧ V E a v' := by
    intro n hh
    cases ok
    · simp at hh
    · simp only [cond_true, Option.map_eq_some_iff] at hh
      obtain ⟨z, hz, rfl⟩ := hh
      obtain ⟨zv, z1, z2, _⟩ := zero_ok (P := P) ht hz
      refine ⟨.tuple #[zv, .bool false], by simp [z1], pair_V (z2 E) rfl⟩
  unfold assertA at h
  cases hu : und B t with
  | none => simp [hu] at h
  | some td =>
    obtain ⟨D, hD1, hD2⟩ := und_ok ht hu
    rw [hu] at h
    unfold Instr.typeAssert
    simp only [Sem.run_bind, run_underlying hD1, Result.andThen_ok]
    by_cases hif : td = .iface
    · subst hif
      obtain ⟨want, rfl⟩ : ∃ want, D = .interface want := by cases D <;> simp [tdOf] at hD2; exact ⟨_, rfl⟩
      cases x <;> simp only [reduceCtorEq] at h
      rename_i u y
      simp only [V] at hv
      obtain ⟨y', rfl, hy⟩ := hv
      cases hI : B.I t u with
      | none => simp [hI] at h
      | some b =>
        obtain ⟨want', ti, k1, k2, k3⟩ := hi.I t u b hI
        rw [hD1] at k1; simp only [Option.some.injEq, TypeDesc.interface.injEq] at k1; subst k1
        have hti : (typeInfo u).run P w = .ok ti w := by unfold typeInfo; simp [k2]
        simp only [Sem.run_bind, hti, Result.andThen_ok]
        cases b with
        | true =>
          simp only [hI, Option.some.injEq] at h
          cases hm : Instr.missingMethod want ti.methods with
          | some m => simp [hm] at k3
          | none => exact holds (y := .iface u y) (by simp only [V]; exact ⟨y', rfl, hy⟩) h.symm
        | false =>
          simp only [hI] at h
          cases hm : Instr.missingMethod want ti.methods with
          | none => simp [hm] at k3
          | some m => exact fails h
    · have hD : ∀ s, D ≠ .interface s := by rintro s rfl; simp [tdOf] at hD2; exact hif hD2.symm
      have hx : (∃ u y, x = .iface u y ∧ (bif Nat.beq u t then some (bif ok then .tup [y, .bool true] else y) else bif ok then (zeroA B t).map fun z => .tup [z, .bool false] else none) = some a) ∨
          (x = .nili ∧ (bif ok then (zeroA B t).map fun z => AV.tup [z, .bool false] else none) = some a) := by
        cases x
        case iface u y => refine .inl ⟨u, y, rfl, ?_⟩; cases td <;> first | exact absurd rfl hif | exact h
        case nili => refine .inr ⟨rfl, ?_⟩; cases td <;> first | exact absurd rfl hif | exact h
        all_goals (exfalso; cases td <;> first | exact absurd rfl hif | cases h)
      rcases hx with ⟨u, y, rfl, hh⟩ | ⟨rfl, hh⟩
      · simp only [V] at hv
        obtain ⟨y', rfl, hy⟩ := hv
        rw [beq_nat] at hh
        by_cases he : u = t
        · subst he
          simp only [decide_true, cond_true, Option.some.injEq] at hh
          cases D <;> first | exact absurd rfl (hD _) | (simp only [if_true]; exact holds hy hh.symm)
        · simp only [decide_eq_false he, cond_false] at hh
          cases D <;> first | exact absurd rfl (hD _) | (simp only [if_neg he]; exact fails hh)
      · simp only [V] at hv; subst hv
        cases D <;> first | exact absurd rfl (hD _) | exact fails hh
end Go.Ax
namespace Go.Ax
open Go
variable {P : Program} {B : Tb} {G : Nat}

theorem bytesA_VL {E : Env} : ∀ (l : List UInt8), VL E (bytesA (l.map UInt8.toNat)) (l.map fun b => Value.int .u8 b.toNat)
  | [] => rfl
  | b :: l => by
    simp only [List.map_cons, bytesA, VL]
    exact ⟨_, _, rfl, by simp [V], bytesA_VL l⟩

theorem lenA_run {E : Env} {x : AV} {v : Value} {n : Nat} (h : lenA x = some n) (hv : V E x v) (w : World) : (Builtin.lenOf v).run P w = .ok n w := by
  cases x <;> simp only [lenA, reduceCtorEq, Option.some.injEq] at h
  case str s => obtain ⟨x, rfl, rfl⟩ := V_str hv; rw [len_eq, nats_len] at h; subst h; rfl
  case nils => simp only [V] at hv; subst hv h; rfl
  case slice => subst h; simp only [V] at hv; obtain ⟨L, c, _, rfl, _⟩ := hv; rfl

theorem first_run {E : Env} {A : AW} {w : World} (hr : Rel G E A.heap.get w) {s n : Nat} {x : AV} {v : Value} {cs : List AV} (hv : V E x v) (h : firstA A s n x = some cs) :
    ∃ vs : List Value, (∀ w' : World, w'.heap = w.heap → (Builtin.firstCells s n v).run P w' = .ok vs.toArray w') ∧ VL E cs vs := by
  cases x <;> simp only [firstA, reduceCtorEq] at h
  case str l =>
    simp only [Option.some.injEq] at h
    obtain ⟨x, rfl, rfl⟩ := V_str hv
    refine ⟨(x.data.toList.take n).map fun b => Value.int .u8 b.toNat, ?_, ?_⟩
    · intro w' _
      simp only [Builtin.firstCells, Sem.run_pure]
      congr 1
      apply Array.ext'
      simp
    · subst h
      rw [tke_eq]
      have : (nats x).take n = (x.data.toList.take n).map UInt8.toNat := by simp [nats]
      rw [this]
      exact bytesA_VL _
  case nils =>
    simp only [Option.some.injEq] at h
    simp only [V] at hv; subst hv h
    exact ⟨[], fun _ _ => rfl, rfl⟩
  case slice b o m cap ex es =>
    simp only [V] at hv
    obtain ⟨L, c, hL, rfl, _⟩ := hv
    simp only [beq_nat] at h
    by_cases h0 : n = 0
    · subst h0
      simp only [decide_true, cond_true, Option.some.injEq] at h
      subst h
      refine ⟨[], fun w' _ => ?_, rfl⟩
      have := run_loadCells_list (P := P) (w := w') ⟨L.blk, L.sh + o, none⟩ [] (fun j v hj => by simp at hj)
      simpa [Builtin.firstCells] using this
    · simp only [decide_eq_false h0, cond_false] at h
      by_cases he : es = s
      · simp only [he, decide_true, cond_true] at h
        obtain ⟨vs, h1, h2, _⟩ := ldCells_ok' (P := P) hr hL h
        exact ⟨vs, h1, h2⟩
      · simp [he] at h

theorem frz_shift {z z' : Frz} {L : Loc} {o m : Nat} {fr : Nat × Nat} (h : shiftFrz z o = some z') (hz : frzR z L m fr) : frzR z' ⟨L.blk, L.sh + o, L.cnt - o⟩ m fr := by
  cases z <;> simp only [shiftFrz, reduceCtorEq, Option.some.injEq] at h
  case no => subst h; exact hz
  case odd => subst h; exact hz
  case range lo hi =>
    rw [beq_nat] at h
    by_cases ho : o = 0
    · subst ho
      simp only [decide_true, cond_true, Option.some.injEq] at h
      subst h; simpa [frzR] using hz
    · simp [ho] at h

theorem frz_fresh {z z' : Frz} {L : Loc} {o m : Nat} (h : shiftFrz z o = some z') : frzR z' L m (0, 0) := by
  cases z <;> simp only [shiftFrz, reduceCtorEq, Option.some.injEq] at h
  case no => subst h; rfl
  case odd => subst h; intro q _ hh; simp only at hh; omega
  case range lo hi =>
    rw [beq_nat] at h
    by_cases ho : o = 0
    · subst ho
      simp only [decide_true, cond_true, Option.some.injEq] at h
      subst h; exact .inl rfl
    · simp [ho] at h

/-- A new block, over a world that has drawn. -/
theorem grow_new {E : Env} {A : AW} {w : World} (hr : Rel G E A.heap.get w) (hf : Free E A.next (A.next + 1)) {cs : List AV} {vs : List Value} {more : Array Value} (hv : VL E cs vs) (e : TypeId) (z : Frz) (hz : ∀ L m, frzR z L m (0, 0)) :
    Stp G E A.heap.get w (E.bind A.next ⟨w.heap.size, 0, vs.length + more.size⟩) (A.new (.cells cs e z false)).heap.get (w.drew.alloc (.cells (vs.toArray ++ more) e)) A.next (A.next + 1) := by
  have hn := Env.bind_new hf
  have h0 := Stp.draw (w' := w.drew) hr A.next rfl rfl rfl rfl
  refine h0.trans (Stp.new (w := w.drew) h0.rel hn _ _ _ ?_)
  refine ⟨vs.toArray ++ more, (0, 0), ?_, by simp, by rw [hv.length]; simp, fun h => by simp at h, fun i a hi => ?_, hz _ _⟩
  · show (w.heap.push _)[w.heap.size]? = _
    simp
  · obtain ⟨v, h1, h2⟩ := (VL_iff.1 (hv.mono (Env.bind_le hn))).2 i a hi
    refine ⟨v, ?_, h2⟩
    have hlt := (List.getElem?_eq_some_iff.1 h1).1
    simp only [Nat.zero_add]
    rw [Array.getElem?_append_left (by simpa using hlt)]
    simpa using h1

/-- A block is given up. -/
theorem Rel.dead {E : Env} {A : AW} {w : World} (hr : Rel G E A.heap.get w) {b : Nat} {L : Loc} {o₀ : AObj} (hb : A.heap.get b = some o₀) (hd : o₀ ≠ .dead) (hL : E b = some L) :
    Stp G E A.heap.get w E (A.put b .dead).heap.get w A.next A.next :=
  Stp.put (o := .dead) hr hb hd hL rfl (fun _ _ => rfl) rfl rfl rfl trivial

/-- A block is given up, and another number stands for a place in it. -/
theorem Stp.move {E : Env} {A : AW} {w w' : World} (h : Rel G E A.heap.get w) {b : Nat} {L : Loc} {o₀ o : AObj} (hb : A.heap.get b = some o₀) (hd : o₀ ≠ .dead) (hL : E b = some L) (hn : E A.next = none)
    (L' : Loc) (hL' : L'.blk = L.blk)
    (hsz : w'.heap.size = w.heap.size) (hsame : ∀ i, i ≠ L.blk → w'.heap[i]? = w.heap[i]?) (hos : w'.os = w.os) (ht : w'.tape = w.tape) (hp : w'.output = w.output)
    (ho : ObjR (E.bind A.next L') L' w' o) : Stp G E A.heap.get w (E.bind A.next L') ((A.put b .dead).new o).heap.get w' A.next (A.next + 1) := by
  have h1 := Stp.put (o := .dead) h hb hd hL hsz hsame hos ht hp trivial
  have hle : E.le (E.bind A.next L') := Env.bind_le hn
  have hget : ∀ b', ((A.put b .dead).new o).heap.get b' = if b' = A.next then some o else (A.put b .dead).heap.get b' := fun b' => PT.get_set _ _ _ _
  have hget0 : ∀ b', (A.put b .dead).heap.get b' = if b' = b then some .dead else A.heap.get b' := fun b' => PT.get_set _ _ _ _
  have noblk : ∀ b' o' M, (A.put b .dead).heap.get b' = some o' → o' ≠ .dead → E b' = some M → M.blk ≠ L.blk := fun b' o' M x y z e => by
    rw [hget0] at x
    by_cases eb : b' = b
    · rw [if_pos eb] at x; cases x; exact y rfl
    · rw [if_neg eb] at x; exact eb (h.inj b' b o' o₀ M L x hb y hd z hL e)
  refine ⟨Nat.le_succ _, ⟨hle, fun b' hb' => ?_⟩, ⟨?_, ?_, ?_, ?_, h1.rel.kept⟩, hos, ht, hp, by omega, h1.same, ?_⟩
  · have : b' ≠ A.next := by omega
    simp [Env.bind, this]
  · intro b' o' M x y
    rw [hget] at x
    by_cases e : b' = A.next
    · subst e
      rw [if_pos rfl] at x; cases x
      rw [Env.bind_self] at y; cases y
      exact ho
    · rw [if_neg e] at x
      simp only [Env.bind, if_neg e] at y
      exact (h1.rel.obj b' o' M x y).mono hle rfl
  · intro b₁ b₂ o₁ o₂ L₁ L₂ x1 x2 d1 d2 e1 e2 he
    rw [hget] at x1 x2
    by_cases x : b₁ = A.next <;> by_cases y : b₂ = A.next
    · omega
    · exfalso
      simp only [Env.bind, if_pos x, Option.some.injEq] at e1
      simp only [Env.bind, if_neg y] at e2
      rw [if_neg y] at x2
      subst e1
      exact noblk _ _ _ x2 d2 e2 (by rw [← he, hL'])
    · exfalso
      simp only [Env.bind, if_pos y, Option.some.injEq] at e2
      simp only [Env.bind, if_neg x] at e1
      rw [if_neg x] at x1
      subst e2
      exact noblk _ _ _ x1 d1 e1 (by rw [he, hL'])
    · rw [if_neg x] at x1; rw [if_neg y] at x2
      simp only [Env.bind, if_neg x] at e1
      simp only [Env.bind, if_neg y] at e2
      exact h1.rel.inj b₁ b₂ o₁ o₂ L₁ L₂ x1 x2 d1 d2 e1 e2 he
  · intro b' M hM
    by_cases x : b' = A.next
    · simp only [Env.bind, if_pos x, Option.some.injEq] at hM
      subst hM; rw [hL', hsz]; exact h.bnd b L hL
    · simp only [Env.bind, if_neg x] at hM
      exact h1.rel.bnd b' M hM
  · intro b' o' M x1 hdd x2
    rw [hget] at x1
    by_cases x : b' = A.next
    · simp only [Env.bind, if_pos x, Option.some.injEq] at x2
      subst x2; rw [hL']; exact h.off b o₀ L hb hd hL
    · rw [if_neg x] at x1
      simp only [Env.bind, if_neg x] at x2
      exact h1.rel.off b' o' M x1 hdd x2
  · rintro i hi ⟨b', o', M, x1, hdd, x2, x3⟩
    rw [hget] at x1
    by_cases x : b' = A.next
    · simp only [Env.bind, if_pos x, Option.some.injEq] at x2
      subst x2
      exact ⟨b, o₀, L, hb, hd, hL, by rw [← x3, hL']⟩
    · rw [if_neg x] at x1
      simp only [Env.bind, if_neg x] at x2
      exact h1.sub i hi ⟨b', o', M, x1, hdd, x2, x3⟩

theorem append_run (ht : TOk P B) {E : Env} {A A' : AW} {w : World} (hr : Rel G E A.heap.get w) {t u e ty : TypeId} {s wd : Nat} {z : AV} {d : TD} (hS : und B t = some (.slice e)) (hU : und B u = some d) (hd : isSeqD d = true)
    (hsz : sz B e = some s) (hw : wid B e = some wd) (hw4 : wd ≤ 4096) (hz : zeroA B e = some z) (hzl : z.cells.length = s)
    {x y a : AV} {vx vy : Value} (hx : V E x vx) (hy : V E y vy) (h : appendA A e s x y = some (a, A')) (hf : Free E A.next A'.next) :
    Val P G E A w (Builtin.append_ #[t, u] ty #[vx, vy]) a A' := by
  obtain ⟨D, hD1, hD2⟩ := und_ok ht hS
  obtain ⟨rfl⟩ : D = .slice e := by cases D <;> simp [tdOf] at hD2; rw [hD2]
  obtain ⟨DU, hU1, hU2⟩ := und_ok ht hU
  have hkind : (∃ e', P.underlying u = some (.slice e')) ∨ P.underlying u = some .string := by
    cases d <;> simp only [isSeqD, Bool.false_eq_true] at hd
    · exact .inr (by rw [hU1]; cases DU <;> simp [tdOf] at hU2; rfl)
    · rename_i e'; exact .inl ⟨e', by rw [hU1]; cases DU <;> simp [tdOf] at hU2; rw [hU2]⟩
  obtain ⟨ti, zv, hti, hts, htb, htz, hzV⟩ : ∃ ti zv, P.info? e = some ti ∧ ti.size = s ∧ ti.bytes = wd ∧ ti.zero = some zv ∧ absV zv = some z := by
    unfold sz at hsz; unfold wid at hw; unfold zeroA at hz
    cases hi : B.T e with
    | none => simp [hi] at hsz
    | some i =>
      simp only [hi, Option.some.injEq] at hsz hw hz
      obtain ⟨ti, D, v, h1, h2, h3, h4, h5, h6, h7⟩ := ht.T e i hi
      exact ⟨ti, v, h1, h4.trans hsz, h5.trans hw, h6, by rw [h7, hz]⟩
  have hzj : z ≠ .junk := by rintro rfl; exact absV_nj hzV
  have hzs : zv.cells.size = s := by
    have := (V_cells (absV_V (E := E) hzV) hzj).length
    rw [hzl] at this; simpa using this.symm
  subst hts
  unfold appendA at h
  cases hn : lenA x with
  | none => simp [hn] at h
  | some n =>
  cases hm : lenA y with
  | none => simp [hn, hm] at h
  | some m =>
  simp only [hn, hm] at h
  cases hbd : Nat.blt bound ((n + m) * 64) <;> simp only [hbd, cond_true, cond_false, reduceCtorEq] at h
  have hneed : (n + m) * 64 ≤ 4294967296 := by
    have : ¬ bound < (n + m) * 64 := by rw [← Nat.blt_eq, hbd]; simp
    unfold bound at this; omega
  cases hold : firstA A ti.size n x with
  | none => simp [hold] at h
  | some old =>
  cases hnew : firstA A ti.size m y with
  | none => simp [hold, hnew] at h
  | some new =>
  simp only [hold, hnew] at h
  cases hck : (!allSimple new || !Nat.beq (len old) (n * ti.size) || !Nat.beq (len new) (m * ti.size)) <;> simp only [hck, cond_true, cond_false, reduceCtorEq] at h
  simp only [Bool.or_eq_false_iff, Bool.not_eq_false', beq_nat, decide_eq_true_eq, len_eq] at hck
  obtain ⟨⟨hsim, hlo⟩, hln⟩ := hck
  obtain ⟨vo, ho1, ho2⟩ := first_run (P := P) (w := w) hr hx hold
  obtain ⟨vn, hn1, hn2⟩ := first_run (P := P) (w := w) hr hy hnew
  have hrD := hr.heap (w' := w.drew) rfl
  have hsrc : Src P ti.size u vy m vn w := by
    refine ⟨hkind, fun w' => lenA_run hm hy w', hn1 w rfl, hn1 w.drew rfl, ?_, allSimple_one hsim hn2⟩
    rw [← hn2.length, hln]
  have hgrow : ∀ base c, vx = .slice base n c → c < n + m → ∃ more : Array Value, more.size = (grownCap w (n + m) c e - (n + m)) * ti.size ∧
      (Builtin.append_ #[t, u] ty #[vx, vy]).run P w = .ok (.slice (some ⟨w.heap.size, 0, none⟩) (n + m) (grownCap w (n + m) c e)) (w.drew.alloc (.cells ((vo ++ vn).toArray ++ more) e)) := by
    rintro base c rfl hc
    have holdD : (Builtin.firstCells ti.size n (.slice base n c)).run P w.drew = .ok vo.toArray w.drew := ho1 w.drew rfl
    refine ⟨Builtin.zeroCells zv.cells (grownCap w (n + m) c e - (n + m)), by rw [size_zeroCells, hzs], ?_⟩
    refine run_append_grow_src (P := P) w t u ty e ti zv hD1 hti htz base n c vo holdD vy m vn hsrc hc (by omega) (growslice_fits hc ?_)
    rw [htb]
    have := Nat.mul_le_mul_left (n + m) hw4
    omega
  have hcat := ho2.append hn2
  have hcl : (vo ++ vn).length = (n + m) * ti.size := by rw [List.length_append, ← ho2.length, ← hn2.length, hlo, hln, Nat.add_mul]
  have hge := grownCap_ge w (n + m)
  cases x <;> simp only [reduceCtorEq] at h
  case nils =>
    simp only [lenA, Option.some.injEq] at hn
    subst hn
    simp only [V] at hx; subst hx
    rw [beq_nat] at h
    by_cases h0 : 0 + m = 0
    · simp only [h0, decide_true, cond_true, Option.some.injEq, Prod.mk.injEq] at h
      obtain ⟨rfl, rfl⟩ := h
      have hm0 : m = 0 := by omega
      subst hm0
      refine Val.same hr (v' := .slice none 0 0) ?_ rfl
      have hl := hsrc.len
      have hc := hsrc.cells
      rcases hkind with ⟨e', hk⟩ | hk <;> simp [Builtin.append_, run_underlying hD1, run_underlying hk, sizeOf, typeInfo, hti, hl, hc]
    · simp only [decide_eq_false h0, cond_false, Option.some.injEq, Prod.mk.injEq] at h
      obtain ⟨rfl, rfl⟩ := h
      obtain ⟨more, hmore, hrun⟩ := hgrow none 0 rfl (by omega)
      refine ⟨_, _, _, hrun, grow_new hr hf hcat e .no (fun _ _ => rfl), ?_⟩
      simp only [V]
      refine ⟨_, _, Env.bind_self _ _ _, rfl, Nat.le_refl _, hge _ _, fun hh => absurd hh (by simp), ?_⟩
      simp only [Nat.zero_add] at *
      rw [hcl, hmore, ← Nat.add_mul]
      exact Nat.mul_le_mul_right _ (by have := hge 0 e; omega)
  case slice b o n' cap ex es =>
    simp only [lenA, Option.some.injEq] at hn
    subst hn
    have hx' := hx
    simp only [V] at hx'
    obtain ⟨L, c, hL, rfl, hnc, hcap, hex, hcnt⟩ := hx'
    simp only [beq_nat] at h
    by_cases hes : es = ti.size
    case neg => simp [hes] at h
    subst hes
    simp only [decide_true, Bool.not_true, cond_false] at h
    by_cases hm0 : m = 0
    · subst hm0
      simp only [decide_true, cond_true, Option.some.injEq, Prod.mk.injEq] at h
      obtain ⟨rfl, rfl⟩ := h
      have hl := hsrc.len
      have hc := hsrc.cells
      have hvn : vn = [] := by have := hsrc.newsLen; simpa using this
      subst hvn
      refine Val.same hr (v' := .slice (some ⟨L.blk, L.sh + o, none⟩) n' c) ?_ hx
      rcases hkind with ⟨e', hk⟩ | hk <;> simp [Builtin.append_, run_underlying hD1, run_underlying hk, sizeOf, typeInfo, hti, hl, hc, show n' ≤ c by omega, storeCells]
    · simp only [decide_eq_false hm0, cond_false] at h
      cases hb : A.heap.get b with
      | none => simp [hb] at h
      | some ob =>
      cases ob <;> simp only [hb, reduceCtorEq] at h
      rename_i cc e' zz all
      cases hz' : shiftFrz zz o with
      | none => simp [hz'] at h
      | some z' =>
      simp only [hz'] at h
      cases hck2 : (!decide (e = e') || !thaw zz (o + n' * ti.size) (m * ti.size)) <;> simp only [hck2, cond_true, cond_false, reduceCtorEq, Option.some.injEq, Prod.mk.injEq] at h
      simp only [Bool.or_eq_false_iff, Bool.not_eq_false', decide_eq_true_eq] at hck2
      obtain ⟨rfl, hthaw⟩ := hck2
      obtain ⟨rfl, rfl⟩ := h
      obtain ⟨c', fr, h1, h2, h3, h4, h5, h6⟩ := hr.obj b _ L hb hL
      have hdead := Rel.dead hr hb (by simp) hL
      by_cases hroom : n' + m ≤ c
      · have hlen : vn.length = m * ti.size := hsrc.newsLen
        have hle : n' * ti.size + m * ti.size ≤ c * ti.size := by rw [← Nat.add_mul]; exact Nat.mul_le_mul_right _ hroom
        have hun := thaw_ok hthaw h6 (by omega)
        obtain ⟨w', c'', k1, k2, k3, k4, k5, k6, k7, k8, k9⟩ := run_storeCells_blk (P := P) (b := L.blk) (off := L.sh + o + n' * ti.size) vn 0 c' w h1 (by omega)
          (fun q a d => hun q (by omega) (by omega)) (allSimple_one hsim hn2)
        have hc0 : ∀ j, j < vn.length → (w.cell? ⟨L.blk, L.sh + o + n' * ti.size + j, none⟩).isSome = true := fun j hj => by
          rw [cell_of h1, Array.getElem?_eq_getElem (by omega)]; rfl
        have hf0 : ∀ j, j < vn.length → w.frozen? ⟨L.blk, L.sh + o + n' * ti.size + j, none⟩ = false := fun j hj => by
          rw [frozen_of h1]
          have := hun (L.sh + o + n' * ti.size + j) (by omega) (by omega)
          simp only [Bool.and_eq_false_iff, decide_eq_false_iff_not]
          by_cases x : fr.1 ≤ L.sh + o + n' * ti.size + j
          · exact .inr (fun y => this ⟨x, y⟩)
          · exact .inl x
        have hrun := run_append_room_src (P := P) w t u ty e ti hD1 hti L.blk (L.sh + o) n' c vy m vn hsrc hroom hc0 hf0
        have hst := run_storeCells_cells (P := P) L.blk (L.sh + o + n' * ti.size) vn 0 w (by simpa using hc0) (by simpa using hf0) (allSimple_one hsim hn2)
        rw [k1] at hst
        simp only [Nat.add_zero, Result.ok.injEq, true_and] at hst
        rw [← hst] at hrun
        refine ⟨_, w', _, hrun, Stp.move hr hb (by simp) hL (Env.bind_new hf) ⟨L.blk, L.sh + o, L.cnt - o⟩ rfl k5 k6 k7 k8 k9 ?_, ?_⟩
        · refine ⟨c'', fr, k2, by simp only; omega, by simp only [List.length_append]; omega, fun hh => absurd hh (by simp), fun i a hi => ?_, frz_shift hz' (by rw [k3]; exact h6)⟩
          have hVn := (VL_iff.1 (hn2.mono (Env.bind_le (L := ⟨L.blk, L.sh + o, L.cnt - o⟩) (Env.bind_new hf)))).2
          rw [k4]
          by_cases hi1 : i < old.length
          · rw [List.getElem?_append_left hi1] at hi
            rw [if_neg (by simp only; omega)]
            have hne : n' ≠ 0 := by rintro rfl; simp at hlo; rw [hlo] at hi1; simp at hi1
            simp only [firstA, beq_nat, decide_eq_false hne, decide_true, cond_true, cond_false, ldCells, hb, tke_eq, drp_eq, len_eq] at hold
            cases hll : decide ((List.take (n' * ti.size) (List.drop o cc)).length = n' * ti.size) <;> simp only [hll, cond_true, cond_false, reduceCtorEq, Option.some.injEq] at hold
            subst hold
            rw [List.getElem?_take_of_lt (by omega), List.getElem?_drop] at hi
            obtain ⟨v, q1, q2⟩ := h5 (o + i) a hi
            exact ⟨v, by rw [← Nat.add_assoc] at q1; exact q1, q2.mono (Env.bind_le (Env.bind_new hf))⟩
          · rw [List.getElem?_append_right (by omega)] at hi
            have hlt := (List.getElem?_eq_some_iff.1 hi).1
            have hl2 := hn2.length
            rw [if_pos (by simp only; omega)]
            obtain ⟨v, q1, q2⟩ := hVn _ _ hi
            refine ⟨v, ?_, q2⟩
            rw [← q1]; congr 1; simp only; omega
        · simp only [V]
          exact ⟨_, c, Env.bind_self _ _ _, by simp, Nat.le_refl _, hroom, fun hh => absurd hh (by simp), by simp only; omega⟩
      · obtain ⟨more, hmore, hrun⟩ := hgrow _ c rfl (by omega)
        have hg := grow_new (A := A.put b .dead) (more := more) hdead.rel hf hcat e z' (fun _ _ => frz_fresh hz')
        refine ⟨_, _, _, hrun, hdead.trans hg, ?_⟩
        simp only [V]
        refine ⟨_, _, Env.bind_self _ _ _, rfl, Nat.le_refl _, hge _ _, fun hh => absurd hh (by simp), ?_⟩
        simp only [Nat.zero_add] at *
        rw [hcl, hmore, ← Nat.add_mul]
        exact Nat.mul_le_mul_right _ (by have := hge c e; omega)
end Go.Ax
namespace Go.Ax
open Go
variable {P : Program} {B : Tb} {G : Nat}

theorem copy_eq {w : World} {t e ty : TypeId} {ts : Array TypeId} (h0 : ts[0]? = some t) (hD1 : P.underlying t = some (.slice e)) {base : Option Addr} {n c m s : Nat} {vy : Value} {vs : List Value}
    (hl : (Builtin.lenOf vy).run P w = .ok m w) (hs : (sizeOf e).run P w = .ok s w) (hf : (Builtin.firstCells s (Nat.min m n) vy).run P w = .ok vs.toArray w) :
    (Builtin.copy_ ts ty #[.slice base n c, vy]).run P w = match base with
      | none => .ok (goInt (Nat.min m n)) w
      | some a => ((storeCells a vs).run P w).andThen fun _ w' => .ok (goInt (Nat.min m n)) w' := by
  have e1 : (#[.slice base n c, vy] : Array Value)[0]? = some (.slice base n c) := rfl
  have e2 : (#[.slice base n c, vy] : Array Value)[1]? = some vy := rfl
  cases base <;> simp only [Builtin.copy_, h0, e1, e2, Sem.run_bind, run_underlying hD1, Result.andThen_ok, hl, hs, hf, Sem.run_pure]

theorem copy_run (ht : TOk P B) {E : Env} {A A' : AW} {w : World} (hr : Rel G E A.heap.get w) {t e ty : TypeId} {ts : Array TypeId} (h0 : ts[0]? = some t) (hS : und B t = some (.slice e))
    {x y a : AV} {vx vy : Value} (hx : V E x vx) (hy : V E y vy) (h : copyA B A x y e = some (a, A')) : Val P G E A w (Builtin.copy_ ts ty #[vx, vy]) a A' := by
  obtain ⟨D, hD1, hD2⟩ := und_ok ht hS
  obtain ⟨rfl⟩ : D = .slice e := by cases D <;> simp [tdOf] at hD2; rw [hD2]
  unfold copyA at h
  cases hn : lenS x with
  | none => simp [hn] at h
  | some n =>
  cases hm : lenA y with
  | none => simp [hn, hm] at h
  | some m =>
  cases hs : sz B e with
  | none => simp [hn, hm, hs] at h
  | some s =>
  simp only [hn, hm, hs] at h
  have hk : (bif Nat.ble m n then m else n) = Nat.min m n := by
    cases hb : Nat.ble m n
    · have : ¬ m ≤ n := by rw [← Nat.ble_eq, hb]; simp
      show n = Nat.min m n
      exact (Nat.min_eq_right (by omega)).symm
    · have : m ≤ n := by rw [← Nat.ble_eq, hb]
      show m = Nat.min m n
      exact (Nat.min_eq_left this).symm
  rw [hk] at h
  cases hf : firstA A s (Nat.min m n) y with
  | none => simp [hf] at h
  | some cs =>
  simp only [hf] at h
  obtain ⟨vs, v1, v2⟩ := first_run (P := P) (w := w) hr hy hf
  have hlen := lenA_run (P := P) hm hy w
  have hv1 := v1 w rfl
  rw [beq_nat] at h
  have hsz := sz_ok (P := P) ht hs w
  by_cases hz : Nat.min m n = 0
  · simp only [hz, decide_true, cond_true, Option.some.injEq, Prod.mk.injEq] at h
    obtain ⟨rfl, rfl⟩ := h
    have hcs : vs = [] := by
      rw [hz] at hf
      cases y <;> simp only [firstA, reduceCtorEq, Option.some.injEq, tke, bytesA, beq_nat, decide_true, cond_true] at hf
      all_goals (subst hf; simpa [VL] using v2)
    subst hcs
    refine Val.same hr (v' := goInt 0) ?_ rfl
    cases x <;> simp only [lenS, reduceCtorEq, Option.some.injEq] at hn
    case nils =>
      simp only [V] at hx; subst hx
      subst hn
      rw [copy_eq h0 hD1 hlen hsz hv1]
      show Result.ok (goInt (Nat.min m 0)) w = _
      rw [hz]; rfl
    case slice =>
      simp only [V] at hx
      obtain ⟨L, c, hL, rfl, _⟩ := hx
      subst hn
      rw [copy_eq h0 hD1 hlen hsz hv1]
      show Result.ok (goInt (Nat.min m _)) w = _
      rw [hz]; rfl
  · simp only [decide_eq_false hz, cond_false] at h
    cases x <;> simp only [reduceCtorEq] at h
    rename_i b o n' cap ex es
    rw [beq_nat] at h
    by_cases he : es = s
    · subst he
      simp only [decide_true, cond_true, Option.map_eq_some_iff, Prod.mk.injEq] at h
      obtain ⟨A1, h1, rfl, rfl⟩ := h
      simp only [lenS, Option.some.injEq] at hn
      subst hn
      simp only [V] at hx
      obtain ⟨L, c, hL, rfl, _⟩ := hx
      obtain ⟨w', k1, k2⟩ := stCells_ok (P := P) hr hL v2 h1
      refine ⟨goInt (Nat.min m n'), w', E, ?_, k2, rfl⟩
      rw [copy_eq h0 hD1 hlen hsz hv1]
      simp only [k1, Result.andThen_ok]
    · simp [he] at h

theorem clear_run (ht : TOk P B) {E : Env} {A A' : AW} {w : World} (hr : Rel G E A.heap.get w) {t ty : TypeId} {ts : Array TypeId} (h0 : ts[0]? = some t)
    {x a : AV} {vx : Value} (hx : V E x vx) (h : clearA B A t x = some (a, A')) : Val P G E A w (Builtin.clear_ ts ty #[vx]) a A' := by
  unfold clearA at h
  have e1 : (#[vx] : Array Value)[0]? = some vx := rfl
  cases hu : und B t with
  | none => simp [hu] at h
  | some td =>
  obtain ⟨D, hD1, hD2⟩ := und_ok ht hu
  rw [hu] at h
  have htup : ∀ E, V E (.tup []) (.tuple #[]) := fun E => by simp only [V]; exact ⟨_, rfl, rfl⟩
  cases x <;> (try (exfalso; cases td <;> cases h; done))
  case nils =>
    simp only [Option.some.injEq, Prod.mk.injEq] at h
    obtain ⟨rfl, rfl⟩ := h
    simp only [V] at hx; subst hx
    refine Val.same hr (v' := .tuple #[]) ?_ (htup _)
    unfold Builtin.clear_
    simp only [h0, e1, Sem.run_bind, run_underlying hD1, Result.andThen_ok]
    cases D <;> rfl
  case nilm =>
    simp only [Option.some.injEq, Prod.mk.injEq] at h
    obtain ⟨rfl, rfl⟩ := h
    simp only [V] at hx; subst hx
    refine Val.same hr (v' := .tuple #[]) ?_ (htup _)
    unfold Builtin.clear_
    simp only [h0, e1, Sem.run_bind, run_underlying hD1, Result.andThen_ok]
    cases D <;> rfl
  case slice b o n cap ex es =>
    cases td <;> simp only [reduceCtorEq] at h
    rename_i e
    obtain ⟨rfl⟩ : D = .slice e := by cases D <;> simp [tdOf] at hD2; rw [hD2]
    cases hz : zeroA B e with
    | none => simp [hz] at h
    | some z =>
    cases hs : sz B e with
    | none => simp [hz, hs] at h
    | some s =>
    simp only [hz, hs, beq_nat, len_eq] at h
    simp only [V] at hx
    obtain ⟨L, c, hL, rfl, _⟩ := hx
    by_cases hn : n = 0
    · subst hn
      simp only [decide_true, cond_true, Option.some.injEq, Prod.mk.injEq] at h
      obtain ⟨rfl, rfl⟩ := h
      refine Val.same hr (v' := .tuple #[]) ?_ (htup _)
      unfold Builtin.clear_
      simp only [h0, e1, Sem.run_bind, run_underlying hD1, Result.andThen_ok]
      rfl
    · simp only [decide_eq_false hn, cond_false] at h
      cases hc : (decide (s = es) && decide (z.cells.length = s)) <;> simp only [hc, cond_true, cond_false, reduceCtorEq, Option.map_eq_some_iff, Prod.mk.injEq] at h
      simp only [Bool.and_eq_true, decide_eq_true_eq] at hc
      obtain ⟨A1, h1, rfl, rfl⟩ := h
      obtain ⟨zv, z1, z2, z3⟩ := zero_ok (P := P) ht hz
      have hzj : z ≠ .junk := by rintro rfl; exact absV_nj z3
      have hzc := V_cells (z2 E) hzj
      have hzl : zv.cells.size = z.cells.length := by have := hzc.length; simpa using this.symm
      have hV : VL E (repl n z.cells) (Builtin.zeroCells zv.cells n).toList := repl_VL hzc n _ (by rw [hzl])
      obtain ⟨w', k1, k2⟩ := stCells_ok (P := P) hr hL hV h1
      refine ⟨.tuple #[], w', E, ?_, k2, htup _⟩
      unfold Builtin.clear_
      simp only [h0, e1, Sem.run_bind, run_underlying hD1, Result.andThen_ok]
      cases n with
      | zero => exact absurd rfl hn
      | succ n => simp only [Sem.run_bind, z1, Result.andThen_ok, k1, Sem.run_pure]
end Go.Ax
namespace Go.Ax
open Go
variable {P : Program} {B : Tb} {G : Nat}

/-- Of memory seen as another type. -/
structure LOk (P : Program) (B : Tb) : Prop where
  L : ∀ e n o u, B.L e n o u = true → ∃ s, (∀ w, (sizeOf u).run P w = .ok s w) ∧ (s = 0 ∨ liesAt P P.depth e (n / P.cellsOf e) o u 1 = true)

theorem tdOf_int {D : TypeDesc} {k : IntKind} (h : tdOf D = .int k) : D = .int k := by cases D <;> simp [tdOf] at h; rw [h]
theorem tdOf_str {D : TypeDesc} (h : tdOf D = .str) : D = .string := by cases D <;> simp [tdOf] at h; rfl
theorem tdOf_slice {D : TypeDesc} {e : TypeId} (h : tdOf D = .slice e) : D = .slice e := by cases D <;> simp [tdOf] at h; rw [h]
theorem tdOf_ptr {D : TypeDesc} {e : TypeId} (h : tdOf D = .ptr e) : D = .pointer e := by cases D <;> simp [tdOf] at h; rw [h]
theorem tdOf_uptr {D : TypeDesc} (h : tdOf D = .uptr) : D = .unsafePointer := by cases D <;> simp [tdOf] at h; rfl
theorem tdOf_iface {D : TypeDesc} (h : tdOf D = .iface) : ∃ s, D = .interface s := by cases D <;> simp [tdOf] at h; exact ⟨_, rfl⟩
theorem tdOf_arr {D : TypeDesc} {n : Nat} {e : TypeId} (h : tdOf D = .arr n e) : D = .array n e := by cases D <;> simp [tdOf] at h; rw [h.1, h.2]
theorem tdOf_map {D : TypeDesc} {k e : TypeId} (h : tdOf D = .map k e) : D = .map k e := by cases D <;> simp [tdOf] at h; rw [h.1, h.2]

theorem unbytes_V {E : Env} : ∀ {cs : List AV} {s : List Nat} {vs : List Value}, unbytes cs = some s → VL E cs vs → vs = (s.map fun (n : Nat) => Value.int .u8 (n : Int)) ∧ ∀ b ∈ s, b < 256
  | [], s, vs, h, hv => by
    simp only [unbytes, Option.some.injEq] at h; subst h
    simp only [VL] at hv; subst hv; simp
  | c :: cs, s, vs, h, hv => by
    simp only [VL] at hv
    obtain ⟨v, vs', rfl, h1, h2⟩ := hv
    unfold unbytes at h
    split at h
    · rename_i heq; cases heq
    · rename_i n l heq
      simp only [List.cons.injEq] at heq
      obtain ⟨rfl, rfl⟩ := heq
      cases hb : Nat.blt n 256 <;> simp only [hb, cond_true, cond_false, reduceCtorEq, Option.map_eq_some_iff] at h
      obtain ⟨s', h3, rfl⟩ := h
      obtain ⟨rfl, h4⟩ := unbytes_V h3 h2
      rw [Nat.blt_eq] at hb
      refine ⟨by rw [V_int h1]; rfl, ?_⟩
      intro b hb'
      rcases List.mem_cons.1 hb' with rfl | hb'
      · exact hb
      · exact h4 b hb'
    · cases h

theorem foldl_push : ∀ (ns : List Nat) (acc : ByteArray), nats ((ns.map fun (n : Nat) => (n : Int)).foldl (fun r n => r.push (UInt8.ofNat n.toNat)) acc) = nats acc ++ ns.map (· % 256)
  | [], acc => by simp
  | n :: ns, acc => by
    simp only [List.map_cons, List.foldl_cons]
    rw [foldl_push ns]
    simp [nats, ByteArray.push]

theorem seenAt_cells {w : World} {a : Addr} {c : Array Value} {e : TypeId} {fr : Nat × Nat} (h : w.heap[a.block]? = some (.cells c e fr)) : (Conv.seenAt a).run P w = .ok a w := by
  unfold Conv.seenAt viewAt
  simp [World.shape?, h]

theorem push_modify {α : Type} (h : Array α) (x : α) (f : α → α) : (h.push x).modify h.size f = h.push (f x) := by
  apply Array.ext_getElem?
  intro i
  rw [Array.getElem?_modify, Array.getElem?_push, Array.getElem?_push]
  by_cases e : h.size = i
  · subst e; simp
  · rw [if_neg e, if_neg (Ne.symm e), if_neg (Ne.symm e)]

theorem freeze_alloc (w : World) (c : Array Value) (e : TypeId) (n : Nat) : (w.alloc (.cells c e)).freeze { block := w.heap.size, off := n } 1 = w.alloc (.cells c e (n, n + 1)) := by
  unfold World.freeze World.alloc
  rw [if_neg (by omega)]
  congr 1
  exact push_modify w.heap (.cells c e) _

theorem stringToBytes_run {w : World} {e : TypeId} {s : ByteArray} : ∃ more : List Value, more.length = grownCap w s.size 0 e - s.size ∧
    (Conv.stringToBytes e s).run P w = .ok (.slice (some ⟨w.heap.size, 0, none⟩) s.size (grownCap w s.size 0 e))
      (w.drew.alloc (.cells (((s.data.toList.map fun (b : UInt8) => Value.int .u8 b.toNat) ++ more).toArray) e (grownCap w s.size 0 e, grownCap w s.size 0 e + 1))) := by
  refine ⟨List.replicate (grownCap w s.size 0 e - s.size) (Value.int .u8 0), by simp, ?_⟩
  have hge := grownCap_ge w s.size 0 e
  have harr : (s.data.map fun (b : UInt8) => Value.int .u8 b.toNat) ++ Array.replicate (grownCap w s.size 0 e - s.size) (Value.int .u8 0) = ((s.data.toList.map fun (b : UInt8) => Value.int .u8 b.toNat) ++ List.replicate (grownCap w s.size 0 e - s.size) (Value.int .u8 0)).toArray := by
    apply Array.ext'; simp
  have hsz : ((s.data.toList.map fun (b : UInt8) => Value.int .u8 b.toNat) ++ List.replicate (grownCap w s.size 0 e - s.size) (Value.int .u8 0)).toArray.size = grownCap w s.size 0 e := by
    have : s.data.size = s.size := rfl
    simp [this]; omega
  unfold Conv.stringToBytes markStringish
  have hch : (choose (Question.appendCap s.size 0 e)).run P w = .ok (grownCap w s.size 0 e) w.drew := rfl
  have hno : ∀ (o : Obj) (w' : World), (newObj o).run P w' = .ok w'.heap.size (w'.alloc o) := fun _ _ => rfl
  simp only [Sem.run_bind, hch, Result.andThen_ok, newRow, hno, Sem.run_pure, run_shape]
  rw [harr]
  have hsh : (w.drew.alloc (.cells (((s.data.toList.map fun (b : UInt8) => Value.int .u8 b.toNat) ++ List.replicate (grownCap w s.size 0 e - s.size) (Value.int .u8 0)).toArray) e)).shape? w.drew.heap.size = some (e, grownCap w s.size 0 e) := by
    unfold World.shape?
    rw [alloc_self]
    simp only [hsz]
  rw [hsh]
  simp only [run_freeze, Result.andThen_ok, Sem.run_pure]
  rw [freeze_alloc]
  rfl

theorem conv_run (ht : TOk P B) (hl : LOk P B) {E : Env} {A A' : AW} {w : World} (hr : Rel G E A.heap.get w) {src dst : TypeId} {x a : AV} {v : Value} (hv : V E x v) (h : convA B A src dst x = some (a, A')) (hf : Free E A.next A'.next) :
    Val P G E A w (convert src dst v) a A' := by
  unfold convA at h
  cases hu : und B src with
  | none => simp [hu] at h
  | some ts =>
  cases hd : und B dst with
  | none => simp [hu, hd] at h
  | some td =>
  obtain ⟨S, hS1, hS2⟩ := und_ok ht hu
  obtain ⟨D, hD1, hD2⟩ := und_ok ht hd
  rw [hu, hd] at h
  unfold convert
  simp only [Val, Sem.run_bind, run_underlying hS1, run_underlying hD1, Result.andThen_ok]
  cases ts <;> (try (exfalso; cases h; done))
  case int k =>
    cases td <;> (try (exfalso; cases h; done))
    case int k2 =>
      have := tdOf_int hD2; subst this
      cases x <;> simp only [reduceCtorEq, Option.some.injEq, Prod.mk.injEq] at h
      obtain ⟨rfl, rfl⟩ := h
      rw [V_int hv]
      exact Val.same hr rfl rfl
    case str =>
      have := tdOf_str hD2; subst this
      cases x <;> simp only [reduceCtorEq, Option.some.injEq, Prod.mk.injEq] at h
      obtain ⟨rfl, rfl⟩ := h
      rw [V_int hv]
      exact Val.same hr (v' := .string _) rfl ⟨_, rfl, rfl⟩
  case str =>
    have := tdOf_str hS2; subst this
    cases td <;> (try (exfalso; cases h; done))
    case str =>
      have := tdOf_str hD2; subst this
      cases x <;> simp only [reduceCtorEq, Option.some.injEq, Prod.mk.injEq] at h
      obtain ⟨rfl, rfl⟩ := h
      obtain ⟨s, rfl, rfl⟩ := V_str hv
      exact Val.same hr rfl hv
    case slice e =>
      have := tdOf_slice hD2; subst this
      cases x <;> simp only [reduceCtorEq] at h
      obtain ⟨s, rfl, rfl⟩ := V_str hv
      cases he : und B e with
      | none => simp [he] at h
      | some te =>
      obtain ⟨De, hE1, hE2⟩ := und_ok ht he
      simp only [he] at h
      cases te <;> (try (exfalso; cases h; done))
      rename_i k
      cases k <;> (try (exfalso; cases h; done))
      have := tdOf_int hE2; subst this
      cases hb : Nat.blt (len (nats s)) bound <;> simp only [hb, cond_true, cond_false, reduceCtorEq, Option.some.injEq, Prod.mk.injEq] at h
      obtain ⟨rfl, rfl⟩ := h
      obtain ⟨more, hm, hrun⟩ := stringToBytes_run (P := P) (w := w) (e := e) (s := s)
      have hge := grownCap_ge w s.size 0 e
      have h0 := Stp.draw (w' := w.drew) hr A.next rfl rfl rfl rfl
      have hvs : VL E (bytesA (nats s)) (s.data.toList.map fun (b : UInt8) => Value.int .u8 b.toNat) := bytesA_VL _
      have hlen : (s.data.toList.map fun (b : UInt8) => Value.int .u8 b.toNat).length = s.size := by simp
      have hn := cells_open (w := w.drew) (more := more) h0.rel hf hvs e .odd (.inr rfl) (grownCap w s.size 0 e, grownCap w s.size 0 e + 1) (fun h => by cases h) (fun _ => by simp only; omega)
      refine ⟨.slice (some ⟨w.heap.size, 0, none⟩) s.size (grownCap w s.size 0 e), _, _, ?_, h0.trans hn, ?_⟩
      · simp only [Sem.run_bind, run_underlying hE1, Result.andThen_ok]
        exact hrun
      · simp only [V]
        refine ⟨_, _, Env.bind_self _ _ _, by rw [len_eq, nats_len]; rfl, Nat.le_refl _, by rw [len_eq, nats_len]; exact hge, fun hh => absurd hh (by simp), ?_⟩
        simp only; omega
  case slice e =>
    have := tdOf_slice hS2; subst this
    cases td <;> (try (exfalso; cases h; done))
    have := tdOf_str hD2; subst this
    cases he : und B e with
    | none => simp [he] at h
    | some te =>
    obtain ⟨De, hE1, hE2⟩ := und_ok ht he
    simp only [he] at h
    cases te <;> (try (exfalso; cases h; done))
    rename_i k
    cases k <;> (try (exfalso; cases h; done))
    have := tdOf_int hE2; subst this
    cases x <;> simp only [reduceCtorEq] at h
    case nils =>
      simp only [Option.some.injEq, Prod.mk.injEq] at h
      obtain ⟨rfl, rfl⟩ := h
      simp only [V] at hv; subst hv
      refine Val.same hr (v' := .string .empty) ?_ ⟨_, rfl, rfl⟩
      simp [run_underlying hE1, Conv.bytesToString]
    case slice b o n cap ex es =>
      simp only [V] at hv
      obtain ⟨L, c, hL, rfl, _⟩ := hv
      cases hld : ldCells A b o n with
      | none => simp [hld] at h
      | some cs =>
      simp only [hld, Option.map_eq_some_iff, Prod.mk.injEq] at h
      obtain ⟨s, h1, rfl, rfl⟩ := h
      obtain ⟨vs, k1, k2, _⟩ := ldCells_ok (P := P) hr hL hld
      obtain ⟨rfl, hlt⟩ := unbytes_V h1 k2
      have hrun := run_bytesToString (P := P) w ⟨L.blk, L.sh + o, none⟩ n c (s.map fun (n : Nat) => (n : Int)) (by rw [k1]; simp)
      refine Val.same hr (v' := .string ((s.map fun (n : Nat) => (n : Int)).foldl (fun r n => r.push (UInt8.ofNat n.toNat)) ByteArray.empty)) ?_ ⟨_, rfl, ?_⟩
      · simp only [Sem.run_bind, run_underlying hE1, Result.andThen_ok]
        exact hrun
      · rw [foldl_push]
        have : nats ByteArray.empty = [] := rfl
        rw [this, List.nil_append]
        exact (List.map_congr_left fun b hb => Nat.mod_eq_of_lt (hlt b hb)).trans (List.map_id _)
  case ptr t =>
    have := tdOf_ptr hS2; subst this
    cases td <;> (try (exfalso; cases h; done))
    have := tdOf_uptr hD2; subst this
    cases x <;> simp only [reduceCtorEq] at h
    rename_i b o
    simp only [V] at hv
    obtain ⟨L, hL, rfl⟩ := hv
    cases hb : A.heap.get b with
    | none => simp [hb] at h
    | some ob =>
    cases ob <;> simp only [hb, reduceCtorEq] at h
    rename_i cc ee zz all
    cases hs : sz B t with
    | none => simp [hs] at h
    | some n =>
    simp only [hs] at h
    cases hc : (Nat.blt o (len cc) && !Nat.beq n 0) <;> simp only [hc, cond_true, cond_false, reduceCtorEq, Option.some.injEq, Prod.mk.injEq] at h
    obtain ⟨rfl, rfl⟩ := h
    simp only [Bool.and_eq_true, Nat.blt_eq, len_eq, beq_nat, Bool.not_eq_true', decide_eq_false_iff_not] at hc
    obtain ⟨c', fr, h1, h2, h3, _⟩ := hr.obj b _ L hb hL
    refine Val.same hr (v' := .pointer (some ⟨L.blk, L.sh + o, none⟩)) ?_ ⟨L, hL, rfl⟩
    have hse := seenAt_cells (P := P) (a := ⟨L.blk, L.sh + o, none⟩) h1
    have hno : ¬ (L.sh + o ≥ c'.size) := by omega
    simp only [Conv.unsafePointer, Sem.run_bind, run_underlying hS1, run_underlying hD1, Result.andThen_ok, hse, cellsIn, run_shape, World.shape?, h1, sz_ok ht hs, Sem.run_pure]
    simp [hno, hc.2]
  case uptr =>
    have := tdOf_uptr hS2; subst this
    cases td <;> (try (exfalso; cases h; done))
    rename_i u
    have := tdOf_ptr hD2; subst this
    cases x <;> simp only [reduceCtorEq] at h
    rename_i b o
    simp only [V] at hv
    obtain ⟨L, hL, rfl⟩ := hv
    cases hb : A.heap.get b with
    | none => simp [hb] at h
    | some ob =>
    cases ob <;> simp only [hb, reduceCtorEq] at h
    rename_i cc ee zz all
    cases all <;> simp only [reduceCtorEq] at h
    cases hc : B.L ee (len cc) o u <;> simp only [hc, cond_true, cond_false, reduceCtorEq, Option.some.injEq, Prod.mk.injEq] at h
    obtain ⟨rfl, rfl⟩ := h
    obtain ⟨c', fr, h1, h2, h3, h4, _⟩ := hr.obj b _ L hb hL
    obtain ⟨h5, h6⟩ := h4 rfl
    obtain ⟨s, hs, hor⟩ := hl.L _ _ _ _ hc
    rw [len_eq, show cc.length = c'.size by omega] at hor
    refine Val.same hr (v' := .pointer (some ⟨L.blk, L.sh + o, none⟩)) ?_ ⟨L, hL, rfl⟩
    have hse := seenAt_cells (P := P) (a := ⟨L.blk, L.sh + o, none⟩) h1
    simp only [Conv.unsafePointer, Sem.run_bind, run_underlying hS1, run_underlying hD1, Result.andThen_ok, hse, hs, Sem.run_pure, variablesAt, run_program, run_shape, World.shape?, h1]
    rcases hor with rfl | hor
    · simp
    · simp [h5, hor]
end Go.Ax
namespace Go.Ax
open Go
variable {P : Program} {B : Tb} {G : Nat}

theorem goInt_eq (n : Nat) : goInt (n : Int) = .int .i64 (Int.ofNat n) := rfl

theorem len_run (ht : TOk P B) {E : Env} {A : AW} {w : World} (hr : Rel G E A.heap.get w) {t ty : TypeId} {ts : Array TypeId} (h0 : ts[0]? = some t) {cs : Array Bool} {x : AV} {vx : Value} {r : OR} (hx : V E x vx)
    (h : builtinA B A .len ts ty [x] = some r) : ∃ a v', r = .val a A ∧ (Builtin.len_ ts ty #[vx]).run P w = .ok v' w ∧ V E a v' := by
  simp only [builtinA, h0] at h
  have e1 : (#[vx] : Array Value)[0]? = some vx := rfl
  cases hu : und B t with
  | none => simp [hu] at h
  | some td =>
  obtain ⟨D, hD1, hD2⟩ := und_ok ht hu
  rw [hu] at h
  unfold Builtin.len_
  simp only [h0, e1, Sem.run_bind, run_underlying hD1, Result.andThen_ok]
  cases td <;> (try (exfalso; cases h; done))
  case arr n e =>
    have := tdOf_arr hD2; subst this
    simp only [Option.some.injEq] at h; subst h
    exact ⟨_, _, rfl, rfl, rfl⟩
  case str =>
    have := tdOf_str hD2; subst this
    cases x <;> (try (exfalso; cases h; done))
    simp only [Option.some.injEq] at h; subst h
    obtain ⟨s, rfl, rfl⟩ := V_str hx
    exact ⟨_, _, rfl, rfl, by rw [len_eq, nats_len]; rfl⟩
  case slice e =>
    have := tdOf_slice hD2; subst this
    cases x <;> (try (exfalso; cases h; done))
    case nils =>
      simp only [Option.some.injEq] at h; subst h
      simp only [V] at hx; subst hx
      exact ⟨_, _, rfl, rfl, rfl⟩
    case slice =>
      simp only [Option.some.injEq] at h; subst h
      simp only [V] at hx
      obtain ⟨L, c, _, rfl, _⟩ := hx
      exact ⟨_, _, rfl, rfl, rfl⟩
  case map k e =>
    have := tdOf_map hD2; subst this
    cases x <;> (try (exfalso; cases h; done))
    case nilm =>
      simp only [Option.some.injEq] at h; subst h
      simp only [V] at hx; subst hx
      exact ⟨_, _, rfl, rfl, rfl⟩
    case map b =>
      simp only [V] at hx
      obtain ⟨L, hL, rfl⟩ := hx
      cases hb : A.heap.get b with
      | none => simp [hb] at h
      | some ob =>
      cases ob <;> simp only [hb, reduceCtorEq] at h
      rename_i es clock
      simp only [Option.some.injEq] at h; subst h
      obtain ⟨fs, h1, h2⟩ := hr.obj b _ L hb hL
      have hg : (getObj L.blk).run P w = .ok (.map fs clock) w := getObj_run h1 (by simp)
      refine ⟨_, goInt fs.size, rfl, by simp only [Sem.run_bind, hg, Result.andThen_ok, Sem.run_pure], ?_⟩
      have := h2.1
      simp only [Array.length_toList] at this
      rw [len_eq, this]; rfl

theorem cap_run (ht : TOk P B) {E : Env} {A : AW} {w : World} {t ty : TypeId} {ts : Array TypeId} (h0 : ts[0]? = some t) {x : AV} {vx : Value} {r : OR} (hx : V E x vx)
    (h : builtinA B A .cap ts ty [x] = some r) : ∃ a v', r = .val a A ∧ (Builtin.cap_ ts ty #[vx]).run P w = .ok v' w ∧ V E a v' := by
  simp only [builtinA, h0] at h
  have e1 : (#[vx] : Array Value)[0]? = some vx := rfl
  cases hu : und B t with
  | none => simp [hu] at h
  | some td =>
  obtain ⟨D, hD1, hD2⟩ := und_ok ht hu
  rw [hu] at h
  unfold Builtin.cap_
  simp only [h0, e1, Sem.run_bind, run_underlying hD1, Result.andThen_ok]
  cases td <;> (try (exfalso; cases h; done))
  case arr n e =>
    have := tdOf_arr hD2; subst this
    simp only [Option.some.injEq] at h; subst h
    exact ⟨_, _, rfl, rfl, rfl⟩
  case slice e =>
    have := tdOf_slice hD2; subst this
    cases x <;> (try (exfalso; cases h; done))
    case nils =>
      simp only [Option.some.injEq] at h; subst h
      simp only [V] at hx; subst hx
      exact ⟨_, _, rfl, rfl, rfl⟩
    case slice b o n cap ex es =>
      simp only [Option.some.injEq] at h; subst h
      simp only [V] at hx
      obtain ⟨L, c, _, rfl, _, hcap, hex, _⟩ := hx
      refine ⟨_, _, rfl, rfl, ?_⟩
      cases ex
      · simp only [cond_false, V]; exact ⟨c, rfl, by omega⟩
      · simp only [cond_true, V, hex rfl]; rfl

theorem min_go {E : Env} : ∀ {l : List AV} {x a : AV} {vl : List Value} {vx : Value}, minA l x = some a → VL E l vl → V E x vx → ∀ w, ∃ v, (vl.foldlM Builtin.min2 vx).run P w = .ok v w ∧ V E a v
  | [], x, a, vl, vx, h, hl, hx, w => by
    simp only [minA, Option.some.injEq] at h; subst h
    simp only [VL] at hl; subst hl
    exact ⟨vx, rfl, hx⟩
  | y :: l, x, a, vl, vx, h, hl, hx, w => by
    simp only [VL] at hl
    obtain ⟨vy, vl', rfl, hy, hl'⟩ := hl
    cases y <;> cases x <;> simp only [minA, reduceCtorEq] at h
    rename_i k y k' x
    cases hk : decide (k = k') <;> simp only [hk, cond_true, cond_false, reduceCtorEq] at h
    rw [decide_eq_true_eq] at hk; subst hk
    rw [V_int hx, V_int hy]
    obtain ⟨v, h1, h2⟩ := min_go h hl' (E := E) (vx := .int k (if y < x then y else x)) rfl w
    refine ⟨v, ?_, h2⟩
    simp only [List.foldlM_cons, Sem.run_bind, Builtin.min2, Sem.run_pure, Result.andThen_ok]
    exact h1

theorem max_go {E : Env} : ∀ {l : List AV} {x a : AV} {vl : List Value} {vx : Value}, maxA l x = some a → VL E l vl → V E x vx → ∀ w, ∃ v, (vl.foldlM Builtin.max2 vx).run P w = .ok v w ∧ V E a v
  | [], x, a, vl, vx, h, hl, hx, w => by
    simp only [maxA, Option.some.injEq] at h; subst h
    simp only [VL] at hl; subst hl
    exact ⟨vx, rfl, hx⟩
  | y :: l, x, a, vl, vx, h, hl, hx, w => by
    simp only [VL] at hl
    obtain ⟨vy, vl', rfl, hy, hl'⟩ := hl
    cases y <;> cases x <;> simp only [maxA, reduceCtorEq] at h
    rename_i k y k' x
    cases hk : decide (k = k') <;> simp only [hk, cond_true, cond_false, reduceCtorEq] at h
    rw [decide_eq_true_eq] at hk; subst hk
    rw [V_int hx, V_int hy]
    obtain ⟨v, h1, h2⟩ := max_go h hl' (E := E) (vx := .int k (if x < y then y else x)) rfl w
    refine ⟨v, ?_, h2⟩
    simp only [List.foldlM_cons, Sem.run_bind, Builtin.max2, Sem.run_pure, Result.andThen_ok]
    exact h1

theorem liesAt_row {e : TypeId} (hc : P.cellsOf e = 1) (count off n : Nat) (hn : off + n ≤ count) : liesAt P P.depth e count off e n = true := by
  have hd : P.depth = (2 * (P.types.size + Made.depth) + 1) + 1 := rfl
  rw [hd]
  simp only [liesAt, Bool.or_eq_true]
  left
  rw [hd]
  simp [rowAt, hc, hn, sameLayout, Nat.mod_one]

theorem loadBytes_run {w : World} {b : Nat} {c : Array Value} {e : TypeId} {fr : Nat × Nat} (h : w.heap[b]? = some (.cells c e fr)) : ∀ (l : List Nat) (off : Nat) (acc : ByteArray), (∀ b ∈ l, b < 256) → (∀ (j x : Nat), l[j]? = some x → c[off + j]? = some (.int .u8 (x : Int))) →
    ∃ s, (loadBytes ⟨b, off, none⟩ acc l.length).run P w = .ok s w ∧ nats s = nats acc ++ l
  | [], off, acc, _, _ => ⟨acc, rfl, by simp⟩
  | x :: l, off, acc, hb, hc => by
    have h0 : w.cell? ⟨b, off, none⟩ = some (.int .u8 (x : Int)) := by rw [cell_of h]; simpa using hc 0 x rfl
    obtain ⟨s, h1, h2⟩ := loadBytes_run h l (off + 1) (acc.push ((x : Int).toNat).toUInt8) (fun b hb' => hb b (by simp [hb'])) (fun j y hj => by
      have := hc (j + 1) y (by simpa using hj)
      rw [show off + 1 + j = off + (j + 1) by omega]; exact this)
    refine ⟨s, ?_, ?_⟩
    · simp only [List.length_cons, loadBytes, Sem.run_bind, run_load, h0, Result.andThen_ok, Addr.add_none]
      exact h1
    · rw [h2]
      have hx := hb x (by simp)
      simp only [nats, ByteArray.push, Array.toList_push, List.map_append, List.map_cons, List.map_nil, List.append_assoc, List.singleton_append, Int.toNat_natCast]
      congr 2
      simp; omega


theorem strFrz_ok {z z' : Frz} {n m : Nat} {L : Loc} {fr : Nat × Nat} (h : strFrz z n = some z') (hz : frzR z L m fr) :
    frzR z' L m (if fr.1 == fr.2 then (L.sh, L.sh + n) else (min fr.1 L.sh, max fr.2 (L.sh + n))) := by
  cases z <;> simp only [strFrz, reduceCtorEq, Option.some.injEq] at h
  case no =>
    subst h
    simp only [frzR] at hz ⊢
    simp only [hz, beq_self_eq_true, if_true]
    right; simp
  case range lo hi =>
    rw [beq_nat] at h
    by_cases hlo : lo = 0
    · subst hlo
      simp only [decide_true, cond_true, Option.some.injEq] at h
      subst h
      simp only [frzR] at hz ⊢
      have hmax : (bif Nat.ble hi n then n else hi) = max hi n := by
        cases hb : Nat.ble hi n
        · have : ¬ hi ≤ n := by rw [← Nat.ble_eq, hb]; simp
          simp only [cond_false]; omega
        · have : hi ≤ n := by rw [← Nat.ble_eq, hb]
          simp only [cond_true]; omega
      rw [hmax]
      by_cases he : fr.1 = fr.2
      · simp only [he, beq_self_eq_true, if_true]; right; (try simp only); omega
      · rw [if_neg (by simpa using he)]
        right; (try simp only); omega
    · simp [hlo] at h

theorem freeze_cells {w : World} {b off n : Nat} {c : Array Value} {e : TypeId} {fr : Nat × Nat} (h : w.heap[b]? = some (.cells c e fr)) (hn : n ≠ 0) :
    (w.freeze ⟨b, off, none⟩ n).heap[b]? = some (.cells c e (if fr.1 == fr.2 then (off, off + n) else (min fr.1 off, max fr.2 (off + n)))) ∧ (w.freeze ⟨b, off, none⟩ n).heap.size = w.heap.size ∧
      (∀ i, i ≠ b → (w.freeze ⟨b, off, none⟩ n).heap[i]? = w.heap[i]?) ∧ (w.freeze ⟨b, off, none⟩ n).os = w.os ∧ (w.freeze ⟨b, off, none⟩ n).tape = w.tape ∧ (w.freeze ⟨b, off, none⟩ n).output = w.output := by
  unfold World.freeze
  rw [if_neg hn]
  refine ⟨?_, by simp, fun i hi => ?_, rfl, rfl, rfl⟩
  · simp only [Array.getElem?_modify, if_true, h, Option.map_some]
  · simp only [Array.getElem?_modify]
    rw [if_neg (Ne.symm hi)]

theorem unbytes_get : ∀ {cs : List AV} {s : List Nat}, unbytes cs = some s → s.length = cs.length ∧ (∀ b ∈ s, b < 256) ∧ ∀ (j x : Nat), s[j]? = some x → cs[j]? = some (.int .u8 (Int.ofNat x))
  | [], s, h => by
    simp only [unbytes, Option.some.injEq] at h; subst h; simp
  | c :: cs, s, h => by
    unfold unbytes at h
    split at h
    · rename_i heq; cases heq
    · rename_i n l heq
      simp only [List.cons.injEq] at heq
      obtain ⟨rfl, rfl⟩ := heq
      cases hb : Nat.blt n 256 <;> simp only [hb, cond_true, cond_false, reduceCtorEq, Option.map_eq_some_iff] at h
      obtain ⟨s', h3, rfl⟩ := h
      obtain ⟨h4, h5, h6⟩ := unbytes_get h3
      rw [Nat.blt_eq] at hb
      refine ⟨by simp [h4], ?_, fun j x hj => ?_⟩
      · intro b hb'
        rcases List.mem_cons.1 hb' with rfl | hb'
        · exact hb
        · exact h5 b hb'
      · cases j with
        | zero => simp at hj; subst hj; rfl
        | succ j => simpa using h6 j x (by simpa using hj)
    · cases h

theorem unsafeString_run (ht : TOk P B) (hc1 : ∀ t, sz B t = some 1 → P.cellsOf t = 1) {E : Env} {A : AW} {w : World} (hr : Rel G E A.heap.get w) {ty : TypeId} {ts : Array TypeId} {p n : AV} {vp vn : Value} {r : OR} (hp : V E p vp) (hn : V E n vn)
    (h : builtinA B A .unsafeString ts ty [p, n] = some r) : ∃ a A', r = .val a A' ∧ Val P G E A w (Builtin.unsafeString_ ts ty #[vp, vn]) a A' := by
  unfold builtinA at h
  cases n <;> (try (exfalso; cases h; done))
  rename_i k i
  cases k <;> (try (exfalso; cases h; done))
  cases i <;> (try (exfalso; cases h; done))
  rename_i n'
  rw [V_int hn]
  cases h0 : ts[0]? with
  | none => simp [h0] at h
  | some pt =>
  simp only [h0] at h
  have hmax : IntKind.i64.max = 9223372036854775807 := rfl
  cases p <;> (try (exfalso; cases h; done))
  case nilp =>
    simp only [V] at hp; subst hp
    rw [beq_nat] at h
    by_cases hz : n' = 0
    · subst hz
      simp only [decide_true, cond_true, Option.some.injEq] at h
      subst h
      refine ⟨_, _, rfl, Val.same hr (v' := .string .empty) ?_ ⟨_, rfl, rfl⟩⟩
      have hdef : Builtin.unsafeString_ ts ty #[.pointer none, .int .i64 0] =
          (do
            let n ← asInt (.int .i64 0)
            let some pt := ts[0]? | stuck "unsafe.String: no argument types"
            if n < 0 then runtimePanic (.error "unsafe.String: len out of range")
            if n > IntKind.i64.max then unsupported (.unsafePointer "String: a length above the largest int")
            if n = 0 then pure (.string .empty)
            else runtimePanic (.error "unsafe.String: ptr is nil and len is not zero")) := rfl
      show (Builtin.unsafeString_ ts ty #[.pointer none, .int .i64 0]).run P w = _
      rw [hdef]
      simp [asInt, asIntOf, hmax, h0]
    · simp [hz] at h
  case ptr b o =>
    simp only [V] at hp
    obtain ⟨L, hL, rfl⟩ := hp
    rw [beq_nat] at h
    have hdef : ∀ k : Nat, Builtin.unsafeString_ ts ty #[.pointer (some ⟨L.blk, L.sh + o, none⟩), .int .i64 (k : Int)] =
          (do
            let n ← asInt (.int .i64 (k : Int))
            let some pt := ts[0]? | stuck "unsafe.String: no argument types"
            if n < 0 then runtimePanic (.error "unsafe.String: len out of range")
            if n > IntKind.i64.max then unsupported (.unsafePointer "String: a length above the largest int")
            if n = 0 then pure (.string .empty)
            else if ← variablesAt ⟨L.blk, L.sh + o, none⟩ (← elemOf pt) n.toNat then do
              let s ← loadBytes ⟨L.blk, L.sh + o, none⟩ .empty n.toNat
              freeze ⟨L.blk, L.sh + o, none⟩ n.toNat
              pure (.string s)
            else unsupported (.unsafePointer "String: not so many bytes at ptr")) := fun _ => rfl
    by_cases hz : n' = 0
    · subst hz
      simp only [decide_true, cond_true, Option.some.injEq] at h
      subst h
      refine ⟨_, _, rfl, Val.same hr (v' := .string .empty) ?_ ⟨_, rfl, rfl⟩⟩
      have := hdef 0
      show (Builtin.unsafeString_ ts ty #[.pointer (some ⟨L.blk, L.sh + o, none⟩), .int .i64 ((0 : Nat) : Int)]).run P w = _
      rw [this]
      simp [asInt, asIntOf, hmax, h0]
    · simp only [decide_eq_false hz, cond_false] at h
      cases hu : und B pt with
      | none => simp [hu] at h
      | some td =>
      cases hb : A.heap.get b with
      | none => cases td <;> simp [hu, hb] at h
      | some ob =>
      simp only [hu, hb] at h
      cases td <;> cases ob <;> (try (exfalso; cases h; done))
      rename_i u c e z x
      obtain ⟨D, hD1, hD2⟩ := und_ok ht hu
      have := tdOf_ptr hD2; subst this
      cases hs : sz B u with
      | none => simp [hs] at h
      | some s =>
      simp only [hs, beq_nat] at h
      cases hck : (decide (e = u) && decide (s = 1) && decide (o = 0) && Nat.blt n' bound) <;> simp only [hck, cond_true, cond_false, reduceCtorEq] at h
      simp only [Bool.and_eq_true, decide_eq_true_eq, Nat.blt_eq] at hck
      obtain ⟨⟨⟨rfl, rfl⟩, rfl⟩, hnb⟩ := hck
      cases hld : ldCells A b 0 n' with
      | none => simp [hld] at h
      | some cs =>
      cases hub : unbytes cs with
      | none => simp [hld, hub] at h
      | some s =>
      cases hz' : strFrz z n' with
      | none => simp [hld, hub, hz'] at h
      | some z' =>
      simp only [hld, hub, hz', Option.some.injEq] at h
      subst h
      obtain ⟨c', fr, h1, h2, h3, h4, h5, h6⟩ := hr.obj b _ L hb hL
      unfold ldCells at hld
      simp only [hb, tke_eq, drp_eq, len_eq, beq_nat, List.drop_zero] at hld
      cases hll : decide ((c.take n').length = n') <;> simp only [hll, cond_true, cond_false, reduceCtorEq, Option.some.injEq] at hld
      simp only [decide_eq_true_eq, List.length_take] at hll
      subst hld
      have hcells : ∀ (j x : Nat), s[j]? = some x → c'[L.sh + j]? = some (.int .u8 (x : Int)) := fun j x hj => by
        have hlt := (List.getElem?_eq_some_iff.1 hj).1
        have hq := (unbytes_get hub).2.2 j x hj
        rw [List.getElem?_take_of_lt (by have := (unbytes_get hub).1; rw [List.length_take] at this; omega)] at hq
        obtain ⟨v, q1, q2⟩ := h5 j _ hq
        rw [q1, V_int q2]; rfl
      have hslen : s.length = n' := by rw [(unbytes_get hub).1, List.length_take]; exact hll
      have hs256 : ∀ b ∈ s, b < 256 := (unbytes_get hub).2.1
      obtain ⟨str, g1, g2⟩ := loadBytes_run (P := P) h1 s L.sh .empty hs256 hcells
      obtain ⟨f1, f2, f3, f4, f5, f6⟩ := freeze_cells (off := L.sh) h1 hz
      refine ⟨_, _, rfl, .string str, w.freeze ⟨L.blk, L.sh, none⟩ n', E, ?_, Stp.put hr hb (by simp) hL f2 f3 f4 f5 f6 ?_, ⟨str, rfl, by rw [g2]; rfl⟩⟩
      · have hlies := liesAt_row (P := P) (hc1 e hs) (c'.size / P.cellsOf e) L.sh n' (by rw [hc1 e hs]; simp; omega)
        have hpos : ¬ (9223372036854775807 : Int) < (n' : Int) := by unfold bound at hnb; omega
        have hneg : ¬ ((n' : Int) < 0) := by omega
        show (Builtin.unsafeString_ ts ty #[.pointer (some ⟨L.blk, L.sh + 0, none⟩), .int .i64 (n' : Int)]).run P w = _
        rw [hdef n']
        rw [hslen] at g1
        simp [asInt, asIntOf, hmax, h0, hpos, hneg, hz, elemOf, run_underlying hD1, variablesAt, World.shape?, h1, hlies, g1]
      · exact ⟨c', _, f1, h2, h3, h4, h5, strFrz_ok hz' h6⟩
end Go.Ax
namespace Go.Ax
open Go
variable {P : Program} {B : Tb} {G : Nat}

theorem cellsOf_ok (ht : TOk P B) {t : TypeId} {n : Nat} (h : sz B t = some n) : P.cellsOf t = n := by
  unfold sz at h
  cases hi : B.T t with
  | none => simp [hi] at h
  | some i =>
    simp only [hi, Option.some.injEq] at h
    obtain ⟨ti, D, v, h1, h2, h3, h4, _⟩ := ht.T t i hi
    simp [Program.cellsOf, h1, h4, h]

theorem newVar_run {E : Env} {A : AW} {w : World} (hr : Rel G E A.heap.get w) (hf : Free E A.next (A.next + 1)) {a : AV} {v : Value} (hv : V E a v) (hj : a ≠ .junk) (e : TypeId) {m : Sem Value}
    (hm : m.run P w = .ok (.pointer (some ⟨w.heap.size, 0, none⟩)) (w.alloc (.cells v.cells e))) : Val P G E A w m (.ptr A.next 0) (A.new (.cells a.cells e .no true)) := by
  have := cells_new hr hf (V_cells hv hj) e
  rw [Array.toArray_toList] at this
  exact ⟨_, _, _, hm, this, by simp only [V]; exact ⟨_, Env.bind_self _ _ _, rfl⟩⟩

theorem alloc_run (ht : TOk P B) {E : Env} {A : AW} {w : World} (hr : Rel G E A.heap.get w) (hf : Free E A.next (A.next + 1)) {e : TypeId} {z : AV} (hz : zeroA B e = some z) :
    Val P G E A w (Instr.alloc e true (.tuple #[])) (.ptr A.next 0) (A.new (.cells z.cells e .no true)) := by
  obtain ⟨zv, z1, z2, z3⟩ := zero_ok (P := P) ht hz
  refine newVar_run hr hf (z2 E) (by rintro rfl; exact absV_nj z3) e ?_
  simp [Instr.alloc, z1, newVar, newRow]

theorem allSimple_nj {a : AV} (h : allSimple a.cells = true) : a ≠ .junk := by rintro rfl; simp [AV.cells, allSimple, simple] at h

theorem box_run {E : Env} {A : AW} {w : World} (hr : Rel G E A.heap.get w) (hf : Free E A.next (A.next + 1)) {e : TypeId} {a : AV} {v : Value} (hv : V E a v) (hs : allSimple a.cells = true) :
    Val P G E A w (Instr.box e v) (.ptr A.next 0) (A.new (.cells a.cells e .no true)) :=
  newVar_run hr hf hv (allSimple_nj hs) e (by simp [Instr.box, newVar, newRow])

theorem makeMap_run {E : Env} {A : AW} {w : World} (hr : Rel G E A.heap.get w) (hf : Free E A.next (A.next + 1)) {m : Sem Value} (hm : m.run P w = .ok (.map (some w.heap.size)) (w.alloc (.map #[] 0))) :
    Val P G E A w m (.map A.next) (A.new (.map [] 0)) :=
  Val.made hr hf (.map [] 0) (.map #[] 0) 0 (by simp only [ObjR]; exact ⟨#[], alloc_self _ _, rfl, fun i e he => by simp at he⟩) hm (by simp only [V]; exact ⟨_, Env.bind_self _ _ _, rfl⟩)

theorem makeSlice_run (ht : TOk P B) {E : Env} {A A' : AW} {w : World} (hr : Rel G E A.heap.get w) {t : TypeId} {e : TypeId} {n m s wd : Nat} {z : AV} {kl kc : IntKind} (hS : und B t = some (.slice e))
    (hs : sz B e = some s) (hz : zeroA B e = some z) (hw : wid B e = some wd) (hnm : n ≤ m) (hms : m * (s + 64) ≤ 65536) (hzl : z.cells.length = s) (hw4 : wd ≤ 4096) (hf : Free E A.next (A.next + 1)) :
    Val P G E A w (Instr.makeSlice t (.int kl (n : Int)) (.int kc (m : Int))) (.slice A.next 0 n m true s) (A.new (.cells (repl m z.cells) e .no true)) := by
  obtain ⟨D, hD1, hD2⟩ := und_ok ht hS
  have := tdOf_slice hD2; subst this
  obtain ⟨zv, z1, z2, z3⟩ := zero_ok (P := P) ht hz
  have hzc := V_cells (z2 E) (by rintro rfl; exact absV_nj z3)
  have hm1 : m ≤ 1024 := by
    have : m * 64 ≤ m * (s + 64) := Nat.mul_le_mul_left _ (by omega)
    omega
  obtain ⟨ti, k1, k2⟩ := wid_ok (P := P) ht hw w
  have hwr : ∀ k : Nat, k ≤ 1024 → IntKind.i64.wrap (k : Int) = (k : Int) := fun k hk => by
    have h1 : (k : Int) % 2 ^ 64 = k := by omega
    have h2 : ¬ ((k : Int) ≥ 2 ^ (64 - 1)) := by omega
    simp only [IntKind.wrap, IntKind.signed, IntKind.bits, h1, decide_eq_false h2, Bool.and_false, Bool.false_eq_true, if_false]
  have hz0 : VL E (repl m z.cells) ((Array.range (m * s)).map (zv.cells[· % zv.cells.size]!)).toList := repl_VL hzc m (m * s) (by rw [hzl])
  have hz0' : VL E (repl m z.cells) ((Array.range (m * s)).map ((if m * s = 0 then #[] else zv.cells)[· % (if m * s = 0 then (#[] : Array Value) else zv.cells).size]!)).toList := by
    by_cases e0 : m * s = 0
    · rw [if_pos e0]
      rw [e0] at hz0 ⊢
      simpa using hz0
    · simpa only [if_neg e0] using hz0
  have hst := cells_new (G := G) hr hf hz0' e
  refine ⟨.slice (some ⟨w.heap.size, 0, none⟩) n m, _, _, ?_, hst, ?_⟩
  · have hbig : ¬ ((281474976710656 : Int) < (wd : Int) * (m : Int)) := by
      have : wd * m ≤ 4096 * 1024 := Nat.mul_le_mul hw4 hm1
      have h2 : (wd : Int) * (m : Int) = ((wd * m : Nat) : Int) := by simp
      rw [h2]; omega
    have hm0 : ¬ ((m : Int) < 0) := by omega
    have hn0 : ¬ ((n : Int) < 0) := by omega
    have hnm' : ¬ ((m : Int) < (n : Int)) := by omega
    unfold Instr.makeSlice
    simp only [Sem.run_bind, run_underlying hD1, Result.andThen_ok, asInt, asIntOf, Sem.run_pure, k1, k2, hwr n (by omega), hwr m hm1]
    simp [hbig, hm0, hn0, hnm', sz_ok ht hs]
    by_cases e0 : m * s = 0
    · simp [e0, newRow]; congr 2; apply Array.ext'; simp
    · simp [e0, newRow, z1]; congr 2; apply Array.ext'; simp
  · simp only [V]
    refine ⟨_, m, Env.bind_self _ _ _, rfl, hnm, Nat.le_refl _, fun _ => rfl, ?_⟩
    simp

theorem extract_run {E : Env} {vs : List AV} {a : AV} {i : Nat} {v : Value} (hv : V E (.tup vs) v) (h : nth vs i = some a) (w : World) : ∃ v', (Instr.extract v i).run P w = .ok v' w ∧ V E a v' := by
  simp only [V] at hv
  obtain ⟨us, rfl, hu⟩ := hv
  rw [nth_eq] at h
  obtain ⟨u, h1, h2⟩ := (VL_iff.1 hu).2 i a h
  refine ⟨u, ?_, h2⟩
  rw [Array.getElem?_toList] at h1
  simp [Instr.extract, h1]
end Go.Ax
namespace Go.Ax
open Go
variable {P : Program} {B : Tb} {G : Nat}

/-- What a function without a body of its own is. -/
def XSem (P : Program) (fn : Func) : Ext → Prop
  | .same => Extern.find fn = some Extern.AbiNoEscape.same
  | .indexByte => Extern.find fn = some Extern.BytealgIndexByte.indexByte
  | .count => Extern.find fn = some Extern.BytealgCount.count
  | .noZero e => ∃ t, fn.resultTypes[0]? = some t ∧ P.underlying t = some (.slice e) ∧ Extern.find fn = some (Extern.BytealgMakeNoZero.makeNoZero fn.params fn.resultTypes)
  | .load k => Extern.find fn = some (Extern.Atomic.loadT (.int k))
  | .store => Extern.find fn = some Extern.Atomic.storeT
  | .cas k => Extern.find fn = some (Extern.Atomic.casT (.int k))
  | .add k => Extern.find fn = some (Extern.Atomic.update (Op.intArith .add) k true)
  | .mark => ∃ m, Extern.find fn = some (fun _ => do mark m; pure Extern.Race.none_)
  | .markAt => ∃ m, Extern.find fn = some (Extern.Race.marked m)

structure XOk (P : Program) (B : Tb) : Prop where
  X : ∀ f x, B.X f = some x → ∃ fn, P.funcs[f]? = some fn ∧ (fn.name == "runtime.NumGoroutine") = false ∧ fn.body = none ∧ Extern.findNext fn = none ∧ XSem P fn x

theorem u8_beq {x : UInt8} {c : Nat} (h : c < 256) : (x == UInt8.ofNat c) = decide (x.toNat = c) := by
  rw [Bool.eq_iff_iff]
  simp only [beq_iff_eq, decide_eq_true_eq]
  constructor
  · rintro rfl; simp; omega
  · rintro rfl; simp

theorem byteAt_ok {c : Nat} (hc : c < 256) : ∀ (l : List UInt8) (i : Nat), byteAt c (l.map UInt8.toNat) i = if Lib.indexByte l (UInt8.ofNat c) = -1 then -1 else (i : Int) + Lib.indexByte l (UInt8.ofNat c)
  | [], i => rfl
  | x :: l, i => by
    have ih := byteAt_ok hc l (i + 1)
    have hge := Lib.indexByte_ge l (UInt8.ofNat c)
    simp only [List.map_cons, byteAt, beq_nat, Lib.indexByte, u8_beq hc]
    by_cases e : x.toNat = c
    · simp [e]
    · simp only [decide_eq_false e, cond_false, ih, Bool.false_eq_true, if_false]
      by_cases h1 : Lib.indexByte l (UInt8.ofNat c) = -1
      · simp [h1]
      · have : (Lib.indexByte l (UInt8.ofNat c) == -1) = false := by simpa using h1
        rw [this]
        simp only [Bool.false_eq_true, if_false, h1]
        rw [if_neg (by omega)]
        push_cast; omega

theorem byteAt_eq {c : Nat} (hc : c < 256) (s : ByteArray) : byteAt c (nats s) 0 = firstIdx s (UInt8.ofNat c) := by
  rw [Lib.firstIdx_eq]
  have := byteAt_ok hc s.data.toList 0
  unfold nats
  rw [this]
  split
  · rename_i h; rw [h]
  · simp

theorem countA_eq {c : Nat} (hc : c < 256) : ∀ (l : List UInt8), countA c (l.map UInt8.toNat) = Lib.countByte l (UInt8.ofNat c)
  | [] => rfl
  | x :: l => by
    have ih := countA_eq hc l
    simp only [Lib.countByte] at ih ⊢
    simp only [List.map_cons, countA, beq_nat, List.count_cons, u8_beq hc, ih]
    by_cases e : x.toNat = c <;> simp [e]

theorem Rel.load_at {E : Env} {A : AW} {w : World} (hr : Rel G E A.heap.get w) {b o : Nat} {L : Loc} (hL : E b = some L) {c : List AV} {e : TypeId} {z : Frz} {all : Bool} (hb : A.heap.get b = some (.cells c e z all)) {a : AV} (h : nth c o = some a) (m : Mode) :
    ∃ v, (load ⟨L.blk, L.sh + o, none⟩ m).run P w = .ok v w ∧ V E a v := by
  obtain ⟨c', fr, h1, h2, h3, h4, h5, h6⟩ := hr.obj b _ L hb hL
  rw [nth_eq] at h
  obtain ⟨v, k1, k2⟩ := h5 o a h
  exact ⟨v, by rw [run_load, cell_of h1, k1], k2⟩

theorem store_at {E : Env} {A A' : AW} {w : World} (hr : Rel G E A.heap.get w) {b o : Nat} {L : Loc} (hL : E b = some L) {a : AV} {v : Value} (hv : V E a v) (h : stCells A b o [a] = some A') :
    ∃ w', (∀ m, (store ⟨L.blk, L.sh + o, none⟩ v m).run P w = .ok () w') ∧ Stp G E A.heap.get w E A'.heap.get w' A.next A'.next := by
  obtain ⟨w', h1, h2⟩ := stCells_ok (P := P) hr hL (as := [a]) (vs := [v]) ⟨v, [], rfl, hv, rfl⟩ h
  refine ⟨w', fun m => ?_, h2⟩
  have hs : allSimple [a] = true := by
    unfold stCells at h
    cases hb : A.heap.get b with
    | none => simp [hb] at h
    | some ob =>
      cases ob <;> simp only [hb, reduceCtorEq] at h
      rename_i c e z x
      cases hc : (Nat.ble (o + len [a]) (len c) && thaw z o (len [a]) && allSimple [a]) <;> simp only [hc, cond_false, cond_true, reduceCtorEq] at h
      simp only [Bool.and_eq_true] at hc
      exact hc.2
  have hone := allSimple_one hs (as := [a]) (vs := [v]) ⟨v, [], rfl, hv, rfl⟩ v (by simp)
  have hlv : ∃ u, w.cell? ⟨L.blk, L.sh + o, none⟩ = some u := by
    unfold stCells at h
    cases hb : A.heap.get b with
    | none => simp [hb] at h
    | some ob =>
      cases ob <;> simp only [hb, reduceCtorEq] at h
      rename_i c e z x
      cases hc : (Nat.ble (o + len [a]) (len c) && thaw z o (len [a]) && allSimple [a]) <;> simp only [hc, cond_false, cond_true, reduceCtorEq] at h
      simp only [Bool.and_eq_true, Nat.ble_eq, len_eq, List.length_singleton] at hc
      obtain ⟨c', fr, k1, k2, k3, k4, k5, k6⟩ := hr.obj b _ L hb hL
      exact ⟨_, by rw [cell_of k1, Array.getElem?_eq_getElem (by omega)]⟩
  obtain ⟨u, hu⟩ := hlv
  simp only [storeCells, Addr.add_none, Nat.add_zero, Sem.run_bind, Sem.run_pure] at h1
  rw [run_store P w _ v .plain hone, hu] at h1
  rw [run_store P w _ v m hone, hu]
  simp only at h1 ⊢
  split at h1
  · simp at h1
  · rename_i hfz
    rw [if_neg hfz]
    simpa using h1

theorem loadT_eq (t : Extern.Atomic.T) (a : Value) : Extern.Atomic.loadT t #[a] = (do Extern.Atomic.read t (← asAddr a)) := rfl
theorem storeT_eq (a v : Value) : Extern.Atomic.storeT #[a, v] = (do store (← asAddr a) v .atomic; pure Extern.Race.none_) := rfl
theorem casT_eq (t : Extern.Atomic.T) (addr old new : Value) : Extern.Atomic.casT t #[addr, old, new] = (do
    let a ← asAddr addr
    if ← Extern.Atomic.touchesFrozen a then unsupported (.unsafePointer "a write to bytes that a string shares")
    let eq ← match t, ← Extern.Atomic.read t a, old with
      | _, .int _ x, .int _ y => pure (x == y)
      | .ptr, .pointer x, .pointer y => samePointer x y
      | .int _, .pointer (some _), .int _ 0 | .int _, .int _ 0, .pointer (some _) => pure false
      | .int _, .pointer (some _), _ | .int _, _, .pointer (some _) => unsupported .addressObserved
      | _, _, _ => stuck "atomic.CompareAndSwap: old is no T"
    if eq then store a new .atomic
    pure (.bool eq)) := rfl
theorem update_eq (op : IntKind → Int → Int → Sem Value) (k : IntKind) (b : Bool) (addr y : Value) : Extern.Atomic.update op k b #[addr, y] = (do
    let a ← asAddr addr
    let old ← Extern.Atomic.read (.int k) a
    let new ← op k (← asInt old) (← asInt y)
    store a new .atomic
    pure (if b then new else old)) := rfl

theorem inv_indexByte {A : AW} {as : List AV} {r : AV × AW} (h : extA A .indexByte as = some r) : ∃ s c, as = [.str s, .int .u8 (.ofNat c)] ∧ c < 256 ∧ r = (.int .i64 (byteAt c s 0), A) := by
  unfold extA at h
  split at h <;> first | contradiction | (rename_i e1; cases e1; done) | skip
  · rename_i s c heq
    cases heq
    cases hb : Nat.blt c 256 <;> simp only [hb, cond_true, cond_false, reduceCtorEq, Option.some.injEq] at h
    rw [Nat.blt_eq] at hb
    exact ⟨s, c, rfl, hb, h.symm⟩
theorem inv_noZero {A : AW} {as : List AV} {e : TypeId} {r : AV × AW} (h : extA A (.noZero e) as = some r) : ∃ n, as = [.int .i64 (.ofNat n)] ∧ n < 65536 ∧ r = (.slice A.next 0 n n false 1, A.new (.cells (repl n [.junk]) e .no false)) := by
  unfold extA at h
  split at h <;> first | contradiction | (rename_i e1; cases e1; done) | skip
  · rename_i n heq
    cases heq
    cases hb : Nat.blt n 65536 <;> simp only [hb, cond_true, cond_false, reduceCtorEq, Option.some.injEq] at h
    rw [Nat.blt_eq] at hb
    exact ⟨n, rfl, hb, h.symm⟩

theorem inv_count {A : AW} {as : List AV} {r : AV × AW} (h : extA A .count as = some r) : ∃ s c, as = [.str s, .int .u8 (.ofNat c)] ∧ c < 256 ∧ r = (.int .i64 (Int.ofNat (countA c s)), A) := by
  unfold extA at h
  split at h <;> first | contradiction | (rename_i e1; cases e1; done) | skip
  · rename_i s c heq
    cases heq
    cases hb : Nat.blt c 256 <;> simp only [hb, cond_true, cond_false, reduceCtorEq, Option.some.injEq] at h
    rw [Nat.blt_eq] at hb
    exact ⟨s, c, rfl, hb, h.symm⟩
theorem inv_load {A : AW} {as : List AV} {k : IntKind} {r : AV × AW} (h : extA A (.load k) as = some r) : ∃ b o c e z x n, as = [.ptr b o] ∧ A.heap.get b = some (.cells c e z x) ∧ nth c o = some (.int k n) ∧ r = (.int k n, A) := by
  unfold extA at h
  split at h <;> first | contradiction | (rename_i e1; cases e1; done) | skip
  · rename_i k' b o heq
    cases heq
    split at h <;> first | contradiction | skip
    rename_i c e z x hb
    split at h <;> first | contradiction | skip
    rename_i k' n hn
    cases hk : decide (k = k') <;> simp only [hk, cond_true, cond_false, reduceCtorEq, Option.some.injEq] at h
    rw [decide_eq_true_eq] at hk; subst hk
    exact ⟨b, o, c, e, z, x, n, rfl, hb, hn, h.symm⟩
theorem inv_store {A : AW} {as : List AV} {r : AV × AW} (h : extA A .store as = some r) : ∃ b o k n A1, as = [.ptr b o, .int k n] ∧ stCells A b o [.int k n] = some A1 ∧ r = (.tup [], A1) := by
  unfold extA at h
  split at h <;> first | contradiction | (rename_i e1; cases e1; done) | skip
  · simp only [Option.map_eq_some_iff] at h
    obtain ⟨A1, h1, h2⟩ := h
    exact ⟨_, _, _, _, A1, rfl, h1, h2.symm⟩
theorem inv_cas {A : AW} {as : List AV} {k : IntKind} {r : AV × AW} (h : extA A (.cas k) as = some r) : ∃ b o k1 x k2 y c e z q n, as = [.ptr b o, .int k1 x, .int k2 y] ∧ A.heap.get b = some (.cells c e z q) ∧ nth c o = some (.int k n) ∧ thaw z o 1 = true ∧
    ((n = x ∧ ∃ A1, stCells A b o [.int k2 y] = some A1 ∧ r = (.bool true, A1)) ∨ (n ≠ x ∧ r = (.bool false, A))) := by
  unfold extA at h
  split at h <;> first | contradiction | (rename_i e1; cases e1; done) | skip
  · rename_i k' b o k1 x k2 y heq
    cases heq
    split at h <;> first | contradiction | skip
    rename_i c e z q hb
    split at h <;> first | contradiction | skip
    rename_i k' n hn
    cases hk : (decide (k = k') && thaw z o 1) <;> simp only [hk, cond_true, cond_false, reduceCtorEq] at h
    simp only [Bool.and_eq_true, decide_eq_true_eq] at hk
    obtain ⟨rfl, hth⟩ := hk
    refine ⟨b, o, k1, x, k2, y, c, e, z, q, n, rfl, hb, hn, hth, ?_⟩
    cases hx : (n == x) <;> simp only [hx, cond_true, cond_false, Option.map_eq_some_iff, Option.some.injEq] at h
    · exact .inr ⟨by simpa using hx, h.symm⟩
    · obtain ⟨A1, h1, h2⟩ := h
      exact .inl ⟨by simpa using hx, A1, h1, h2.symm⟩
theorem inv_add {A : AW} {as : List AV} {k : IntKind} {r : AV × AW} (h : extA A (.add k) as = some r) : ∃ b o k1 x c e z q n A1, as = [.ptr b o, .int k1 x] ∧ A.heap.get b = some (.cells c e z q) ∧ nth c o = some (.int k n) ∧
    stCells A b o [.int k (wr k (n + x))] = some A1 ∧ r = (.int k (wr k (n + x)), A1) := by
  unfold extA at h
  split at h <;> first | contradiction | (rename_i e1; cases e1; done) | skip
  · rename_i k' b o k1 x heq
    cases heq
    split at h <;> first | contradiction | skip
    rename_i c e z q hb
    split at h <;> first | contradiction | skip
    rename_i k' n hn
    cases hk : decide (k = k') <;> simp only [hk, cond_true, cond_false, reduceCtorEq, Option.map_eq_some_iff] at h
    rw [decide_eq_true_eq] at hk; subst hk
    obtain ⟨A1, h1, h2⟩ := h
    exact ⟨b, o, k1, x, c, e, z, q, n, A1, rfl, hb, hn, h1, h2.symm⟩

theorem ext_run {E : Env} {A A' : AW} {w : World} (hr : Rel G E A.heap.get w) {fn : Func} {x : Ext} (hx : XSem P fn x) {as : List AV} {vs : Array Value} (hv : VL E as vs.toList) {a : AV} (h : extA A x as = some (a, A')) (hf : Free E A.next A'.next) :
    ∃ e, Extern.find fn = some e ∧ Val P G E A w (e vs) a A' := by
  have htup : ∀ E, V E (.tup []) Extern.Race.none_ := fun E => by simp only [V]; exact ⟨_, rfl, rfl⟩
  have one : ∀ {a : AV}, VL E [a] vs.toList → ∃ v, vs = #[v] ∧ V E a v := fun h => by
    simp only [VL] at h
    obtain ⟨v, _, h1, h2, rfl⟩ := h
    exact ⟨v, by rw [← Array.toList_inj, h1], h2⟩
  have two : ∀ {a b : AV}, VL E [a, b] vs.toList → ∃ v u, vs = #[v, u] ∧ V E a v ∧ V E b u := fun h => by
    simp only [VL] at h
    obtain ⟨v, _, h1, h2, u, _, rfl, h3, rfl⟩ := h
    exact ⟨v, u, by rw [← Array.toList_inj, h1], h2, h3⟩
  have three : ∀ {a b c : AV}, VL E [a, b, c] vs.toList → ∃ v u t, vs = #[v, u, t] ∧ V E a v ∧ V E b u ∧ V E c t := fun h => by
    simp only [VL] at h
    obtain ⟨v, _, h1, h2, u, _, rfl, h3, t, _, rfl, h4, rfl⟩ := h
    exact ⟨v, u, t, by rw [← Array.toList_inj, h1], h2, h3, h4⟩
  cases x
  case same =>
    refine ⟨_, hx, ?_⟩
    rcases as with _ | ⟨a1, _ | ⟨a2, as⟩⟩ <;> (try (exfalso; cases h; done))
    simp only [extA, Option.some.injEq, Prod.mk.injEq] at h
    obtain ⟨rfl, rfl⟩ := h
    obtain ⟨v, rfl, h1⟩ := one hv
    exact Val.same hr rfl h1
  case indexByte =>
    refine ⟨_, hx, ?_⟩
    obtain ⟨s, c, rfl, hc, h2⟩ := inv_indexByte h
    cases h2
    obtain ⟨v, u, rfl, h1, h2⟩ := two hv
    obtain ⟨s', rfl, rfl⟩ := V_str h1
    rw [V_int h2]
    refine Val.same hr (run_indexByte_string s' _ w) ?_
    rw [byteAt_eq hc]
    simp [V]
  case count =>
    refine ⟨_, hx, ?_⟩
    obtain ⟨s, c, rfl, hc, h2⟩ := inv_count h
    cases h2
    obtain ⟨v, u, rfl, h1, h2⟩ := two hv
    obtain ⟨s', rfl, rfl⟩ := V_str h1
    rw [V_int h2]
    refine Val.same hr (Lib.run_countString s' _ w) ?_
    unfold nats
    rw [countA_eq hc]
    simp [V]
  case noZero e =>
    obtain ⟨t, ht0, ht1, hfd⟩ := hx
    refine ⟨_, hfd, ?_⟩
    obtain ⟨n, rfl, hn, h2⟩ := inv_noZero h
    cases h2
    obtain ⟨v, rfl, h1⟩ := one hv
    rw [V_int h1]
    let w1 : World := w.drew.drew
    have h0 := Stp.draw (w' := w1) hr A.next rfl rfl rfl rfl
    obtain ⟨bs, hbs⟩ : ∃ bs, (choose (.extern "internal/bytealg.MakeNoZero.bytes" 0)).run P w.drew = .ok bs w1 := ⟨_, rfl⟩
    have hch : (choose (Question.appendCap n 0 e)).run P w = .ok (grownCap w n 0 e) w.drew := rfl
    have hge := grownCap_ge w n 0 e
    have hsz := Lib.size_digits (grownCap w n 0 e) bs #[]
    obtain ⟨ds, hds⟩ : ∃ ds : List Value, (Extern.BytealgMakeNoZero.digits (grownCap w n 0 e) bs #[]) = ds.toArray := ⟨_, (Array.toArray_toList).symm⟩
    have hdl : ds.length = grownCap w n 0 e := by rw [hds] at hsz; simpa using hsz
    have hvl : VL E (repl n [.junk]) (ds.take n) := by
      refine VL_iff.2 ⟨by rw [repl_len]; simp; omega, fun i a hi => ?_⟩
      have hj : a = .junk := by
        obtain ⟨q, _⟩ := repl_get n i a hi
        have hm : a ∈ [AV.junk] := List.mem_of_getElem? q
        simpa using hm
      have hlt := (List.getElem?_eq_some_iff.1 hi).1
      rw [repl_len] at hlt
      simp only [List.length_singleton, Nat.mul_one] at hlt
      subst hj
      exact ⟨ds[i]'(by omega), by rw [List.getElem?_take_of_lt hlt, List.getElem?_eq_getElem (by omega)], trivial⟩
    have hst := cells_open (w := w1) (more := ds.drop n) h0.rel hf hvl e .no (.inl rfl) (0, 0) (fun _ => rfl) (fun h => by cases h)
    rw [List.take_append_drop] at hst
    refine ⟨.slice (some ⟨w.heap.size, 0, none⟩) n (grownCap w n 0 e), _, _, ?_, h0.trans hst, ?_⟩
    · have hno : ∀ (o : Obj) (w' : World), (newObj o).run P w' = .ok w'.heap.size (w'.alloc o) := fun _ _ => rfl
      have hdef : Extern.BytealgMakeNoZero.makeNoZero fn.params fn.resultTypes #[.int .i64 (n : Int)] = (do
          let some t := fn.resultTypes[0]? | stuck "bytealg.MakeNoZero: no result type"
          let .slice elem ← underlying t | stuck "bytealg.MakeNoZero: slice type expected"
          if (n : Int) < 0 || (n : Int) > 2 ^ 48 then runtimePanic (.error "makeslice: len out of range")
          let cap ← choose (.appendCap (n : Int).toNat 0 elem)
          askRoom cap
          let bytes ← choose (.extern "internal/bytealg.MakeNoZero.bytes" 0)
          let a ← newRow elem (Extern.BytealgMakeNoZero.digits cap bytes #[])
          pure (.slice (some a) (n : Int).toNat cap)) := rfl
      show (Extern.BytealgMakeNoZero.makeNoZero fn.params fn.resultTypes #[.int .i64 (n : Int)]).run P w = _
      rw [hdef]
      have hn0 : ¬ ((n : Int) < 0) := by omega
      have hn1 : ¬ ((n : Int) > 2 ^ 48) := by omega
      simp only [ht0, Sem.run_bind, run_underlying ht1, Result.andThen_ok, decide_eq_false hn0, decide_eq_false hn1, Bool.or_self, Bool.false_eq_true, if_false, Sem.run_pure, Int.toNat_natCast, hch, run_askRoom, hbs, newRow, hno, hds]
      rfl
    · simp only [V]
      refine ⟨_, _, Env.bind_self _ _ _, rfl, Nat.le_refl _, hge, fun hh => absurd hh (by simp), ?_⟩
      simp only [List.length_take, List.length_drop]; omega
  case load k =>
    refine ⟨_, hx, ?_⟩
    obtain ⟨b, o, c, e, z, x, n, rfl, hb, hn, h2⟩ := inv_load h
    cases h2
    obtain ⟨v, rfl, h1⟩ := one hv
    simp only [V] at h1
    obtain ⟨L, hL, rfl⟩ := h1
    obtain ⟨v, k1, k2⟩ := Rel.load_at (P := P) hr hL hb hn .atomic
    rw [V_int k2] at k1
    refine Val.same hr (v' := .int k n) ?_ rfl
    simp only [loadT_eq, asAddr, Sem.run_bind, Sem.run_pure, Result.andThen_ok, Extern.Atomic.read, k1, if_true]
  case store =>
    refine ⟨_, hx, ?_⟩
    obtain ⟨b, o, k, n, A1, rfl, h1, h2⟩ := inv_store h
    cases h2
    obtain ⟨v, u, rfl, h3, h4⟩ := two hv
    simp only [V] at h3
    obtain ⟨L, hL, rfl⟩ := h3
    obtain ⟨w', k1, k2⟩ := store_at (P := P) hr hL h4 h1
    exact ⟨_, w', E, by simp only [storeT_eq, asAddr, Sem.run_bind, Sem.run_pure, Result.andThen_ok, k1], k2, htup _⟩
  case cas k =>
    refine ⟨_, hx, ?_⟩
    obtain ⟨b, o, k1, x, k2, y, c, e, z, q, n, rfl, hb, hn, hth, h2⟩ := inv_cas h
    obtain ⟨v, u, t, rfl, h3, h4, h5⟩ := three hv
    simp only [V] at h3
    obtain ⟨L, hL, rfl⟩ := h3
    rw [V_int h4]
    obtain ⟨v, g1, g2⟩ := Rel.load_at (P := P) hr hL hb hn .atomic
    rw [V_int g2] at g1
    obtain ⟨c', fr, q1, q2, q3, q4, q5, q6⟩ := hr.obj b _ L hb hL
    have hview : (viewAt L.blk).run P w = .ok none w := by unfold viewAt; simp [World.shape?, q1]
    have hlt : o < c.length := by rw [nth_eq] at hn; exact (List.getElem?_eq_some_iff.1 hn).1
    have hfz : w.frozen? ⟨L.blk, L.sh + o, none⟩ = false := by
      rw [frozen_of q1]
      have := thaw_ok hth q6 (by omega) (L.sh + o) (Nat.le_refl _) (by omega)
      simp only [Bool.and_eq_false_iff, decide_eq_false_iff_not]
      by_cases x : fr.1 ≤ L.sh + o
      · exact .inr (fun y => this ⟨x, y⟩)
      · exact .inl x
    rcases h2 with ⟨rfl, A1, h6, h7⟩ | ⟨hne, h7⟩
    · cases h7
      obtain ⟨w', g3, g4⟩ := store_at (P := P) hr hL h5 h6
      refine ⟨.bool true, w', E, ?_, g4, rfl⟩
      simp only [casT_eq, asAddr, Sem.run_bind, Sem.run_pure, Result.andThen_ok, Extern.Atomic.touchesFrozen, hview, run_frozen, hfz, Bool.false_eq_true, if_false, Extern.Atomic.read, g1, if_true, beq_self_eq_true, g3]
    · cases h7
      refine Val.same hr (v' := .bool false) ?_ rfl
      have : (n == x) = false := by simpa using hne
      simp only [casT_eq, asAddr, Sem.run_bind, Sem.run_pure, Result.andThen_ok, Extern.Atomic.touchesFrozen, hview, run_frozen, hfz, Bool.false_eq_true, if_false, Extern.Atomic.read, g1, if_true, this]
  case add k =>
    refine ⟨_, hx, ?_⟩
    obtain ⟨b, o, k1, x, c, e, z, q, n, A1, rfl, hb, hn, h6, h2⟩ := inv_add h
    cases h2
    obtain ⟨v, u, rfl, h3, h4⟩ := two hv
    simp only [V] at h3
    obtain ⟨L, hL, rfl⟩ := h3
    rw [V_int h4]
    obtain ⟨v, g1, g2⟩ := Rel.load_at (P := P) hr hL hb hn .atomic
    rw [V_int g2] at g1
    obtain ⟨w', g3, g4⟩ := store_at (P := P) hr hL (v := .int k (k.wrap (n + x))) (show V E (.int k (wr k (n + x))) _ from rfl) h6
    refine ⟨.int k (k.wrap (n + x)), w', E, ?_, g4, rfl⟩
    simp only [update_eq, asAddr, Sem.run_bind, Sem.run_pure, Result.andThen_ok, Extern.Atomic.read, g1, if_true, asInt, asIntOf, Op.intArith, g3]
  case mark =>
    obtain ⟨m, hm⟩ := hx
    refine ⟨_, hm, ?_⟩
    have h' : some (AV.tup [], A) = some (a, A') := by
      rw [← h]; cases as <;> rfl
    simp only [Option.some.injEq, Prod.mk.injEq] at h'
    obtain ⟨rfl, rfl⟩ := h'
    exact Val.same hr (v' := Extern.Race.none_) (by simp) (htup _)
  case markAt =>
    obtain ⟨m, hm⟩ := hx
    refine ⟨_, hm, ?_⟩
    rcases as with _ | ⟨a1, as⟩ <;> (try (exfalso; cases h; done))
    cases a1 <;> (try (exfalso; cases h; done))
    rename_i b o
    simp only [extA, Option.some.injEq, Prod.mk.injEq] at h
    obtain ⟨rfl, rfl⟩ := h
    simp only [VL, V] at hv
    obtain ⟨v, vs', hvs, ⟨L, hL, rfl⟩, _⟩ := hv
    have h0 : vs[0]? = some (.pointer (some ⟨L.blk, L.sh + o, none⟩)) := by rw [← Array.getElem?_toList, hvs]; rfl
    exact Val.same hr (v' := Extern.Race.none_) (by simp [Extern.Race.marked, Extern.Race.at_, h0]) (htup _)
end Go.Ax
namespace Go.Ax
open Go
variable {P : Program} {B : Tb} {G : Nat}

/-- What the methods are. -/
structure MOk (P : Program) (B : Tb) : Prop where
  M : ∀ t name f, B.M t name = some f → ∀ v w, (method (P.types.size + Made.depth) t v name).run P w = .ok (f, v) w
  N : ∀ t name f, B.M t name = some f → ∀ v w, (nilAhead (P.types.size + Made.depth) t v name).run P w = .ok (some false) w
  F : ∀ f fn, B.F f = some fn → P.funcs[f]? = some fn ∧ fn.name ≠ "runtime.NumGoroutine"

/-- All that the tables must be right in. -/
structure Ok (P : Program) (B : Tb) : Prop where
  t : TOk P B
  q : QOk P B
  i : IOk P B
  l : LOk P B
  x : XOk P B
  m : MOk P B

def DR (E : Env) (d : AD) (d' : Deferred) : Prop := ∃ fn cap, d'.target = .fn fn cap ∧ FnR E d.fn fn ∧ VL E d.captured cap.toList ∧ VL E d.args d'.args.toList

/-- What an operation comes to. -/
def OpOk (P : Program) (G : Nat) (E : Env) (A : AW) (w : World) (m : Sem Next) : OR → Prop
  | .val a A' => ∃ v w' E', (m.run P w = .ok (.value v) w' ∨ (m.run P w = .ok .skip w' ∧ v = undef)) ∧ Stp G E A.heap.get w E' A'.heap.get w' A.next A'.next ∧ V E' a v
  | .enter f args A' => A' = A ∧ ∃ vs, m.run P w = .ok (.enter f vs) w ∧ VL E args vs.toList ∧ P.funcs[f]?.isSome
  | .round l args A' => A' = A ∧ ∃ L vs, E l = some L ∧ m.run P w = (Instr.yield L.blk vs).run P w ∧ VL E args vs.toList
  | .defer d A' => A' = A ∧ ∃ d', m.run P w = .ok (.defer d') w ∧ DR E d d'
  | .recov A' => A' = A ∧ m.run P w = .ok .recover w

def OR.nextA : OR → Nat
  | .val _ A => A.next
  | .enter _ _ A => A.next
  | .round _ _ A => A.next
  | .defer _ A => A.next
  | .recov A => A.next

theorem ev_V {E : Env} {n : Nat} {T : Tm} {a : Act} (h : TR E n T a.tmps) {x : Operand} {v : AV} (he : ev T x = some v) : V E v (a.eval x) := by
  cases x <;> simp only [ev, reduceCtorEq] at he
  case tmp t =>
    obtain ⟨v', h1, h2⟩ := h.slot t v he
    have : a.eval (.tmp t) = v' := by
      show a.tmps.getD t undef = v'
      rw [Array.getD_eq_getD_getElem?, h1]; rfl
    rw [this]; exact h2
  case const c => exact absV_V he
  case func f =>
    simp only [Option.some.injEq] at he
    subst he
    simp only [V]
    exact ⟨_, _, _, rfl, rfl, rfl, rfl⟩

theorem evs_V {E : Env} {n : Nat} {T : Tm} {a : Act} (h : TR E n T a.tmps) {xs : Array Operand} {vs : List AV} (he : mapO (ev T) xs.toList = some vs) : VL E vs (xs.map a.eval).toList := by
  obtain ⟨h1, h2⟩ := mapO_some he
  refine VL_iff.2 ⟨by simp [← h1], fun i v hi => ?_⟩
  have hlt : i < xs.toList.length := by have := (List.getElem?_eq_some_iff.1 hi).1; omega
  obtain ⟨y, hy, hf⟩ := h2 i _ (List.getElem?_eq_getElem hlt)
  rw [hi] at hy; cases hy
  refine ⟨a.eval _, ?_, ev_V h hf⟩
  simp only [Array.toList_map, List.getElem?_map, List.getElem?_eq_getElem hlt, Option.map_some]

theorem parts_V {E : Env} {n : Nat} {T : Tm} {a : Act} (h : TR E n T a.tmps) : ∀ {xs : List (Nat × Operand)} {vs : List (Nat × AV)}, parts2 T xs = some vs → PR E vs (xs.map fun p => (p.1, a.eval p.2))
  | [], vs, he => by simp only [parts2, Option.some.injEq] at he; subst he; rfl
  | (i, x) :: l, vs, he => by
    simp only [parts2] at he
    cases hx : ev T x with
    | none => simp [hx] at he
    | some v =>
      cases hl : parts2 T l with
      | none => simp [hx, hl] at he
      | some ws =>
        simp only [hx, hl, Option.some.injEq] at he
        subst he
        exact ⟨_, _, rfl, ev_V h hx, parts_V h hl⟩

theorem evO_V {E : Env} {n : Nat} {T : Tm} {a : Act} (h : TR E n T a.tmps) {x : Option Operand} {v : Option AV} (he : evO T x = some v) : OVR E v (x.map a.eval) := by
  cases x with
  | none => simp only [evO, Option.some.injEq] at he; subst he; rfl
  | some x =>
    simp only [evO, Option.map_eq_some_iff] at he
    obtain ⟨y, hy, rfl⟩ := he
    exact ⟨_, rfl, ev_V h hy⟩

theorem undef_V (E : Env) : V E (.tup []) undef := by simp only [V]; exact ⟨_, rfl, rfl⟩

theorem OpOk.ofVal {E : Env} {A A' : AW} {w : World} {m : Sem Value} {a : AV} (h : Val P G E A w m a A') : OpOk P G E A w (do pure (.value (← m))) (.val a A') := by
  obtain ⟨v, w', E', h1, h2, h3⟩ := h
  exact ⟨v, w', E', .inl (by simp [h1]), h2, h3⟩
theorem OpOk.ofSame {E : Env} {A : AW} {w : World} (hr : Rel G E A.heap.get w) {m : Sem Value} {a : AV} {v : Value} (h : m.run P w = .ok v w) (hv : V E a v) : OpOk P G E A w (do pure (.value (← m))) (.val a A) :=
  .ofVal (.same hr h hv)
theorem OpOk.ofUnit {E : Env} {A A' : AW} {w w' : World} {m : Sem Unit} (h : m.run P w = .ok () w') (hs : Stp G E A.heap.get w E A'.heap.get w' A.next A'.next) : OpOk P G E A w (do m; pure .skip) (.val (.tup []) A') :=
  ⟨undef, w', E, .inr ⟨by simp [h], rfl⟩, hs, undef_V E⟩

theorem ofP_some {x : Option (AV × AW)} {r : OR} (h : OR.ofP x = some r) : ∃ v A, x = some (v, A) ∧ r = .val v A := by
  cases x with
  | none => simp [OR.ofP] at h
  | some p => obtain ⟨v, A⟩ := p; simp only [OR.ofP, Option.some.injEq] at h; exact ⟨v, A, rfl, h.symm⟩
theorem ofV_some {A : AW} {x : Option AV} {r : OR} (h : OR.ofV A x = some r) : ∃ v, x = some v ∧ r = .val v A := by
  cases x with
  | none => simp [OR.ofV] at h
  | some v => simp only [OR.ofV, Option.some.injEq] at h; exact ⟨v, rfl, h.symm⟩
theorem ofW_some {x : Option AW} {r : OR} (h : OR.ofW x = some r) : ∃ A, x = some A ∧ r = .val (.tup []) A := by
  cases x with
  | none => simp [OR.ofW] at h
  | some A => simp only [OR.ofW, Option.some.injEq] at h; exact ⟨A, rfl, h.symm⟩

theorem enter_ok (ok : Ok P B) {E : Env} {A : AW} {w : World} (hr : Rel G E A.heap.get w) {f : FuncId} {as : List AV} {vs : Array Value} (hv : VL E as vs.toList) {r : OR} (h : enterA B A f as = some r) (hf : Free E A.next r.nextA) :
    OpOk P G E A w (callFunc f vs) r := by
  unfold enterA at h
  cases hF : B.F f with
  | none => simp [hF] at h
  | some fn =>
    obtain ⟨h1, h2⟩ := ok.m.F f fn hF
    simp only [hF] at h
    cases hb : fn.body with
    | some c =>
      simp only [hb, Option.some.injEq] at h
      subst h
      refine ⟨rfl, vs, ?_, hv, by simp [h1]⟩
      simp [callFunc, h1, h2, hb]
    | none =>
      simp only [hb] at h
      cases hX : B.X f with
      | none => simp [hX] at h
      | some x =>
        simp only [hX] at h
        obtain ⟨v, A', h3, rfl⟩ := ofP_some h
        obtain ⟨fn', g1, g2, g3, g4, g5⟩ := ok.x.X f x hX
        obtain ⟨e, e1, v', w', E', e2, e3, e4⟩ := ext_run hr g5 hv h3 hf
        have := run_callFunc_extern (P := P) g1 g2 (by simp [g3]) g4 e1 vs w
        rw [e2] at this
        exact ⟨v', w', E', .inl this, e3, e4⟩

theorem invoke_ok (ok : Ok P B) {E : Env} {A : AW} {w : World} (hr : Rel G E A.heap.get w) {fn : Fn} {fn' : Fn} (hfn : FnR E fn fn') {cs as : List AV} {cap vs : Array Value} (hc : VL E cs cap.toList) (hv : VL E as vs.toList) {r : OR}
    (h : invokeA B A fn cs as = some r) (hf : Free E A.next r.nextA) : OpOk P G E A w (invoke (.fn fn' cap) vs) r := by
  cases fn <;> (try (exfalso; cases h; done))
  case func f =>
    simp only [FnR] at hfn; subst hfn
    exact enter_ok ok hr (by rw [Array.toList_append]; exact hv.append hc) h hf
  case method name =>
    simp only [FnR] at hfn; subst hfn
    rcases as with _ | ⟨a1, as⟩ <;> (try (exfalso; cases h; done))
    cases a1 <;> (try (exfalso; cases h; done))
    rename_i t x
    simp only [invokeA] at h
    cases hM : B.M t name with
    | none => simp [hM] at h
    | some f =>
      simp only [hM] at h
      simp only [VL, V] at hv
      obtain ⟨v0, vs', hvs, ⟨y, rfl, hy⟩, hrest⟩ := hv
      have h0 : vs[0]? = some (.iface t y) := by rw [← Array.getElem?_toList, hvs]; rfl
      have hex : (#[y] ++ vs.extract 1 vs.size).toList = y :: vs' := by
        have hl : vs.size = vs'.length + 1 := by rw [← Array.length_toList, hvs]; rfl
        simp [hvs, hl]
      have hm := ok.m.M t name f hM y w
      have hent := enter_ok ok hr (vs := #[y] ++ vs.extract 1 vs.size) (as := x :: as) (by rw [hex]; exact ⟨_, _, rfl, hy, hrest⟩) h hf
      have hrun : (invoke (.fn (.method name) cap) vs).run P w = (callFunc f (#[y] ++ vs.extract 1 vs.size)).run P w := by
        simp [invoke, h0, callMethod, hm]
      cases r <;> simp only [OpOk, hrun] at hent ⊢ <;> exact hent
  case yield l =>
    simp only [FnR] at hfn
    obtain ⟨L, hL, rfl⟩ := hfn
    simp only [invokeA, Option.some.injEq] at h
    subst h
    exact ⟨rfl, L, vs, hL, rfl, hv⟩

theorem resolve_ok {E : Env} {n : Nat} {T : Tm} {a : Act} (ht : TR E n T a.tmps) {c : Call} {fn : Fn} {cs as : List AV} (h : resolveA T c = some (fn, cs, as)) (ty : TypeId) (w : World) :
    ∃ d fn' cap, (resolve a.eval c ty).run P w = .ok d w ∧ d.target = .fn fn' cap ∧ FnR E fn fn' ∧ VL E cs cap.toList ∧ VL E as d.args.toList := by
  unfold resolveA at h
  cases ha : mapO (ev T) c.args.toList with
  | none => simp [ha] at h
  | some args =>
    simp only [ha] at h
    have hargs := evs_V ht ha
    unfold resolve
    cases hc : c.callee with
    | builtin b => simp [hc] at h
    | value f =>
      simp only [hc] at h
      cases hf : ev T f with
      | none => simp [hf] at h
      | some v =>
        have hv := ev_V ht hf
        cases v <;> simp only [hf, reduceCtorEq, Option.some.injEq, Prod.mk.injEq] at h
        rename_i g first captured
        obtain ⟨rfl, rfl, rfl⟩ := h
        simp only [V] at hv
        obtain ⟨f', a', c', h1, h2, h3, h4⟩ := hv
        refine ⟨{ target := .fn f' c', args := a' ++ c.args.map a.eval }, f', c', ?_, rfl, h2, h4, ?_⟩
        · simp only [h1, Deferred.ofValue, Sem.run_pure]
        · rw [Array.toList_append]; exact h3.append hargs
    | invoke r name =>
      simp only [hc] at h
      cases hf : ev T r with
      | none => simp [hf] at h
      | some v =>
        simp only [hf, Option.some.injEq, Prod.mk.injEq] at h
        obtain ⟨rfl, rfl, rfl⟩ := h
        refine ⟨{ target := .fn (.method name) #[], args := #[a.eval r] ++ c.args.map a.eval }, .method name, #[], rfl, rfl, rfl, rfl, ?_⟩
        rw [Array.toList_append]
        exact ⟨_, _, rfl, ev_V ht hf, hargs⟩

theorem builtin_ok (ok : Ok P B) {E : Env} {A : AW} {w : World} (hr : Rel G E A.heap.get w) {b : Builtin} {ts : Array TypeId} {ty : TypeId} {cs : Array Bool} {as : List AV} {vs : Array Value} (hv : VL E as vs.toList) {r : OR}
    (h : builtinA B A b ts ty as = some r) (hf : Free E A.next r.nextA) : OpOk P G E A w (builtin b ts ty cs vs) r := by
  have one : ∀ {a : AV}, VL E [a] vs.toList → ∃ v, vs = #[v] ∧ V E a v := fun h => by
    simp only [VL] at h
    obtain ⟨v, _, h1, h2, rfl⟩ := h
    exact ⟨v, by rw [← Array.toList_inj, h1], h2⟩
  have two : ∀ {a b : AV}, VL E [a, b] vs.toList → ∃ v u, vs = #[v, u] ∧ V E a v ∧ V E b u := fun h => by
    simp only [VL] at h
    obtain ⟨v, _, h1, h2, u, _, rfl, h3, rfl⟩ := h
    exact ⟨v, u, by rw [← Array.toList_inj, h1], h2, h3⟩
  cases b
  case append =>
    rcases as with _ | ⟨x, _ | ⟨y, _ | ⟨z, as⟩⟩⟩ <;> (try (exfalso; cases h; done))
    obtain ⟨vx, vy, rfl, hx, hy⟩ := two hv
    simp only [builtinA] at h
    rcases hts : ts.toList with _ | ⟨t, _ | ⟨u, _ | ⟨z, zs⟩⟩⟩ <;> (try (exfalso; rw [hts] at h; cases h; done))
    rw [hts] at h
    have htseq : ts = #[t, u] := by rw [← Array.toList_inj, hts]
    subst htseq
    cases hS : und B t with
    | none => simp [hS] at h
    | some ds =>
    cases hU : und B u with
    | none => cases ds <;> simp [hS, hU] at h
    | some du =>
    simp only [hS, hU] at h
    cases ds <;> (try (exfalso; cases h; done))
    rename_i e
    cases hs : sz B e with
    | none => simp [hs] at h
    | some s =>
    cases hw : wid B e with
    | none => simp [hs, hw] at h
    | some wd =>
    cases hz : zeroA B e with
    | none => simp [hs, hw, hz] at h
    | some z =>
    simp only [hs, hw, hz] at h
    cases hck : (Nat.ble wd 4096 && Nat.beq (len z.cells) s && isSeqD du) <;> simp only [hck, cond_true, cond_false, reduceCtorEq] at h
    simp only [Bool.and_eq_true, Nat.ble_eq, beq_nat, decide_eq_true_eq, len_eq] at hck
    obtain ⟨v, A', h3, rfl⟩ := ofP_some h
    exact .ofVal (append_run ok.t hr hS hU hck.2 hs hw hck.1.1 hz hck.1.2 hx hy h3 hf)
  case cap =>
    rcases as with _ | ⟨x, _ | ⟨y, as⟩⟩ <;> (try (exfalso; cases h; done))
    obtain ⟨vx, rfl, hx⟩ := one hv
    cases h0 : ts[0]? with
    | none => simp [builtinA, h0] at h
    | some t =>
      obtain ⟨a, v', rfl, h1, h2⟩ := cap_run (P := P) (w := w) ok.t h0 hx h
      exact .ofSame hr h1 h2
  case len =>
    rcases as with _ | ⟨x, _ | ⟨y, as⟩⟩ <;> (try (exfalso; cases h; done))
    obtain ⟨vx, rfl, hx⟩ := one hv
    cases h0 : ts[0]? with
    | none => simp [builtinA, h0] at h
    | some t =>
      obtain ⟨a, v', rfl, h1, h2⟩ := len_run (P := P) ok.t hr h0 (cs := #[]) hx h
      exact .ofSame hr h1 h2
  case clear =>
    rcases as with _ | ⟨x, _ | ⟨y, as⟩⟩ <;> (try (exfalso; cases h; done))
    obtain ⟨vx, rfl, hx⟩ := one hv
    cases h0 : ts[0]? with
    | none => simp [builtinA, h0] at h
    | some t =>
      simp only [builtinA, h0] at h
      obtain ⟨v, A', h3, rfl⟩ := ofP_some h
      exact .ofVal (clear_run ok.t hr h0 hx h3)
  case copy =>
    rcases as with _ | ⟨x, _ | ⟨y, _ | ⟨z, as⟩⟩⟩ <;> (try (exfalso; cases h; done))
    obtain ⟨vx, vy, rfl, hx, hy⟩ := two hv
    cases h0 : ts[0]? with
    | none => simp [builtinA, h0] at h
    | some t =>
      simp only [builtinA, h0] at h
      cases hS : und B t with
      | none => simp [hS] at h
      | some ds =>
        simp only [hS] at h
        cases ds <;> (try (exfalso; cases h; done))
        obtain ⟨v, A', h3, rfl⟩ := ofP_some h
        exact .ofVal (copy_run ok.t hr h0 hS hx hy h3)
  case max =>
    rcases as with _ | ⟨x, as⟩ <;> (try (exfalso; cases h; done))
    simp only [builtinA] at h
    obtain ⟨v, h3, rfl⟩ := ofV_some h
    simp only [VL] at hv
    obtain ⟨vx, vl, hvs, hx, hl⟩ := hv
    obtain ⟨v', g1, g2⟩ := max_go (P := P) h3 hl hx w
    refine .ofSame hr ?_ g2
    unfold Builtin.max_
    rw [hvs]; exact g1
  case min =>
    rcases as with _ | ⟨x, as⟩ <;> (try (exfalso; cases h; done))
    simp only [builtinA] at h
    obtain ⟨v, h3, rfl⟩ := ofV_some h
    simp only [VL] at hv
    obtain ⟨vx, vl, hvs, hx, hl⟩ := hv
    obtain ⟨v', g1, g2⟩ := min_go (P := P) h3 hl hx w
    refine .ofSame hr ?_ g2
    unfold Builtin.min_
    rw [hvs]; exact g1
  case recover =>
    rcases as with _ | ⟨x, as⟩ <;> (try (exfalso; cases h; done))
    simp only [builtinA, Option.some.injEq] at h
    subst h
    exact ⟨rfl, rfl⟩
  case unsafeSliceData =>
    rcases as with _ | ⟨x, _ | ⟨y, as⟩⟩ <;> (try (exfalso; cases h; done))
    obtain ⟨vx, rfl, hx⟩ := one hv
    cases x <;> (try (exfalso; cases h; done))
    case nils =>
      simp only [builtinA, Option.some.injEq] at h
      subst h
      simp only [V] at hx; subst hx
      exact .ofSame hr (v := .pointer none) rfl rfl
    case slice b o n cap ex es =>
      simp only [builtinA, beq_nat] at h
      cases hck : decide (cap = 0) <;> simp only [hck, cond_true, cond_false, reduceCtorEq, Option.some.injEq] at h
      subst h
      simp only [decide_eq_false_iff_not] at hck
      simp only [V] at hx
      obtain ⟨L, c, hL, rfl, _, hcap, _⟩ := hx
      exact .ofSame hr (Lib.run_unsafeSliceData_row w ts ty _ n c (by omega)) ⟨L, hL, rfl⟩
  case unsafeString =>
    rcases as with _ | ⟨x, _ | ⟨y, _ | ⟨z, as⟩⟩⟩ <;> (try (exfalso; cases h; done))
    · obtain ⟨vx, vy, rfl, hx, hy⟩ := two hv
      obtain ⟨a, A', rfl, h3⟩ := unsafeString_run ok.t (fun t => cellsOf_ok ok.t) hr hx hy h
      exact .ofVal h3
    · exfalso; cases y <;> (try (cases h; done)); rename_i k i; cases k <;> (try (cases h; done)); cases i <;> cases h
  all_goals (exfalso; rcases as with _ | ⟨x, _ | ⟨y, _ | ⟨z, as⟩⟩⟩ <;> cases h)
end Go.Ax
namespace Go.Ax
open Go
variable {P : Program} {B : Tb} {G : Nat}

theorem build_parts {t : TypeId} {a : Act} {ps : Array (Nat × Operand)} : (ps.map fun (p : Nat × Operand) => (p.1, a.eval p.2)).toList = ps.toList.map fun p => (p.1, a.eval p.2) := by simp

theorem nilCheck_ok (ok : Ok P B) {E : Env} {A : AW} {w : World} (hr : Rel G E A.heap.get w) {n : Nat} {T : Tm} {a : Act} (ht : TR E n T a.tmps) {o : Oper} {x : Operand} (ho : o.op = .nilCheck x) {r : OR}
    (h : opK B o.type (.nilCheck x) A T = some r) : OpOk P G E A w (execOp a.eval o) r := by
  simp only [opK] at h
  cases hx : ev T x with
  | none => simp [hx] at h
  | some v =>
    have hv := ev_V ht hx
    rw [hx] at h
    unfold execOp
    simp only [ho]
    cases v <;> (try (exfalso; cases h; done))
    case ptr b off =>
      simp only [Option.some.injEq] at h; subst h
      have hv' := hv
      simp only [V] at hv'
      obtain ⟨L, hL, he⟩ := hv'
      rw [he] at hv ⊢
      exact ⟨_, w, E, .inl rfl, Stp.refl hr _, hv⟩
    case iface t y =>
      simp only [Option.some.injEq] at h; subst h
      have hv' := hv
      simp only [V] at hv'
      obtain ⟨y', he, _⟩ := hv'
      rw [he] at hv ⊢
      exact ⟨_, w, E, .inl rfl, Stp.refl hr _, hv⟩
    case fn f first captured =>
      have hv' := hv
      simp only [V] at hv'
      obtain ⟨f', a', c', he, h1, h2, h3⟩ := hv'
      cases f <;> (try (exfalso; cases h; done))
      case func g =>
        simp only [Option.some.injEq] at h; subst h
        simp only [FnR] at h1; subst h1
        rw [he] at hv ⊢
        exact ⟨_, w, E, .inl rfl, Stp.refl hr _, hv⟩
      case method m =>
        rcases first with _ | ⟨f1, rest⟩ <;> (try (exfalso; cases h; done))
        cases f1 <;> (try (exfalso; cases h; done))
        rename_i t y
        simp only at h
        cases hM : B.M t m with
        | none => simp [hM] at h
        | some g =>
          simp only [hM, Option.some.injEq] at h; subst h
          simp only [FnR] at h1; subst h1
          rw [he] at hv ⊢
          simp only [VL, V] at h2
          obtain ⟨v0, vs', hvs, ⟨y', rfl, _⟩, _⟩ := h2
          have h0 : a'[0]? = some (.iface t y') := by rw [← Array.getElem?_toList, hvs]; rfl
          refine ⟨_, w, E, .inl ?_, Stp.refl hr _, hv⟩
          simp only [h0, Sem.run_bind, run_program, Result.andThen_ok, ok.m.N t m g hM, Sem.run_pure]
          rfl
      case yield l =>
        simp only [Option.some.injEq] at h; subst h
        simp only [FnR] at h1
        obtain ⟨L, hL, rfl⟩ := h1
        rw [he] at hv ⊢
        exact ⟨_, w, E, .inl rfl, Stp.refl hr _, hv⟩

theorem st_nj {A A' : AW} {t : TypeId} {b o : Nat} {v : AV} (h : st B A t b o v = some A') : v ≠ .junk := by
  rintro rfl
  unfold st at h
  cases hs : sz B t with
  | none => simp [hs] at h
  | some n =>
    simp only [hs] at h
    cases hn : Nat.beq (len AV.junk.cells) n <;> simp only [hn, cond_false, cond_true, reduceCtorEq] at h
    unfold stCells at h
    cases hb : A.heap.get b with
    | none => simp [hb] at h
    | some ob => cases ob <;> simp [hb, AV.cells, allSimple, simple] at h

theorem op_ok (ok : Ok P B) {E : Env} {A : AW} {w : World} (hr : Rel G E A.heap.get w) {n : Nat} {T : Tm} {a : Act} (ht : TR E n T a.tmps) {o : Oper} {r : OR}
    (h : opA B A T o = some r) (hf : Free E A.next r.nextA) : OpOk P G E A w (execOp a.eval o) r := by
  unfold opA at h
  cases ho : o.op <;> rw [ho] at h <;> (try (exfalso; cases h; done))
  case move x =>
    simp only [opK] at h
    obtain ⟨v, h1, rfl⟩ := ofV_some h
    unfold execOp
    simp only [ho]
    exact ⟨_, w, E, .inl rfl, Stp.refl hr _, ev_V ht h1⟩
  case assign x =>
    simp only [opK] at h
    obtain ⟨v, h1, rfl⟩ := ofV_some h
    unfold execOp
    simp only [ho]
    exact ⟨_, w, E, .inl rfl, Stp.refl hr _, ev_V ht h1⟩
  case pick c x y =>
    simp only [opK] at h
    cases hc : ev T c with
    | none => simp [hc] at h
    | some vc =>
    cases hx : ev T x with
    | none => cases vc <;> simp [hc, hx] at h
    | some vx =>
    cases hy : ev T y with
    | none => cases vc <;> simp [hc, hx, hy] at h
    | some vy =>
    cases vc <;> simp only [hc, hx, hy, reduceCtorEq, Option.some.injEq] at h
    rename_i b
    subst h
    have hcb := V_bool (ev_V ht hc)
    unfold execOp
    simp only [ho, hcb]
    refine ⟨if b then a.eval x else a.eval y, w, E, .inl ?_, Stp.refl hr _, ?_⟩
    · simp [asBool]
    · cases b
      · exact ev_V ht hy
      · exact ev_V ht hx
  case alloc e =>
    simp only [opK] at h
    cases hz : zeroA B e with
    | none => simp [hz] at h
    | some z =>
      simp only [hz, Option.some.injEq] at h; subst h
      unfold execOp
      simp only [ho]
      exact .ofVal (alloc_run ok.t hr hf hz)
  case box e x =>
    simp only [opK] at h
    cases hx : ev T x with
    | none => simp [hx] at h
    | some v =>
      simp only [hx] at h
      cases hs : allSimple v.cells <;> simp only [hs, cond_true, cond_false, reduceCtorEq, Option.some.injEq] at h
      subst h
      unfold execOp
      simp only [ho]
      exact .ofVal (box_run hr hf (ev_V ht hx) hs)
  case build t ps =>
    simp only [opK] at h
    cases hp : parts2 T ps.toList with
    | none => simp [hp] at h
    | some as =>
      simp only [hp] at h
      obtain ⟨v, h1, rfl⟩ := ofV_some h
      obtain ⟨v', h2, h3⟩ := build_run (P := P) ok.t (ps := ps.map fun (p : Nat × Operand) => (p.1, a.eval p.2)) (by rw [build_parts (t := t)]; exact parts_V ht hp) h1 w
      unfold execOp
      simp only [ho]
      exact .ofSame hr h2 h3
  case buildSlice t k ps =>
    simp only [opK] at h
    cases hp : parts2 T ps.toList with
    | none => simp [hp] at h
    | some as =>
      simp only [hp] at h
      obtain ⟨v, A', h1, rfl⟩ := ofP_some h
      unfold execOp
      simp only [ho]
      exact .ofVal (by
        obtain ⟨v', w', E', g1, g2, g3⟩ := buildSlice_run (P := P) ok.t hr (ps := ps.map fun (p : Nat × Operand) => (p.1, a.eval p.2)) (by rw [build_parts (t := t)]; exact parts_V ht hp) h1 hf
        exact ⟨v', w', E', g1, g2, g3⟩)
  case load t x =>
    simp only [opK] at h
    cases hx : ev T x with
    | none => simp [hx] at h
    | some v =>
      cases v <;> simp only [hx, reduceCtorEq] at h
      rename_i b off
      obtain ⟨v, h1, rfl⟩ := ofV_some h
      have hv := ev_V ht hx
      simp only [V] at hv
      obtain ⟨L, hL, he⟩ := hv
      obtain ⟨v', h2, h3⟩ := ld_ok (P := P) ok.t hr hL h1
      unfold execOp
      simp only [ho, he]
      exact .ofSame hr (by simp [Instr.loadAt, Instr.sureAddr, h2]) h3
  case store t x y =>
    simp only [opK] at h
    cases hx : ev T x with
    | none => simp [hx] at h
    | some v =>
    cases hy : ev T y with
    | none => cases v <;> simp [hx, hy] at h
    | some u =>
      cases v <;> simp only [hx, hy, reduceCtorEq] at h
      rename_i b off
      obtain ⟨A', h1, rfl⟩ := ofW_some h
      have hv := ev_V ht hx
      simp only [V] at hv
      obtain ⟨L, hL, he⟩ := hv
      obtain ⟨w', h2, h3⟩ := st_ok (P := P) ok.t hr hL (ev_V ht hy) (st_nj h1) h1
      unfold execOp
      simp only [ho, he]
      exact .ofUnit (by simp [Instr.storeAt, Instr.sureAddr, h2]) h3
  case nilCheck x => exact nilCheck_ok ok hr ht ho h
  case binOp op t x y info =>
    simp only [opK] at h
    cases hx : ev T x with
    | none => simp [hx] at h
    | some v =>
    cases hy : ev T y with
    | none => simp [hx, hy] at h
    | some u =>
      simp only [hx, hy] at h
      cases hg : guardOk B op t x y v u <;> simp only [hg, cond_true, cond_false, reduceCtorEq] at h
      obtain ⟨r', h1, rfl⟩ := ofV_some h
      obtain ⟨j1, j2⟩ := binA_junk h1
      obtain ⟨v', h2, h3⟩ := binA_run (P := P) ok.t ok.q h1 (ev_V ht hx) (ev_V ht hy) w
      have h4 := guard_run (P := P) ok.q hg (ev_V ht hx) (ev_V ht hy) j1 j2 w
      unfold execOp
      simp only [ho]
      exact .ofSame hr (by simp only [Sem.run_bind, h4, Result.andThen_ok, h2]) h3
  case unOp op t x =>
    simp only [opK] at h
    cases hx : ev T x with
    | none => simp [hx] at h
    | some v =>
      simp only [hx] at h
      obtain ⟨r', h1, rfl⟩ := ofV_some h
      obtain ⟨v', h2, h3⟩ := unA_run (P := P) h1 (ev_V ht hx) w
      unfold execOp
      simp only [ho]
      exact .ofSame hr h2 h3
  case convert s d x =>
    simp only [opK] at h
    cases hx : ev T x with
    | none => simp [hx] at h
    | some v =>
      simp only [hx] at h
      obtain ⟨r', A', h1, rfl⟩ := ofP_some h
      unfold execOp
      simp only [ho]
      exact .ofVal (conv_run ok.t ok.l hr (ev_V ht hx) h1 hf)
  case makeInterface t x =>
    simp only [opK] at h
    cases hu : und B t with
    | none => simp [hu] at h
    | some td =>
    cases hx : ev T x with
    | none => cases td <;> simp [hu, hx] at h
    | some v =>
      obtain ⟨D, hD1, hD2⟩ := und_ok ok.t hu
      have hni : td ≠ .iface := by rintro rfl; simp [hu] at h
      have h' : some (OR.val (.iface t v) A) = some r := by
        rw [← h, hu, hx]; cases td <;> first | rfl | exact absurd rfl hni
      simp only [Option.some.injEq] at h'
      subst h'
      unfold execOp
      simp only [ho]
      refine .ofSame hr (v := .iface t (a.eval x)) ?_ ⟨_, rfl, ev_V ht hx⟩
      unfold Instr.makeInterface
      simp only [Sem.run_bind, run_underlying hD1, Result.andThen_ok]
      cases D <;> first | rfl | (exfalso; exact hni (by rw [← hD2]; rfl))
  case makeFunc fn first captured =>
    simp only [opK] at h
    cases h1 : mapO (ev T) first.toList with
    | none => simp [h1] at h
    | some as =>
    cases h2 : mapO (ev T) captured.toList with
    | none => simp [h1, h2] at h
    | some cs =>
      simp only [h1, h2] at h
      cases hok : fnOk fn <;> simp only [hok, cond_true, cond_false, reduceCtorEq, Option.some.injEq] at h
      subst h
      unfold execOp
      simp only [ho]
      refine .ofSame hr (v := .func fn (first.map a.eval) (captured.map a.eval)) rfl ?_
      simp only [V]
      refine ⟨_, _, _, rfl, ?_, evs_V ht h1, evs_V ht h2⟩
      cases fn <;> simp_all [fnOk, FnR]
  case makeMap t r' =>
    simp only [opK] at h
    cases r' with
    | none =>
      simp only [Option.some.injEq] at h; subst h
      unfold execOp
      simp only [ho]
      exact .ofVal (makeMap_run hr hf (by simp [Instr.makeMap]))
    | some x =>
      simp only at h
      cases hu : und B t with
      | none => simp [hu] at h
      | some td =>
      cases hx : ev T x with
      | none => cases td <;> simp [hu, hx] at h
      | some v =>
        obtain ⟨D, hD1, hD2⟩ := und_ok ok.t hu
        cases td <;> simp only [hu, hx, reduceCtorEq] at h
        cases v <;> simp only [reduceCtorEq, Option.some.injEq] at h
        subst h
        have := tdOf_map hD2; subst this
        have hi := V_int (ev_V ht hx)
        unfold execOp
        simp only [ho]
        exact .ofVal (makeMap_run hr hf (by simp [Instr.makeMap, run_underlying hD1, hi, asInt, asIntOf]))
  case makeSlice t l c =>
    simp only [opK] at h
    cases hu : und B t with
    | none => simp [hu] at h
    | some td =>
    cases hl : ev T l with
    | none => cases td <;> simp [hu, hl] at h
    | some vl =>
    cases hc : ev T c with
    | none => cases td <;> cases vl <;> simp [hu, hl, hc] at h
    | some vc =>
      cases td <;> simp only [hu, hl, hc, reduceCtorEq] at h
      cases vl <;> (try (exfalso; cases h; done))
      rename_i e kl il
      cases il <;> (try (exfalso; cases h; done))
      rename_i nl
      cases vc <;> (try (exfalso; cases h; done))
      rename_i kc ic
      cases ic <;> (try (exfalso; cases h; done))
      rename_i nc
      simp only at h
      cases hs : sz B e with
      | none => simp [hs] at h
      | some s =>
      cases hz : zeroA B e with
      | none => simp [hs, hz] at h
      | some z =>
      cases hw : wid B e with
      | none => simp [hs, hz, hw] at h
      | some wd =>
      simp only [hs, hz, hw] at h
      cases hck : (Nat.ble nl nc && Nat.ble (nc * (s + 64)) 65536 && Nat.beq (len z.cells) s && Nat.ble wd 4096) <;> simp only [hck, cond_true, cond_false, reduceCtorEq, Option.some.injEq] at h
      simp only [Bool.and_eq_true, Nat.ble_eq, beq_nat, decide_eq_true_eq, len_eq] at hck
      obtain ⟨⟨⟨c1, c2⟩, c3⟩, c4⟩ := hck
      subst h
      have hil := V_int (ev_V ht hl)
      have hic := V_int (ev_V ht hc)
      unfold execOp
      simp only [ho, hil, hic]
      exact .ofVal (makeSlice_run ok.t (A' := A) hr hu hs hz hw c1 c2 c3 c4 hf)
  case slice t x lo hi mx =>
    simp only [opK] at h
    cases hx : ev T x with
    | none => simp [hx] at h
    | some v =>
    cases hlo : evO T lo with
    | none => simp [hx, hlo] at h
    | some vlo =>
    cases hhi : evO T hi with
    | none => simp [hx, hlo, hhi] at h
    | some vhi =>
    cases hmx : evO T mx with
    | none => simp [hx, hlo, hhi, hmx] at h
    | some vmx =>
      simp only [hx, hlo, hhi, hmx] at h
      obtain ⟨r', A', h1, rfl⟩ := ofP_some h
      obtain ⟨v', E', g1, g2, g3⟩ := slice_run (P := P) ok.t hr (ev_V ht hx) (evO_V ht hlo) (evO_V ht hhi) (evO_V ht hmx) h1 hf
      unfold execOp
      simp only [ho]
      exact .ofVal ⟨v', w, E', g1, g2, g3⟩
  case fieldAddr t x f =>
    simp only [opK] at h
    cases hx : ev T x with
    | none => simp [hx] at h
    | some v =>
    cases hfd : fieldOf B t f with
    | none => cases v <;> simp [hx, hfd] at h
    | some fd =>
      cases v <;> simp only [hx, hfd, reduceCtorEq] at h
      rename_i b off
      cases hs : sz B fd.2.1 with
      | none => simp [hs] at h
      | some k =>
        simp only [hs, beq_nat] at h
        cases hk : decide (k = 0) <;> simp only [hk, cond_true, cond_false, reduceCtorEq, Option.some.injEq] at h
        subst h
        have hv := ev_V ht hx
        simp only [V] at hv
        obtain ⟨L, hL, he⟩ := hv
        unfold execOp
        simp only [ho, he]
        exact .ofSame hr (fieldAddr_run ok.t hL hfd hs (by simpa using hk) w) ⟨L, hL, rfl⟩
  case field t x f =>
    simp only [opK] at h
    cases hx : ev T x with
    | none => simp [hx] at h
    | some v =>
    cases hfd : fieldOf B t f with
    | none => cases v <;> simp [hx, hfd] at h
    | some fd =>
      cases v <;> simp only [hx, hfd, reduceCtorEq] at h
      obtain ⟨r', h1, rfl⟩ := ofV_some h
      have hv := ev_V ht hx
      simp only [V] at hv
      obtain ⟨vs, he, hvs⟩ := hv
      obtain ⟨v', h2, h3⟩ := field_run (P := P) ok.t hvs hfd h1 w
      unfold execOp
      simp only [ho, he]
      exact .ofSame hr h2 h3
  case indexAddr t x i =>
    simp only [opK] at h
    cases hx : ev T x with
    | none => simp [hx] at h
    | some v =>
    cases hi : ev T i with
    | none => simp [hx, hi] at h
    | some u =>
      simp only [hx, hi] at h
      obtain ⟨r', h1, rfl⟩ := ofV_some h
      obtain ⟨v', h2, h3⟩ := indexAddr_run (P := P) ok.t (ev_V ht hx) (ev_V ht hi) h1 w
      unfold execOp
      simp only [ho]
      exact .ofSame hr h2 h3
  case index t x i =>
    simp only [opK] at h
    cases hx : ev T x with
    | none => simp [hx] at h
    | some v =>
    cases hi : ev T i with
    | none => simp [hx, hi] at h
    | some u =>
      simp only [hx, hi] at h
      obtain ⟨r', h1, rfl⟩ := ofV_some h
      obtain ⟨v', h2, h3⟩ := index_run (P := P) ok.t (ev_V ht hx) (ev_V ht hi) h1 w
      unfold execOp
      simp only [ho]
      exact .ofSame hr h2 h3
  case lookup t m k c =>
    simp only [opK] at h
    cases hx : ev T m with
    | none => simp [hx] at h
    | some v =>
    cases hi : ev T k with
    | none => simp [hx, hi] at h
    | some u =>
      simp only [hx, hi] at h
      obtain ⟨r', h1, rfl⟩ := ofV_some h
      obtain ⟨v', h2, h3⟩ := lookup_run (P := P) ok.t ok.q hr (ev_V ht hx) (ev_V ht hi) h1
      unfold execOp
      simp only [ho]
      exact .ofSame hr h2 h3
  case mapUpdate t m k x =>
    simp only [opK] at h
    cases hm : ev T m with
    | none => simp [hm] at h
    | some vm =>
    cases hk : ev T k with
    | none => simp [hm, hk] at h
    | some vk =>
    cases hx : ev T x with
    | none => simp [hm, hk, hx] at h
    | some vx =>
      simp only [hm, hk, hx] at h
      obtain ⟨A', h1, rfl⟩ := ofW_some h
      obtain ⟨w', h2, h3⟩ := update_run (P := P) ok.t ok.q hr (ev_V ht hm) (ev_V ht hk) (ev_V ht hx) h1
      unfold execOp
      simp only [ho]
      exact .ofUnit h2 h3
  case insert t m k x =>
    simp only [opK] at h
    cases hm : ev T m with
    | none => simp [hm] at h
    | some vm =>
    cases hk : ev T k with
    | none => simp [hm, hk] at h
    | some vk =>
    cases hx : ev T x with
    | none => simp [hm, hk, hx] at h
    | some vx =>
      simp only [hm, hk, hx] at h
      obtain ⟨A', h1, rfl⟩ := ofW_some h
      obtain ⟨w', h2, h3⟩ := update_run (P := P) ok.t ok.q hr (ev_V ht hm) (ev_V ht hk) (ev_V ht hx) h1
      unfold execOp
      simp only [ho]
      exact .ofUnit h2 h3
  case range t x =>
    simp only [opK] at h
    cases hx : ev T x with
    | none => simp [hx] at h
    | some v =>
      simp only [hx] at h
      obtain ⟨r', A', h1, rfl⟩ := ofP_some h
      unfold execOp
      simp only [ho]
      exact .ofVal (range_run ok.t hr (ev_V ht hx) h1 hf)
  case next x s =>
    simp only [opK] at h
    cases hx : ev T x with
    | none => simp [hx] at h
    | some v =>
      simp only [hx] at h
      obtain ⟨r', A', h1, rfl⟩ := ofP_some h
      unfold execOp
      simp only [ho]
      exact .ofVal (next_run hr (ev_V ht hx) h1)
  case entry x =>
    simp only [opK] at h
    cases hx : ev T x with
    | none => simp [hx] at h
    | some v =>
      simp only [hx] at h
      obtain ⟨r', h1, rfl⟩ := ofV_some h
      obtain ⟨v', h2, h3⟩ := entry_run (P := P) hr (ev_V ht hx) h1
      unfold execOp
      simp only [ho]
      exact .ofSame hr h2 h3
  case typeAssert x xt t c =>
    simp only [opK] at h
    cases hx : ev T x with
    | none => simp [hx] at h
    | some v =>
      simp only [hx] at h
      obtain ⟨r', h1, rfl⟩ := ofV_some h
      obtain ⟨v', h2, h3⟩ := assert_run (P := P) (xt := xt) ok.t ok.i (ev_V ht hx) h1 w
      unfold execOp
      simp only [ho]
      exact .ofSame hr h2 h3
  case extract x i =>
    simp only [opK] at h
    cases hx : ev T x with
    | none => simp [hx] at h
    | some v =>
      cases v <;> simp only [hx, reduceCtorEq] at h
      obtain ⟨r', h1, rfl⟩ := ofV_some h
      obtain ⟨v', h2, h3⟩ := extract_run (P := P) (ev_V ht hx) h1 w
      unfold execOp
      simp only [ho]
      exact .ofSame hr h2 h3
  case call c =>
    simp only [opK] at h
    unfold execOp
    simp only [ho]
    cases hc : c.callee with
    | builtin b =>
      simp only [hc] at h
      cases ha : mapO (ev T) c.args.toList with
      | none => simp [ha] at h
      | some args =>
        simp only [ha] at h
        have := builtin_ok (P := P) ok hr (cs := c.args.map fun | .const _ => true | _ => false) (evs_V ht ha) h hf
        have hrun : (do let d ← resolve a.eval c o.type; invoke d.target d.args : Sem Next).run P w = (builtin b c.argTypes o.type (c.args.map fun | .const _ => true | _ => false) (c.args.map a.eval)).run P w := by
          unfold resolve
          simp only [hc, Sem.run_bind, Sem.run_pure, Result.andThen_ok]
          rfl
        cases r <;> simp only [OpOk, hrun] at this ⊢ <;> exact this
    | value f =>
      simp only [hc] at h
      cases hre : resolveA T c with
      | none => simp [hre] at h
      | some p =>
        obtain ⟨fn, cs, as⟩ := p
        simp only [hre] at h
        obtain ⟨d, fn', cap, g1, g2, g3, g4, g5⟩ := resolve_ok (P := P) ht hre o.type w
        have := invoke_ok (P := P) ok hr g3 g4 g5 h hf
        have hrun : (do let d ← resolve a.eval c o.type; invoke d.target d.args : Sem Next).run P w = (invoke (.fn fn' cap) d.args).run P w := by
          simp only [Sem.run_bind, g1, Result.andThen_ok, g2]
        cases r <;> simp only [OpOk, hrun] at this ⊢ <;> exact this
    | invoke f nm =>
      simp only [hc] at h
      cases hre : resolveA T c with
      | none => simp [hre] at h
      | some p =>
        obtain ⟨fn, cs, as⟩ := p
        simp only [hre] at h
        obtain ⟨d, fn', cap, g1, g2, g3, g4, g5⟩ := resolve_ok (P := P) ht hre o.type w
        have := invoke_ok (P := P) ok hr g3 g4 g5 h hf
        have hrun : (do let d ← resolve a.eval c o.type; invoke d.target d.args : Sem Next).run P w = (invoke (.fn fn' cap) d.args).run P w := by
          simp only [Sem.run_bind, g1, Result.andThen_ok, g2]
        cases r <;> simp only [OpOk, hrun] at this ⊢ <;> exact this
  case defer c =>
    simp only [opK] at h
    cases hre : resolveA T c with
    | none => simp [hre] at h
    | some p =>
      obtain ⟨fn, cs, as⟩ := p
      simp only [hre, Option.some.injEq] at h
      subst h
      obtain ⟨d, fn', cap, g1, g2, g3, g4, g5⟩ := resolve_ok (P := P) ht hre o.type w
      unfold execOp
      simp only [ho]
      exact ⟨rfl, d, by simp only [Sem.run_bind, g1, Result.andThen_ok, Sem.run_pure], fn', cap, g2, g3, g4, g5⟩
end Go.Ax
