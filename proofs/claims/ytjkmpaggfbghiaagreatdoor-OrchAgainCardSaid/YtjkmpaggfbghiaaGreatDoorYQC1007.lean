/- Contracts and lemmas for the claim (part 7); no condition of its own. -/
import Derived.Test.YtjkmpaggfbghiaaGreatDoorYQC1004
import Derived.Maps.RangeRun
set_option linter.all false
set_option maxRecDepth 100000
set_option maxHeartbeats 0
set_option linter.unusedVariables false
set_option linter.unusedSimpArgs false
set_option linter.unnecessarySimpa false

namespace Go.X
open Go
theorem bytesBeq (a b : ByteArray) : (a == b) = decide (a = b) := by
  rw [Bool.eq_iff_iff, decide_eq_true_eq]
  obtain ⟨x⟩ := a
  obtain ⟨y⟩ := b
  constructor
  · intro h
    have e : x = y := by simpa using (show (x == y) = true from h)
    rw [e]
  · intro h
    cases h
    show (x == x) = true
    simp
structure MRepT (es : List MapEntry) (clk : Nat) (f : ByteArray → Option Value) : Prop where
  sound : ∀ e ∈ es, ∃ z, e.key = .string z ∧ f z = some e.val
  full : ∀ z v, f z = some v → ∃ e ∈ es, e.key = .string z
  keys : (es.map (·.key)).Nodup
  borns : (es.map (·.born)).Nodup
  lt : ∀ e ∈ es, e.born < clk
theorem MRepT.nil : MRepT [] 0 fun _ => none := ⟨by simp, by simp, by simp, by simp, by simp⟩
theorem MRepT.at {es : List MapEntry} {clk : Nat} {f : ByteArray → Option Value} (h : MRepT es clk f) {e : MapEntry} {z : ByteArray} (he : e ∈ es) (hz : e.key = .string z) : f z = some e.val := by
  obtain ⟨z', h1, h3⟩ := h.sound e he
  have : z' = z := by rw [hz] at h1; simpa using h1.symm
  subst this
  exact h3
theorem MRepT.out {es : List MapEntry} {clk : Nat} {f : ByteArray → Option Value} (h : MRepT es clk f) {z : ByteArray} (hn : ∀ e ∈ es, e.key ≠ .string z) : f z = none := by
  cases hf : f z with
  | none => rfl
  | some v => obtain ⟨e, h1, h2⟩ := h.full z v hf; exact absurd h2 (hn e h1)
theorem findNow_i64T {z : ByteArray} : ∀ {es : List MapEntry} {i : Nat}, (∀ e ∈ es, ∃ z', e.key = .string z') →
    (∃ (n : Nat) (e : MapEntry), es[n]? = some e ∧ e.key = .string z ∧ Instr.findNow .string (.string z) es i = some (some (i + n, e.val))) ∨ ((∀ e ∈ es, e.key ≠ .string z) ∧ Instr.findNow .string (.string z) es i = some none)
  | [], i, _ => .inr ⟨by simp, rfl⟩
  | e :: es, i, h => by
    obtain ⟨z', hz⟩ := h e (by simp)
    by_cases hzz : z = z'
    · subst hzz
      exact .inl ⟨0, e, rfl, hz, by simp [Instr.findNow, Instr.sameNow, hz, bytesBeq]⟩
    · have hb : (z == z') = false := by rw [bytesBeq]; exact decide_eq_false hzz
      have hs : Instr.sameNow .string (.string z) e.key = some false := by simp [Instr.sameNow, hz, hb]
      rcases findNow_i64T (z := z) (es := es) (i := i + 1) (fun e he => h e (by simp [he])) with ⟨n, e', h1, h2, h3⟩ | ⟨h1, h2⟩
      · exact .inl ⟨n + 1, e', by simpa using h1, h2, by simp only [Instr.findNow, hs]; rw [h3]; simp only [Option.some.injEq, Prod.mk.injEq, and_true]; omega⟩
      · refine .inr ⟨fun e' he => ?_, by simp only [Instr.findNow, hs]; exact h2⟩
        simp only [List.mem_cons] at he
        rcases he with rfl | he
        · rw [hz]; simpa using fun e => hzz e.symm
        · exact h1 e' he
theorem MRepT.find {es : List MapEntry} {clk : Nat} {f : ByteArray → Option Value} (h : MRepT es clk f) {P : Program} {kt : Nat} (ht : P.underlying kt = some .string) (z : ByteArray) (w : World) :
    (∃ (n : Nat) (e : MapEntry), es[n]? = some e ∧ e.key = .string z ∧ f z = some e.val ∧ (Instr.findKey kt (.string z) es).run P w = .ok (some (n, e.val)) w) ∨ ((∀ e ∈ es, e.key ≠ .string z) ∧ f z = none ∧ (Instr.findKey kt (.string z) es).run P w = .ok none w) := by
  rcases findNow_i64T (z := z) (es := es) (i := 0) (fun e he => by obtain ⟨z', h1, _⟩ := h.sound e he; exact ⟨z', h1⟩) with ⟨n, e, h1, h2, h3⟩ | ⟨h1, h2⟩
  · refine .inl ⟨n, e, h1, h2, h.at (List.mem_of_getElem? h1) h2, ?_⟩
    rw [Nat.zero_add] at h3
    simp [Instr.findKey, run_underlying ht, h3]
  · exact .inr ⟨h1, h.out h1, by simp [Instr.findKey, run_underlying ht, h2]⟩
def putKT (f : ByteArray → Option Value) (z : ByteArray) (v : Value) : ByteArray → Option Value := fun k => if k = z then some v else f k
theorem MRepT.push {es : List MapEntry} {clk : Nat} {f : ByteArray → Option Value} (h : MRepT es clk f) {z : ByteArray} (hn : ∀ e ∈ es, e.key ≠ .string z) (v : Value) : MRepT (es ++ [⟨.string z, v, clk⟩]) (clk + 1) (putKT f z v) where
  sound := by
    intro e he
    simp only [List.mem_append, List.mem_singleton] at he
    rcases he with he | rfl
    · obtain ⟨z', h1, h3⟩ := h.sound e he
      refine ⟨z', h1, ?_⟩
      have : z' ≠ z := fun e' => hn e he (e' ▸ h1)
      simp [putKT, this, h3]
    · exact ⟨z, rfl, by simp [putKT]⟩
  full := by
    intro z' v' hf
    by_cases e : z' = z
    · subst e; exact ⟨⟨.string z', v, clk⟩, by simp, rfl⟩
    · simp only [putKT, e, if_false] at hf
      obtain ⟨x, h1, h2⟩ := h.full z' v' hf
      exact ⟨x, by simp [h1], h2⟩
  keys := by
    rw [List.map_append, List.nodup_append]
    refine ⟨h.keys, by simp, ?_⟩
    intro a ha b hb
    obtain ⟨e, h1, rfl⟩ := List.mem_map.1 ha
    have : b = .string z := by simpa using hb
    subst this
    exact hn e h1
  borns := by
    rw [List.map_append, List.nodup_append]
    refine ⟨h.borns, by simp, ?_⟩
    intro a ha b hb
    obtain ⟨e, h1, rfl⟩ := List.mem_map.1 ha
    have : b = clk := by simpa using hb
    have := h.lt e h1
    omega
  lt := by
    intro e he
    simp only [List.mem_append, List.mem_singleton] at he
    rcases he with he | rfl
    · have := h.lt e he; omega
    · exact Nat.lt_succ_self _
theorem MRepT.set {es : List MapEntry} {clk : Nat} {f : ByteArray → Option Value} (h : MRepT es clk f) {z : ByteArray} {n : Nat} {e : MapEntry} (hn : es[n]? = some e) (hz : e.key = .string z) (v : Value) : MRepT (es.set n { e with val := v }) clk (putKT f z v) := by
  have hlt : n < es.length := (List.getElem?_eq_some_iff.1 hn).1
  have hmem : ∀ x ∈ es.set n { e with val := v }, (x = { e with val := v }) ∨ (x ∈ es ∧ x.key ≠ .string z) := by
    intro x hx
    obtain ⟨m, hm⟩ := List.mem_iff_getElem?.1 hx
    by_cases hmn : n = m
    · subst hmn
      rw [List.getElem?_set_self hlt] at hm
      exact .inl (by simpa using hm.symm)
    · rw [List.getElem?_set_ne hmn] at hm
      exact .inr ⟨List.mem_of_getElem? hm, fun hk => hmn (nodup_key h.keys hn hm (hz.trans hk.symm))⟩
  have hkeys : (es.set n { e with val := v }).map (·.key) = es.map (·.key) := by
    apply List.ext_getElem?
    intro m
    by_cases hmn : n = m
    · subst hmn; simp [hlt, hn]; 
      have := List.getElem?_eq_some_iff.1 hn
      simp [this.2]
    · simp [List.getElem?_set_ne hmn]
  have hborns : (es.set n { e with val := v }).map (·.born) = es.map (·.born) := by
    apply List.ext_getElem?
    intro m
    by_cases hmn : n = m
    · subst hmn; simp [hlt, hn]
      have := List.getElem?_eq_some_iff.1 hn
      simp [this.2]
    · simp [List.getElem?_set_ne hmn]
  refine ⟨?_, ?_, by rw [hkeys]; exact h.keys, by rw [hborns]; exact h.borns, ?_⟩
  · intro x hx
    rcases hmem x hx with rfl | ⟨h1, h2⟩
    · exact ⟨z, hz, by simp [putKT]⟩
    · obtain ⟨z', g1, g3⟩ := h.sound x h1
      refine ⟨z', g1, ?_⟩
      have : z' ≠ z := fun e' => h2 (e' ▸ g1)
      simp [putKT, this, g3]
  · intro z' v' hf
    have : (∃ x ∈ es, x.key = .string z') := by
      by_cases e1 : z' = z
      · subst e1; exact ⟨e, List.mem_of_getElem? hn, hz⟩
      · simp only [putKT, e1, if_false] at hf; exact h.full z' v' hf
    obtain ⟨x, h1, h2⟩ := this
    have h3 : Value.string z' ∈ (es.set n { e with val := v }).map (·.key) := by rw [hkeys]; exact List.mem_map.2 ⟨x, h1, h2⟩
    obtain ⟨y, h4, h5⟩ := List.mem_map.1 h3
    exact ⟨y, h4, h5⟩
  · intro x hx
    rcases hmem x hx with rfl | ⟨h1, h2⟩
    · exact h.lt e (List.mem_of_getElem? hn)
    · exact h.lt x h1
section
variable {c : Cx} {o : Oper} {E : Env} {H : List Blk} {nx : K1}
end
end Go.X

namespace Go.X
open Go
structure ItP (es : List MapEntry) (seen : Array Nat) (done : List Int) : Prop where
  iff : ∀ e ∈ es, e.born ∈ seen.toList ↔ ∃ z ∈ done, e.key = .int .i64 z
  cur : ∀ z rest, done = z :: rest → ∃ e ∈ es, ∃ s0 : Array Nat, e.key = .int .i64 z ∧ seen = s0.push e.born
theorem ItP.nil {es : List MapEntry} : ItP es #[] [] := ⟨fun e _ => by simp, fun _ _ h => by cases h⟩
def ItK (r m : Nat) (f : Int → Option Value) (done : List Int) : Ass :=
  ⟨fun w S => ∃ es clk seen, MRep es clk f ∧ ItP es seen done ∧ S m ∧ S r ∧ w.heap[m]? = some (.map es.toArray clk) ∧ w.heap[r]? = some (.mapIter (some m) clk seen clk),
   fun _ _ _ h ⟨es, clk, seen, h1, h2, h3, h4, h5, h6⟩ => ⟨es, clk, seen, h1, h2, h3, h4, by rw [h m h3]; exact h5, by rw [h r h4]; exact h6⟩⟩
theorem ItK.map {r m : Nat} {f : Int → Option Value} {done : List Int} {w : World} {S : Nat → Prop} (h : (ItK r m f done).holds w S) : (MpK m f).holds w S := by
  obtain ⟨es, clk, seen, h1, _, h3, _, h5, _⟩ := h
  exact ⟨es, clk, h1, h3, h5⟩
section
variable {c : Cx} {o : Oper} {E : Env} {H : List Blk} {nx : K1}
end
end Go.X
