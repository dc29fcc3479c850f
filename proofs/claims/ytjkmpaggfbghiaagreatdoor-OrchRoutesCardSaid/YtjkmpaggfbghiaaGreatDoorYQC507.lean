/- Contracts and lemmas for the claim (part 7); no condition of its own. -/
import Derived.Test.YtjkmpaggfbghiaaGreatDoorYQC504
set_option linter.all false
set_option maxRecDepth 100000
set_option maxHeartbeats 0
set_option linter.unusedVariables false
set_option linter.unusedSimpArgs false
set_option linter.unnecessarySimpa false

namespace Go.X
open Go
theorem run_checkKeyT {P : Program} {w : World} {b : Bool} {n t : Nat} (v : Value) (ht : P.underlying t = some .string) : (Instr.checkKey b (n + 1) t v).run P w = .ok () w := by
  cases v <;> simp [Instr.checkKey, run_underlying ht]
theorem bytesBeq (a b : ByteArray) : (a == b) = decide (a = b) := by
  rw [Bool.eq_iff_iff, decide_eq_true_eq]
  obtain ⟨x⟩ := a
  obtain ⟨y⟩ := b
  constructor
  · intro h
    have e : x = y := by simpa using (show (x == y) = true from h)
    rw [e]
  · intro h
    cases h
    show (x == x) = true
    simp
structure MRepT (es : List MapEntry) (clk : Nat) (f : ByteArray → Option Value) : Prop where
  sound : ∀ e ∈ es, ∃ z, e.key = .string z ∧ f z = some e.val
  full : ∀ z v, f z = some v → ∃ e ∈ es, e.key = .string z
  keys : (es.map (·.key)).Nodup
  borns : (es.map (·.born)).Nodup
  lt : ∀ e ∈ es, e.born < clk
theorem MRepT.nil : MRepT [] 0 fun _ => none := ⟨by simp, by simp, by simp, by simp, by simp⟩
theorem MRepT.at {es : List MapEntry} {clk : Nat} {f : ByteArray → Option Value} (h : MRepT es clk f) {e : MapEntry} {z : ByteArray} (he : e ∈ es) (hz : e.key = .string z) : f z = some e.val := by
  obtain ⟨z', h1, h3⟩ := h.sound e he
  have : z' = z := by rw [hz] at h1; simpa using h1.symm
  subst this
  exact h3
theorem MRepT.out {es : List MapEntry} {clk : Nat} {f : ByteArray → Option Value} (h : MRepT es clk f) {z : ByteArray} (hn : ∀ e ∈ es, e.key ≠ .string z) : f z = none := by
  cases hf : f z with
  | none => rfl
  | some v => obtain ⟨e, h1, h2⟩ := h.full z v hf; exact absurd h2 (hn e h1)
theorem findNow_i64T {z : ByteArray} : ∀ {es : List MapEntry} {i : Nat}, (∀ e ∈ es, ∃ z', e.key = .string z') →
    (∃ (n : Nat) (e : MapEntry), es[n]? = some e ∧ e.key = .string z ∧ Instr.findNow .string (.string z) es i = some (some (i + n, e.val))) ∨ ((∀ e ∈ es, e.key ≠ .string z) ∧ Instr.findNow .string (.string z) es i = some none)
  | [], i, _ => .inr ⟨by simp, rfl⟩
  | e :: es, i, h => by
    obtain ⟨z', hz⟩ := h e (by simp)
    by_cases hzz : z = z'
    · subst hzz
      exact .inl ⟨0, e, rfl, hz, by simp [Instr.findNow, Instr.sameNow, hz, bytesBeq]⟩
    · have hb : (z == z') = false := by rw [bytesBeq]; exact decide_eq_false hzz
      have hs : Instr.sameNow .string (.string z) e.key = some false := by simp [Instr.sameNow, hz, hb]
      rcases findNow_i64T (z := z) (es := es) (i := i + 1) (fun e he => h e (by simp [he])) with ⟨n, e', h1, h2, h3⟩ | ⟨h1, h2⟩
      · exact .inl ⟨n + 1, e', by simpa using h1, h2, by simp only [Instr.findNow, hs]; rw [h3]; simp only [Option.some.injEq, Prod.mk.injEq, and_true]; omega⟩
      · refine .inr ⟨fun e' he => ?_, by simp only [Instr.findNow, hs]; exact h2⟩
        simp only [List.mem_cons] at he
        rcases he with rfl | he
        · rw [hz]; simpa using fun e => hzz e.symm
        · exact h1 e' he
theorem MRepT.find {es : List MapEntry} {clk : Nat} {f : ByteArray → Option Value} (h : MRepT es clk f) {P : Program} {kt : Nat} (ht : P.underlying kt = some .string) (z : ByteArray) (w : World) :
    (∃ (n : Nat) (e : MapEntry), es[n]? = some e ∧ e.key = .string z ∧ f z = some e.val ∧ (Instr.findKey kt (.string z) es).run P w = .ok (some (n, e.val)) w) ∨ ((∀ e ∈ es, e.key ≠ .string z) ∧ f z = none ∧ (Instr.findKey kt (.string z) es).run P w = .ok none w) := by
  rcases findNow_i64T (z := z) (es := es) (i := 0) (fun e he => by obtain ⟨z', h1, _⟩ := h.sound e he; exact ⟨z', h1⟩) with ⟨n, e, h1, h2, h3⟩ | ⟨h1, h2⟩
  · refine .inl ⟨n, e, h1, h2, h.at (List.mem_of_getElem? h1) h2, ?_⟩
    rw [Nat.zero_add] at h3
    simp [Instr.findKey, run_underlying ht, h3]
  · exact .inr ⟨h1, h.out h1, by simp [Instr.findKey, run_underlying ht, h2]⟩
def putKT (f : ByteArray → Option Value) (z : ByteArray) (v : Value) : ByteArray → Option Value := fun k => if k = z then some v else f k
theorem MRepT.push {es : List MapEntry} {clk : Nat} {f : ByteArray → Option Value} (h : MRepT es clk f) {z : ByteArray} (hn : ∀ e ∈ es, e.key ≠ .string z) (v : Value) : MRepT (es ++ [⟨.string z, v, clk⟩]) (clk + 1) (putKT f z v) where
  sound := by
    intro e he
    simp only [List.mem_append, List.mem_singleton] at he
    rcases he with he | rfl
    · obtain ⟨z', h1, h3⟩ := h.sound e he
      refine ⟨z', h1, ?_⟩
      have : z' ≠ z := fun e' => hn e he (e' ▸ h1)
      simp [putKT, this, h3]
    · exact ⟨z, rfl, by simp [putKT]⟩
  full := by
    intro z' v' hf
    by_cases e : z' = z
    · subst e; exact ⟨⟨.string z', v, clk⟩, by simp, rfl⟩
    · simp only [putKT, e, if_false] at hf
      obtain ⟨x, h1, h2⟩ := h.full z' v' hf
      exact ⟨x, by simp [h1], h2⟩
  keys := by
    rw [List.map_append, List.nodup_append]
    refine ⟨h.keys, by simp, ?_⟩
    intro a ha b hb
    obtain ⟨e, h1, rfl⟩ := List.mem_map.1 ha
    have : b = .string z := by simpa using hb
    subst this
    exact hn e h1
  borns := by
    rw [List.map_append, List.nodup_append]
    refine ⟨h.borns, by simp, ?_⟩
    intro a ha b hb
    obtain ⟨e, h1, rfl⟩ := List.mem_map.1 ha
    have : b = clk := by simpa using hb
    have := h.lt e h1
    omega
  lt := by
    intro e he
    simp only [List.mem_append, List.mem_singleton] at he
    rcases he with he | rfl
    · have := h.lt e he; omega
    · exact Nat.lt_succ_self _
theorem MRepT.set {es : List MapEntry} {clk : Nat} {f : ByteArray → Option Value} (h : MRepT es clk f) {z : ByteArray} {n : Nat} {e : MapEntry} (hn : es[n]? = some e) (hz : e.key = .string z) (v : Value) : MRepT (es.set n { e with val := v }) clk (putKT f z v) := by
  have hlt : n < es.length := (List.getElem?_eq_some_iff.1 hn).1
  have hmem : ∀ x ∈ es.set n { e with val := v }, (x = { e with val := v }) ∨ (x ∈ es ∧ x.key ≠ .string z) := by
    intro x hx
    obtain ⟨m, hm⟩ := List.mem_iff_getElem?.1 hx
    by_cases hmn : n = m
    · subst hmn
      rw [List.getElem?_set_self hlt] at hm
      exact .inl (by simpa using hm.symm)
    · rw [List.getElem?_set_ne hmn] at hm
      exact .inr ⟨List.mem_of_getElem? hm, fun hk => hmn (nodup_key h.keys hn hm (hz.trans hk.symm))⟩
  have hkeys : (es.set n { e with val := v }).map (·.key) = es.map (·.key) := by
    apply List.ext_getElem?
    intro m
    by_cases hmn : n = m
    · subst hmn; simp [hlt, hn]; 
      have := List.getElem?_eq_some_iff.1 hn
      simp [this.2]
    · simp [List.getElem?_set_ne hmn]
  have hborns : (es.set n { e with val := v }).map (·.born) = es.map (·.born) := by
    apply List.ext_getElem?
    intro m
    by_cases hmn : n = m
    · subst hmn; simp [hlt, hn]
      have := List.getElem?_eq_some_iff.1 hn
      simp [this.2]
    · simp [List.getElem?_set_ne hmn]
  refine ⟨?_, ?_, by rw [hkeys]; exact h.keys, by rw [hborns]; exact h.borns, ?_⟩
  · intro x hx
    rcases hmem x hx with rfl | ⟨h1, h2⟩
    · exact ⟨z, hz, by simp [putKT]⟩
    · obtain ⟨z', g1, g3⟩ := h.sound x h1
      refine ⟨z', g1, ?_⟩
      have : z' ≠ z := fun e' => h2 (e' ▸ g1)
      simp [putKT, this, g3]
  · intro z' v' hf
    have : (∃ x ∈ es, x.key = .string z') := by
      by_cases e1 : z' = z
      · subst e1; exact ⟨e, List.mem_of_getElem? hn, hz⟩
      · simp only [putKT, e1, if_false] at hf; exact h.full z' v' hf
    obtain ⟨x, h1, h2⟩ := this
    have h3 : Value.string z' ∈ (es.set n { e with val := v }).map (·.key) := by rw [hkeys]; exact List.mem_map.2 ⟨x, h1, h2⟩
    obtain ⟨y, h4, h5⟩ := List.mem_map.1 h3
    exact ⟨y, h4, h5⟩
  · intro x hx
    rcases hmem x hx with rfl | ⟨h1, h2⟩
    · exact h.lt e (List.mem_of_getElem? hn)
    · exact h.lt x h1
def MpKT (m : Nat) (f : ByteArray → Option Value) : Ass := ⟨fun w S => ∃ es clk, MRepT es clk f ∧ S m ∧ w.heap[m]? = some (.map es.toArray clk), fun _ _ _ h ⟨es, clk, h1, h2, h3⟩ => ⟨es, clk, h1, h2, by rw [h m h2]; exact h3⟩⟩
theorem Kn.getKT {W S ms H w} {i m : Nat} {f : ByteArray → Option Value} {fn : Blk → List Blk} (hu : At H (.ext i (MpKT m f)) fn) (h : Kn W S ms H w) : ∃ es clk, MRepT es clk f ∧ w.heap[m]? = some (.map es.toArray clk) := by
  obtain ⟨T, ⟨es, clk, h1, _, h3⟩, _⟩ := h.upd1 hu
  exact ⟨es, clk, h1, h3⟩
theorem Kn.setKT {W S ms H w} {i m : Nat} {f : ByteArray → Option Value} {fn : Blk → List Blk} (hu : At H (.ext i (MpKT m f)) fn) (h : Kn W S ms H w) :
    ∃ es clk, MRepT es clk f ∧ w.heap[m]? = some (.map es.toArray clk) ∧ ∀ es' clk' f', MRepT es' clk' f' → Kn W S ms (fn (.ext i (MpKT m f'))) { w with heap := w.heap.setIfInBounds m (.map es'.toArray clk') } := by
  obtain ⟨T, ⟨es, clk, g1, g2, g3⟩, h4, h5, h6⟩ := h.upd1 hu
  have hlt := h4 m g2
  refine ⟨es, clk, g1, g3, fun es' clk' f' hr => ?_⟩
  refine h6 (.ext i (MpKT m f')) _ ⟨⟨rfl, rfl, rfl, by simp, fun k hk hn => ?_⟩, fun k => k = m, ⟨es', clk', hr, rfl, by simp [hlt]⟩, fun k hk => by subst hk; exact ⟨by simpa using hlt, .inl g2⟩⟩
  have : m ≠ k := fun e => hn (e ▸ g2)
  simp [this]
theorem MpA.toKT {m clk : Nat} {es : List MapEntry} {f : ByteArray → Option Value} (h : MRepT es clk f) {w : World} {S : Nat → Prop} (hx : (MpA m es clk).holds w S) : (MpKT m f).holds w S := ⟨es, clk, h, hx.1, hx.2⟩
section
variable {c : Cx} {o : Oper} {E : Env} {H : List Blk} {nx : K1}
theorem OpK.mkMKT {t : Nat} (ho : o.op = .makeMap t none) (h : nextF H fun i => ∀ m, nx (.v (.map (some m))) (.ext i (MpKT m fun _ => none) :: H)) : OpK c o E H nx := by
  have hnd : ∀ cl, o.op ≠ .defer cl := by rw [ho]; intro cl e; cases e
  obtain ⟨i, h⟩ := nextF_spec h
  refine OpK.run hnd fun ms ac w ha hk => ⟨.v (.map (some w.heap.size)), _, _, ?_, (hk.allocO i (.map #[] 0)).hsub (HSub.ext (fun w S hx => MpA.toKT (es := []) MRepT.nil hx) (HSub.refl _)), h w.heap.size⟩
  simp [execOp, ho, Instr.makeMap, den]
theorem OpK.lkST {t kt et : Nat} {x ix : Operand} {ok : Bool} {ti tk : TI} {m i : Nat} {z : ByteArray} {v : Value} {f : ByteArray → Option Value} {fn : Blk → List Blk} (ho : o.op = .lookup t x ix ok) (hx : opd E x = some (.v (.map (some m)))) (hi : opd E ix = some (.v (.string z)))
    (hti : c.T.get t = some ti) (hd : ti.desc = .map kt et) (htk : c.T.get kt = some tk) (hdk : tk.desc = .string) (hu : At H (.ext i (MpKT m f)) fn) (hf : f z = some v)
    (h : nx (if ok then .tup [.v v, .v (.bool true)] else .v v) H) : OpK c o E H nx := by
  have hnd : ∀ cl, o.op ≠ .defer cl := by rw [ho]; intro cl e; cases e
  refine OpK.val hnd _ (fun ms ac w ha hk => ?_) h
  have h1 := (c.ok t ti hti).1
  rw [hd] at h1
  have h2 := (c.ok kt tk htk).1
  rw [hdk] at h2
  have e1 := ha.opd hx
  have e2 := ha.opd hi
  simp only [den] at e1 e2
  obtain ⟨es, clk, hr, hb⟩ := hk.getKT hu
  have hg := getObj_ran (P := c.P) hb (by intro _ _ _ e; cases e)
  rcases hr.find (P := c.P) h2 z w with ⟨n, e, g1, g2, g3, g4⟩ | ⟨_, g2, _⟩
  · obtain rfl : v = e.val := by rw [hf] at g3; simpa using g3
    cases ok <;> simp [execOp, ho, e1, e2, Instr.lookup, run_underlying h1, hg, run_checkKeyT _ h2, g4, den, denL]
  · rw [hf] at g2; cases g2
theorem OpK.upKT {t kt et : Nat} {x ix y : Operand} {ti tk : TI} {m i : Nat} {z : ByteArray} {s : SV} {f : ByteArray → Option Value} {fn : Blk → List Blk} (ho : o.op = .mapUpdate t x ix y) (hx : opd E x = some (.v (.map (some m)))) (hi : opd E ix = some (.v (.string z))) (hy : opd E y = some s)
    (hti : c.T.get t = some ti) (hd : ti.desc = .map kt et) (htk : c.T.get kt = some tk) (hdk : tk.desc = .string) (hu : At H (.ext i (MpKT m f)) fn) 
    (h : nx (.v undef) (fn (.ext i (MpKT m (putKT f z (den s)))))) : OpK c o E H nx := by
  have hnd : ∀ cl, o.op ≠ .defer cl := by rw [ho]; intro cl e; cases e
  refine ⟨?_⟩
  intro ms a w ha hk Q
  have h1 := (c.ok t ti hti).1
  rw [hd] at h1
  have h2 := (c.ok kt tk htk).1
  rw [hdk] at h2
  have e1 := ha.opd hx
  have e2 := ha.opd hi
  have e3 := ha.opd hy
  simp only [den] at e1 e2
  obtain ⟨es, clk, hr, hb, hset⟩ := hk.setKT hu
  have hg := getObj_ran (P := c.P) hb (by intro _ _ _ e; cases e)
  rcases hr.find (P := c.P) h2 z w with ⟨n, e, g1, g2, g3, g4⟩ | ⟨g1, g2, g3⟩
  · obtain ⟨ek, ev, eb⟩ := e
    simp only at g2
    subst g2
    have hk' := hset _ _ _ (hr.set g1 rfl (den s))
    have hs := setObj_run (P := c.P) (o' := .map (es.set n ⟨.string z, den s, eb⟩).toArray clk) hb (by intro _ _ _ e; cases e)
    have hst : Instr.keyThatStays (.string z) (.string z) = pure (.string z) := by simp [Instr.keyThatStays, Instr.sameBits, bytesBeq]
    have hlt : n < es.length := (List.getElem?_eq_some_iff.1 g1).1
    have hm : (es.modify n fun e => { key := .string z, val := den s, born := e.born }) = es.set n ⟨.string z, den s, eb⟩ := by
      apply List.ext_getElem?
      intro k
      rw [List.getElem?_modify, List.getElem?_set]
      by_cases hnk : n = k
      · subst hnk
        have := (List.getElem?_eq_some_iff.1 g1).2
        simp [g1, hlt, this]
      · simp [hnk]
    exact wpIn_of_skip hnd (w' := { w with heap := w.heap.setIfInBounds m (.map (es.set n ⟨.string z, den s, eb⟩).toArray clk) }) (by simp [execOp, ho, e1, e2, e3, Instr.mapUpdate, run_underlying h1, hg, run_checkKeyT _ h2, g4, g1, hst, hm, hs]) ⟨.v undef, _, rfl, hk', h⟩
  · have hk' := hset _ _ _ (hr.push g1 (den s))
    have hs := setObj_run (P := c.P) (o' := .map (es ++ [(⟨.string z, den s, clk⟩ : MapEntry)]).toArray (clk + 1)) hb (by intro _ _ _ e; cases e)
    exact wpIn_of_skip hnd (w' := { w with heap := w.heap.setIfInBounds m (.map (es ++ [(⟨.string z, den s, clk⟩ : MapEntry)]).toArray (clk + 1)) }) (by simp [execOp, ho, e1, e2, e3, Instr.mapUpdate, run_underlying h1, hg, run_checkKeyT _ h2, g3, hs]) ⟨.v undef, _, rfl, hk', h⟩
end
end Go.X
