/- Contracts and lemmas for the claim (part 0); no condition of its own. -/
import Derived.Lib.LaidU8
import Derived.OpenShut
import Derived.LaidHandle
set_option linter.all false
set_option maxRecDepth 100000
set_option maxHeartbeats 0
set_option linter.unusedVariables false
set_option linter.unusedSimpArgs false
set_option linter.unnecessarySimpa false
namespace Go.X
open Go
theorem LaidVars_find {P : Program} {w : World} : ∀ {l : List (String × DataW Unit)} {ps : List MemPlace}, DataW.LaidVars P w l ps → ∀ n d, (n, d) ∈ l →
    ∃ g t cs fuel p, P.globalNamed n = some g ∧ (P.globals[g]?).map (·.type) = some t ∧ w.var? P n = some cs ∧ DataW.trod (fun _ => ()) P w 0 (fun _ => true) false fuel t cs.toList = some (d, p) ∧ ∀ i, i < cs.size → MemPlace.cell g i ∈ ps
  | [], _, _, _, _, hm => by cases hm
  | (n', d') :: r, ps, h, n, d, hm => by
    obtain ⟨g, t, cs, fuel, p, q, h1, h2, h3, h4, h5, rfl⟩ := h
    rcases List.mem_cons.1 hm with e | e
    · cases e
      refine ⟨g, t, cs, fuel, p, h1, h2, h3, h4, fun i hi => ?_⟩
      simp only [List.mem_append]
      refine .inl (.inl ?_)
      unfold MemPlace.row
      exact List.mem_map.2 ⟨i, List.mem_range.2 hi, by simp⟩
    · obtain ⟨g', t', cs', fuel', p', a1, a2, a3, a4, a5⟩ := LaidVars_find h5 n d e
      exact ⟨g', t', cs', fuel', p', a1, a2, a3, a4, fun i hi => by simp [a5 i hi]⟩
theorem laid_ints {P : Program} {w : World} {l : List (String × DataW Unit)} (h : laidMet P l w) {n : String} {zs : List Int} {k : IntKind} (hm : (n, DataW.agg (zs.map fun z => .lit (.int k z))) ∈ l) {g t e : Nat} (hg : P.globalNamed n = some g) (ht : (P.globals[g]?).map (·.type) = some t)
    (hu : P.underlying t = some (.array zs.length e)) (he : P.underlying e = some (.int k)) (hc : P.cellsOf e = 1) (hct : P.cellsOf t = zs.length) (hz : 0 < zs.length) : ∃ t', w.heap[g]? = some (.cells (zs.map (Value.int k)).toArray t' (0, 0)) := by
  obtain ⟨ps, hv, _, hcells⟩ := h
  obtain ⟨g', t1, cs, fuel, p, h1, h2, h3, h4, h5⟩ := LaidVars_find hv n _ hm
  obtain rfl : g' = g := Option.some.inj (h1.symm.trans hg)
  obtain rfl : t1 = t := Option.some.inj (h2.symm.trans ht)
  obtain ⟨xs, m, rfl, hx, hl, hxl, hall⟩ := DataW.trod_array hu h4
  rw [hct] at hl
  rw [hc] at hall
  have hx1 : xs.map (·.1) = zs.map fun z => (DataW.lit (.int k z) : DataW Unit) := by
    have := congrArg Prod.fst hx
    simpa using this.symm
  have hcs : cs.toList = zs.map (Value.int k) := by
    apply List.ext_getElem?
    intro i
    by_cases hi : i < zs.length
    · have hxi : i < xs.length := by omega
      have h6 := hall i hi
      rw [List.getElem?_eq_getElem hxi] at h6
      obtain ⟨z, g1, g2, _⟩ := DataW.trod_int he h6
      have h7 : (xs.map (·.1))[i]? = some (.lit (.int k z)) := by rw [List.getElem?_map, List.getElem?_eq_getElem hxi, g2]; rfl
      rw [hx1, List.getElem?_map, List.getElem?_eq_getElem hi] at h7
      simp only [Option.map_some, Option.some.injEq, DataW.lit.injEq, Lit.int.injEq, true_and] at h7
      have h8 : ((cs.toList.drop (i * 1)).take 1)[0]? = some (.int k z) := by rw [g1]; rfl
      rw [List.getElem?_take, if_pos (by omega), List.getElem?_drop] at h8
      simp only [Nat.mul_one, Nat.add_zero] at h8
      rw [h8, List.getElem?_map, List.getElem?_eq_getElem hi, Option.map_some, h7]
    · rw [List.getElem?_eq_none (by omega), List.getElem?_eq_none (by simp; omega)]
  obtain ⟨⟨c, t', h6⟩, _⟩ := hcells g' 0 (h5 0 (by rw [← Array.length_toList, hl]; exact hz))
  unfold World.var? at h3
  rw [hg] at h3
  simp only [Option.bind_some, h6, Option.some.injEq] at h3
  refine ⟨t', ?_⟩
  rw [h6, h3, ← hcs]
theorem str_of_utf8 {a b : String} (h : a.toUTF8.data.toList = b.toUTF8.data.toList) : a = b := by
  have h1 : a.toUTF8 = b.toUTF8 := by
    have h2 : a.toUTF8.data = b.toUTF8.data := Array.toList_inj.1 h
    cases h3 : a.toUTF8
    cases h4 : b.toUTF8
    rw [h3, h4] at h2
    exact congrArg ByteArray.mk h2
  exact String.toByteArray_inj.1 h1
inductive ZipFn (P : Program) : List (DataW Unit) → List Value → Prop
  | nil : ZipFn P [] []
  | z {ds : List (DataW Unit)} {vs : List Value} (h : ZipFn P ds vs) : ZipFn P (.nil :: ds) (.nilFunc :: vs)
  | f {ds : List (DataW Unit)} {vs : List Value} {b : UInt8} {r : List UInt8} {f : Nat} (s : String) (hs : s.toUTF8.data.toList = b :: r) (hf : P.funcNamed s = some f) (h : ZipFn P ds vs) : ZipFn P (.iface "func" (.lit (.string (b :: r))) :: ds) (.func (.func f) #[] #[] :: vs)
theorem funcsOutAll_eq : ∀ (l : List (DataW Unit)), DataW.funcsOutAll l = l.map DataW.funcsOut
  | [] => by simp [DataW.funcsOutAll]
  | d :: r => by simp [DataW.funcsOutAll, funcsOutAll_eq r]
theorem zip_cells {P : Program} {w : World} {e : TypeId} {ps rs : Array TypeId} {vd : Bool} (he : P.underlying e = some (.func ps rs vd)) : ∀ {ds : List (DataW Unit)} {vs : List Value}, ZipFn P ds vs → ∀ {cs : List Value}, cs.length = ds.length →
    (∀ i, i < ds.length → ∃ m p, DataW.trod (funcToken P) P w 0 (fun _ => true) true m e ((cs.drop i).take 1) = some ((ds.map DataW.funcsOut)[i]?.getD .nil, p)) → cs = vs
  | _, _, .nil, cs, hl, _ => List.length_eq_zero_iff.1 hl
  | _, _, .z (ds := ds) h, cs, hl, hh => by
    cases cs with
    | nil => simp at hl
    | cons c cs =>
      have h1 : cs = _ := zip_cells he h (by simpa using hl) fun i hi => by
        obtain ⟨m, p, h2⟩ := hh (i + 1) (by simpa using hi)
        exact ⟨m, p, by simpa using h2⟩
      obtain ⟨m, p, h2⟩ := hh 0 (by simp)
      simp only [List.drop_zero, List.take_succ_cons, List.take_zero, List.map_cons, List.getElem?_cons_zero, Option.getD_some] at h2
      rw [h1]
      congr 1
      cases m with
      | zero => simp [DataW.trod] at h2
      | succ m =>
        simp only [DataW.trod, he] at h2
        cases c <;> simp_all [DataW.funcsOut]
  | _, _, .f (ds := ds) (b := b0) (r := r0) s hs hf h, cs, hl, hh => by
    cases cs with
    | nil => simp at hl
    | cons c cs =>
      have h1 : cs = _ := zip_cells he h (by simpa using hl) fun i hi => by
        obtain ⟨m, p, h2⟩ := hh (i + 1) (by simpa using hi)
        exact ⟨m, p, by simpa using h2⟩
      obtain ⟨m, p, h2⟩ := hh 0 (by simp)
      simp only [List.drop_zero, List.take_succ_cons, List.take_zero, List.map_cons, List.getElem?_cons_zero, Option.getD_some] at h2
      rw [h1]
      congr 1
      cases m with
      | zero => simp [DataW.trod] at h2
      | succ m =>
        simp only [DataW.trod, he] at h2
        have e1 : (DataW.funcsOut (.iface "func" (.lit (.string (b0 :: r0)))) : DataW (List UInt8)) = .held (b0 :: r0) := by simp [DataW.funcsOut]
        rw [e1] at h2
        cases c with
        | func fn first cap =>
          simp only [if_true, Option.some.injEq, Prod.mk.injEq, DataW.held.injEq] at h2
          obtain ⟨f', fn', g1, g2, g3, g4⟩ := funcToken_tells h2.1
          have : fn'.name = s := str_of_utf8 (by rw [g4, hs])
          rw [this, hf] at g3
          cases g3
          exact g1
        | _ => simp at h2
theorem laid_fns {P : Program} {w : World} {l : List (String × DataW Unit)} (h : laidMetH P l w) {n : String} {ds : List (DataW Unit)} (hm : (n, DataW.iface "func table" (.agg ds)) ∈ l) {g t e : Nat} (hg : P.globalNamed n = some g) (ht : (P.globals[g]?).map (·.type) = some t)
    (hu : P.underlying t = some (.array ds.length e)) {ps rs : Array TypeId} {vd : Bool} (he : P.underlying e = some (.func ps rs vd)) (hc : P.cellsOf e = 1) (hct : P.cellsOf t = ds.length) {vs : List Value} (hz : ZipFn P ds vs) : ∃ t' fr, w.heap[g]? = some (.cells vs.toArray t' fr) := by
  obtain ⟨g', t1, cs, fuel, p, h1, h2, h3, h4⟩ := laidMetH.funcs h hm
  obtain rfl : g' = g := Option.some.inj (h1.symm.trans hg)
  obtain rfl : t1 = t := Option.some.inj (h2.symm.trans ht)
  obtain ⟨xs, m, rfl, hx, hl, hxl, hall⟩ := DataW.trod_array hu h4
  rw [hct] at hl
  rw [hc] at hall
  have hx1 : xs.map (·.1) = ds.map DataW.funcsOut := by
    have := congrArg Prod.fst hx
    simp only [DataW.funcsOut, funcsOutAll_eq, DataW.agg.injEq] at this
    exact this.symm
  have hcs : cs.toList = vs := zip_cells he hz hl fun i hi => by
    have h6 := hall i hi
    have hxi : i < xs.length := by omega
    rw [List.getElem?_eq_getElem hxi, Nat.mul_one] at h6
    refine ⟨m, xs[i].2, ?_⟩
    rw [h6, ← hx1, List.getElem?_map, List.getElem?_eq_getElem hxi]
    rfl
  unfold World.var? at h3
  rw [hg] at h3
  simp only [Option.bind_some] at h3
  split at h3
  · rename_i cs' t' fr hh
    cases h3
    exact ⟨t', fr, by rw [hh, ← hcs]⟩
  · cases h3
end Go.X
