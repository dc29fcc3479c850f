/- Contracts and lemmas for the claim (part 16); no condition of its own. -/
import Derived.Test.YtjkmpaggfbghiaaGreatDoorYQC800
import Derived.Test.YtjkmpaggfbghiaaGreatDoorYQC815
import Derived.Test.YtjkmpaggfbghiaaGreatDoorCards
import Derived.Test.YtjkmpaggfbghiaaGreatDoorTie
import Derived.ProofKit
import Derived.OpenShut
import Derived.Lay
import Derived.LaidMore
import Derived.LaidHandle
import Derived.Carry
import Derived.MakeChecks
import Derived.Deep.DeepHandedRow
import Derived.ChangeMaps5
import Derived.ChangeSlices
import Derived.Test.YtjkmpaggfbghiaaGreatDoorYQC806
import Derived.Test.YtjkmpaggfbghiaaGreatDoorYQC807
set_option linter.all false
set_option linter.unusedVariables false
set_option linter.unusedSimpArgs false
set_option linter.unnecessarySimpa false
set_option linter.all false
namespace Go.Proofs.YtjkmpaggfbghiaaGreatDoor
open Go Go.X Go.ChangeShapes Go.WideShapes Go.RowKit
set_option maxRecDepth 1000000
set_option maxHeartbeats 0
section
variable {H : Type} {enc : TypeId × Value → H} {P : Program}
theorem post_of_below {f : Func} {s : ChangeSpec} {apart fresh handsOn again : Bool} {W W' : World} {args : Array Value} {v : Value} {ds gs : List (DataW H)} {before pa pv : List MemPlace}
    (hW : DataW.Whole enc P f.params.toList s.vars apart W args.toList ds gs before)
    (hres : ∀ (b : Nat) (sp : Nat → Bool) (hd : Bool), DataW.TrodAll enc P W' b sp hd f.resultTypes.toList (v.resultList f.resultTypes.size) (s.fn H (ds ++ gs)).results [])
    (hargs : ∀ sp : Nat → Bool, (∀ p ∈ before, sp p.block = true) → DataW.TrodAll enc P W' 0 sp true f.params.toList args.toList (s.fn H (ds ++ gs)).args pa)
    (hvars : ∀ sp : Nat → Bool, (∀ p ∈ before, sp p.block = true) → DataW.TrodVars enc P W' sp s.vars (s.fn H (ds ++ gs)).vars pv)
    (hps : before = pa ++ pv) (hb : Below W.heap.size W W')
    (hok : ∀ (j : Nat) (t : TypeId) (r : Value), f.resultTypes[j]? = some t → (v.resultList f.resultTypes.size)[j]? = some r → Value.okWide P W' .any 0 t r) :
    s.post enc P f apart fresh handsOn again W args v W' := by
  have hlt : ∀ p ∈ before, p.block < W.heap.size := fun p hp => hW.lt p hp
  have hold : ∀ p ∈ before, (fun b => decide (b < W.heap.size)) p.block = true := fun p hp => by simpa using hlt p hp
  refine ⟨ds, gs, before, [], pa, pv, hW, hres _ _ _, hargs _ hold, hvars _ hold, World.keptBut_mono (fun p hp => ⟨hp, ?_⟩) (hb.frame (· ∈ before)), fun _ => ?_⟩
  · rw [hps, List.mem_append] at hp
    exact Or.inr hp
  · obtain ⟨_, _, _, _, _, hz, hn⟩ := hW
    refine ⟨hok, _, _, ([] ++ pa) ++ pv, ⟨[] ++ pa, pv, trodAll_append (hargs _ (fun _ _ => rfl)) (hres _ _ _), hvars _ (fun _ _ => rfl), rfl, ?_, ?_⟩, ?_⟩
    · intro b off hp
      have hin : MemPlace.cell b off ∈ before := by rw [hps]; simpa using hp
      rw [hb.frozen (hlt _ hin)]
      exact hz b off hin
    · intro ha
      have := hn ha
      rw [hps] at this
      simpa using this
    · intro p hp _
      rw [hps]
      simpa using hp
end
theorem and_t {a b : Bool} (h : a = true) (h' : b = true) : (a && b) = true := by rw [h, h']; rfl
theorem own : ownKnob Tryz.prog.godebug = none := by kernel_rfl
theorem laidOut : laidOutB Tryz.prog = true := by kernel_rfl
section
variable {H : Type} {enc : TypeId × Value → H} {P : Program} {W W' : World} {sp : Nat → Bool}
theorem trodAll_below (hl : laidOutB P = true) (hb : Below W.heap.size W W') : ∀ {ts : List TypeId} {vs : List Value} {ds : List (DataW H)} {ps : List MemPlace}, (ts.all fun t => P.readableRec t && decide (t < P.types.size)) = true →
    DataW.TrodAll enc P W 0 (fun _ => true) true ts vs ds ps → (∀ x ∈ ps, x.block < W.heap.size) → (∀ x ∈ ps, sp x.block = true) → DataW.TrodAll enc P W' 0 sp true ts vs ds ps := by
  intro ts
  induction ts with
  | nil =>
    intro vs ds ps _ h _ _
    obtain ⟨rfl, rfl, rfl⟩ := trodAll_nil h
    rfl
  | cons t ts ih =>
    intro vs ds ps hr h hlt hsp
    obtain ⟨v, vs', d, ds', p, q, rfl, rfl, rfl, h1, h2⟩ := trodAll_cons h
    rw [List.all_cons, Bool.and_eq_true, Bool.and_eq_true] at hr
    exact trodAll_cons_mk (WideElems.Trod_stays hl hr.1.1 (of_decide_eq_true hr.1.2) h1 (fun x hx => hb.same (hlt x (List.mem_append_left _ hx))) (fun x hx => hsp x (List.mem_append_left _ hx)))
      (ih hr.2 h2 (fun x hx => hlt x (List.mem_append_right _ hx)) (fun x hx => hsp x (List.mem_append_right _ hx)))
/-- A LAW's END: it answered true, and nothing that stood ahead of it has turned. -/
theorem law_post {f : Func} {s : ChangeSpec} {t4 : TypeId} {args : Array Value} {ds gs : List (DataW H)} {before : List MemPlace} (hl : laidOutB P = true) (h4 : P.underlying t4 = some .bool)
    (hr : (f.params.toList.all fun t => P.readableRec t && decide (t < P.types.size)) = true) (hres : f.resultTypes = #[t4]) (hv : s.vars = [])
    (hW : DataW.Whole enc P f.params.toList s.vars false W args.toList ds gs before) (hfn : s.fn H (ds ++ gs) = { results := [.lit (.bool true)], args := ds }) (hb : Below W.heap.size W W') :
    s.post enc P f false true false false W args (.bool true) W' := by
  have hlt : ∀ p ∈ before, p.block < W.heap.size := fun p hp => hW.lt p hp
  have hW2 := hW
  obtain ⟨p, q, hA, hV, hbef, _⟩ := hW2
  rw [hv] at hV
  obtain ⟨_, rfl⟩ := trodVars_none hV
  have hfa : (s.fn H (ds ++ gs)).args = ds := by rw [hfn]
  have hfr : (s.fn H (ds ++ gs)).results = [.lit (.bool true)] := by rw [hfn]
  have hfv : (s.fn H (ds ++ gs)).vars = [] := by rw [hfn]
  refine post_of_below (pa := p) (pv := []) hW (fun b sp hd => ?_) (fun sp hsp => ?_) (fun sp _ => ?_) hbef hb (ok_one hres rfl (okWide_bool_mk h4 _))
  · rw [hfr, hres]; exact trodAll_mk1 (shut_bool h4 _)
  · rw [hfa]
    exact trodAll_below hl hb hr hA (fun x hx => hlt x (by rw [hbef]; exact List.mem_append_left _ hx)) (fun x hx => hsp x (by rw [hbef]; exact List.mem_append_left _ hx))
  · rw [hfv, hv]; rfl
end
theorem laidMetH.plain {P : Program} {l : List (String × DataW Unit)} {w : World} (h : laidMetH P l w) : laidMet P (l.filter fun x => x.2.handleName?.isNone) w := by
  unfold laidMetH at h
  generalize hfl : (l.filter fun x => x.2.handleName?.isSome) = fl at h
  cases fl with
  | nil =>
    have e : (l.filter fun x => x.2.handleName?.isNone) = l := by
      rw [List.filter_eq_self]
      intro x hx
      have := (List.filter_eq_nil_iff.1 hfl) x hx
      cases hn : x.2.handleName? with
      | none => rfl
      | some s => rw [hn] at this; exact absurd rfl this
    rw [e]
    exact h
  | cons q qs => exact h.1
theorem KObj.of_laid {l : List (String × DataW Unit)} {W : World} (h : laidMetH Tryz.prog l W) (hm1 : ("skald/saga.phases", Rows.laid_skald_saga_phases) ∈ l) (hm2 : ("skald/saga.follow", Rows.laid_skald_saga_follow) ∈ l) :
    ∃ o0 o1, KObj o0 o1 ∧ W.heap[0]? = some o0 ∧ W.heap[1]? = some o1 := by
  obtain ⟨t1, h1⟩ := laid_ints (laidMetH.plain h) (n := "skald/saga.phases") (k := .i64) (zs := [0, 1, 3, 2]) (List.mem_filter.2 ⟨hm1, by kernel_rfl⟩) (g := 0) (by kernel_rfl) (t := 135) (e := 3) (by kernel_rfl) Tryz.underlying135 Tryz.underlying3 (by kernel_rfl) (by kernel_rfl) (by decide)
  obtain ⟨t0, f0, h0⟩ := laid_fns h (n := "skald/saga.follow") (ds := [.nil, .iface "func" (.lit (.string [40, 115, 107, 97, 108, 100, 47, 115, 97, 103, 97, 46, 83, 97, 103, 97, 41, 46, 102, 111, 114, 119, 97, 114, 100])), .iface "func" (.lit (.string [40, 115, 107, 97, 108, 100, 47, 115, 97, 103, 97, 46, 83, 97, 103, 97, 41, 46, 102, 114, 101, 101])), .iface "func" (.lit (.string [40, 115, 107, 97, 108, 100, 47, 115, 97, 103, 97, 46, 83, 97, 103, 97, 41, 46, 117, 110, 100, 111]))]) hm2 (g := 1) (by kernel_rfl) (t := 282) (e := 281) (by kernel_rfl) Tryz.underlying282 Tryz.underlying281 (by kernel_rfl) (by kernel_rfl)
    (.z (.f "(skald/saga.Saga).forward" (by kernel_rfl) (by kernel_rfl) (.f "(skald/saga.Saga).free" (by kernel_rfl) (by kernel_rfl) (.f "(skald/saga.Saga).undo" (by kernel_rfl) (by kernel_rfl) .nil))))
  exact ⟨_, _, ⟨⟨t1, (0, 0), rfl⟩, ⟨t0, f0, rfl⟩⟩, h1, h0⟩
/-- a law's walk, as a call that changes nothing that was there -/
theorem pu_of_gl {P : Program} {f : FuncId} {args : Array Value} {w : World} {o0 o1 : Obj} (h0 : w.heap[0]? = some o0) (h1 : w.heap[1]? = some o1)
    (h : FrZ P f args w (AssL [.ext 9 (GlX o0 o1)]) (fun _ : Unit => .bool true) (fun _ => AssL [.ext 9 (GlA o0 o1)])) : Pu P f args w (.bool true) := by
  have l0 : 0 < w.heap.size := (Array.getElem?_eq_some_iff.1 h0).1
  have l1 : 1 < w.heap.size := (Array.getElem?_eq_some_iff.1 h1).1
  refine (h (fun k => (k = 0 ∨ k = 1) ∨ False) (.cons (x := .ext 9 (GlX o0 o1)) (S := fun k => k = 0 ∨ k = 1) ⟨fun _ hk => hk, ⟨.inl rfl, .inr rfl⟩, h0, h1⟩ (by rintro k (rfl | rfl) <;> assumption) .nil (fun _ _ hk => hk)) (by
    rintro k ((rfl | rfl) | hk)
    · exact l0
    · exact l1
    · exact hk.elim)).mono ?_
  rintro e w' ⟨_, rfl, he, S', hA, _⟩
  have hA : Holds w' [.ext 9 (GlA o0 o1)] S' := hA
  cases hA with
  | @cons _ _ S1 T1 hx hb hH hd =>
    obtain ⟨_, g0, g1⟩ := hx
    refine ⟨rfl, he.os, he.tape, he.output, he.size, fun k hk => ?_⟩
    by_cases e0 : k = 0
    · subst e0; rw [g0, h0]
    · by_cases e1 : k = 1
      · subst e1; rw [g1, h1]
      · exact he.old k hk (fun e => e.elim (fun e => e.elim e0 e1) id)
theorem wf_u16 {n : Int} (h : (Lit.int .u16 n).wf = true) : 0 ≤ n ∧ n ≤ 65535 := by
  simp [Lit.wf, IntKind.min, IntKind.max, IntKind.signed, IntKind.bits] at h; omega
theorem wf_u8 {n : Int} (h : (Lit.int .u8 n).wf = true) : 0 ≤ n ∧ n ≤ 255 := by
  simp [Lit.wf, IntKind.min, IntKind.max, IntKind.signed, IntKind.bits] at h; omega
section
variable {H : Type} {enc : TypeId × Value → H} {w : World} {base : Nat} {sp : Nat → Bool} {held : Bool}
theorem move_cells {fuel : Nat} {cs : List Value} {x : DataW H × List MemPlace} (h : DataW.trod enc Tryz.prog w base sp held fuel 46 cs = some x) : ∃ a b : Nat, cs = [.int .u8 (a : Nat), .int .u16 (b : Nat)] ∧ a ≤ 255 ∧ b ≤ 65535 := by
  obtain ⟨xs, n, _, _, hl, hxl, hall⟩ := DataW.trod_struct Tryz.underlying46 h
  have hC : Tryz.prog.cellsOf 46 = 2 := by kernel_rfl
  have hC5 : Tryz.prog.cellsOf 5 = 1 := by kernel_rfl
  have hC44 : Tryz.prog.cellsOf 44 = 1 := by kernel_rfl
  rw [hC] at hl
  match cs, hl with
  | [c0, c1], _ =>
  match xs, hxl with
  | [y0, y1], _ =>
  have q0 := hall 0 _ rfl
  have e0 : DataW.trod enc Tryz.prog w base sp held n 5 (([c0, c1].drop 0).take (Tryz.prog.cellsOf 5)) = some y0 := q0
  rw [hC5] at e0
  have q1 := hall 1 _ rfl
  have e1 : DataW.trod enc Tryz.prog w base sp held n 44 (([c0, c1].drop 1).take (Tryz.prog.cellsOf 44)) = some y1 := q1
  rw [hC44] at e1
  obtain ⟨z0, f0, _, g0⟩ := DataW.trod_int Tryz.underlying5 e0
  obtain ⟨z1, f1, _, g1⟩ := DataW.trod_int Tryz.underlying44 e1
  simp only [List.drop_zero, List.take_succ_cons, List.take_zero, List.drop_succ_cons, List.cons.injEq, and_true] at f0 f1
  have b0 := wf_u8 g0
  have b1 := wf_u16 g1
  refine ⟨z0.toNat, z1.toNat, ?_, by omega, by omega⟩
  rw [f0, f1, Int.toNat_of_nonneg b0.1, Int.toNat_of_nonneg b1.1]
end
theorem maxLen_le {n : Nat} (h : n ≤ maxLen) : n ≤ 9223372036854775807 := h
/-- a caller's list of moves, as it is read -/
theorem moves_arg {H : Type} {enc : TypeId × Value → H} {W : World} {v : Value} {d : DataW H} {ps : List MemPlace} {base : Nat} (hval : Value.okWide Tryz.prog W .any base 22 v) (h : DataW.Trod enc Tryz.prog W 0 (fun _ => true) true 22 v d ps) :
    ∃ (a : Option Addr) (l : List (Nat × Nat)) (cap : Nat), v = .slice a l.length cap ∧ RdB W a (lmC l) ∧ l.length ≤ cap ∧ l.length ≤ 9223372036854775807 ∧ ∀ m ∈ l, m.1 ≤ 255 ∧ m.2 ≤ 65535 := by
  obtain ⟨a, len, cap, rfl⟩ := okWide_slice Tryz.underlying22 hval
  obtain ⟨fuel, hf⟩ := h
  rcases DataW.trod_slice Tryz.underlying22 hf with ⟨h1, _⟩ | ⟨a', len', cap', elems, rest, n, _, h1, _, _, hl, hm, hlen, hel, _, _⟩
  · simp [Value.cells] at h1
    obtain ⟨rfl, rfl, rfl⟩ := h1
    exact ⟨none, [], 0, rfl, fun i v hi => by simp at hi, Nat.le_refl _, Nat.zero_le _, fun m hm => by cases hm⟩
  · simp [Value.cells] at h1
    obtain ⟨rfl, rfl, rfl⟩ := h1
    have hC : Tryz.prog.cellsOf 46 = 2 := by kernel_rfl
    rw [hC] at hel
    have each : ∀ i, i < len → ∃ m : Nat × Nat, (W.cell? (a'.add (i * 2)) = some (.int .u8 (m.1 : Nat)) ∧ W.cell? ((a'.add (i * 2)).add 1) = some (.int .u16 (m.2 : Nat))) ∧ m.1 ≤ 255 ∧ m.2 ≤ 65535 := by
      intro i hi
      have h2 := hel i hi
      rw [List.getElem?_eq_getElem (by omega), Option.bind_eq_some_iff] at h2
      obtain ⟨cs, h3, h4⟩ := h2
      obtain ⟨x, y, rfl, hx, hy⟩ := move_cells h4
      have h5 := (World.cells?_some h3).2.2
      refine ⟨(x, y), ⟨?_, ?_⟩, hx, hy⟩
      · have := h5 0 (by omega)
        simpa [Addr.add] using this
      · have := h5 1 (by omega)
        simpa using this
    have hz : a'.spot = none ∨ len = 0 := by
      rcases Nat.eq_zero_or_pos len with h0 | h0
      · exact .inr h0
      · left
        obtain ⟨m, ⟨h2, _⟩, _⟩ := each 0 h0
        obtain ⟨b, off, spot⟩ := a'
        simp only [Addr.add, Nat.zero_mul, if_pos, World.cell?] at h2
        split at h2
        · cases spot with
          | none => rfl
          | some s => simp at h2
        · cases h2
    obtain ⟨l, hl2, hlr⟩ : ∃ l : List (Nat × Nat), l.length = len ∧ ∀ i m, l[i]? = some m → (W.cell? (a'.add (i * 2)) = some (.int .u8 (m.1 : Nat)) ∧ W.cell? ((a'.add (i * 2)).add 1) = some (.int .u16 (m.2 : Nat))) ∧ m.1 ≤ 255 ∧ m.2 ≤ 65535 := by
      refine ⟨(List.range len).map fun i => if hi : i < len then Classical.choose (each i hi) else (0, 0), by simp, fun i m hm => ?_⟩
      have hi : i < len := by
        have := (List.getElem?_eq_some_iff.1 hm).1
        simpa using this
      rw [List.getElem?_map, List.getElem?_range hi] at hm
      simp only [Option.map_some, dif_pos hi, Option.some.injEq] at hm
      subst hm
      exact Classical.choose_spec (each i hi)
    subst hl2
    refine ⟨some a', l, cap, rfl, ?_, hl, by have := maxLen_le hm; omega, fun m hm => ?_⟩
    · intro i v hi
      have hlen2 : (lmC l).length = l.length * 2 := flat_len (k := 2) (fun _ => rfl) l
      have hil := (List.getElem?_eq_some_iff.1 hi).1
      rw [hlen2] at hil
      have hq : i / 2 < l.length := by omega
      have hg := flat_get (enc := fun m : Nat × Nat => [Value.int .u8 ((m.1 : Nat) : Int), Value.int .u16 ((m.2 : Nat) : Int)]) (k := 2) (fun _ => rfl) (by decide) l i
      rw [show (lmC l)[i]? = _ from hg, List.getElem?_eq_getElem hq, Option.bind_some] at hi
      obtain ⟨⟨r1, r2⟩, _⟩ := hlr (i / 2) _ (List.getElem?_eq_getElem hq)
      have hsp : a'.spot = none := hz.resolve_right (by omega)
      obtain ⟨b, off, spot⟩ := a'
      dsimp only at hsp
      subst hsp
      have add_of : ∀ n, (⟨b, off, none⟩ : Addr).add n = ⟨b, off + n, none⟩ := by
        intro n
        unfold Addr.add
        split
        · rename_i e; subst e; rfl
        · rfl
      rw [add_of] at r1 r2
      rw [show ((⟨b, off + i / 2 * 2, none⟩ : Addr).add 1) = ⟨b, off + i / 2 * 2 + 1, none⟩ from rfl] at r2
      have hmod : i % 2 = 0 ∨ i % 2 = 1 := by omega
      rcases hmod with hmod | hmod
      · rw [hmod] at hi
        have hv : Value.int .u8 ((l[i / 2].1 : Nat) : Int) = v := by simpa using hi
        rw [hv, show i / 2 * 2 = i by omega] at r1
        simp only [World.cell?] at r1
        split at r1
        · rename_i C t f hh
          exact ⟨b, off, C, t, f, rfl, hh, by simpa using r1⟩
        · cases r1
      · rw [hmod] at hi
        have hv : Value.int .u16 ((l[i / 2].2 : Nat) : Int) = v := by simpa using hi
        rw [hv, show off + i / 2 * 2 + 1 = off + i by omega] at r2
        simp only [World.cell?] at r2
        split at r2
        · rename_i C t f hh
          exact ⟨b, off, C, t, f, rfl, hh, by simpa using r2⟩
        · cases r2
    · obtain ⟨i, hi⟩ := List.mem_iff_getElem?.1 hm
      exact (hlr i m hi).2
end Go.Proofs.YtjkmpaggfbghiaaGreatDoor

set_option linter.all false
namespace Go.Proofs.YtjkmpaggfbghiaaGreatDoor
open Go Go.X
set_option maxRecDepth 100000
set_option maxHeartbeats 0
/-- cells of a numbered saga -/
abbrev nmC (A : Pl) (x : Int × OM.Sg) : List Value := .int .i64 x.1 :: denL (sgc x.2 (A x.1).1 (A x.1).2)
theorem asc_ne {L : SL} (hs : AscS L) {i : Nat} {x : Int × OM.Sg} (hx : L[i]? = some x) : ∀ y ∈ L.take i, y.1 ≠ x.1 := by
  intro y hy
  obtain ⟨j, hj⟩ := List.mem_iff_getElem?.1 hy
  rw [List.getElem?_take] at hj
  split at hj
  · rename_i hji
    obtain ⟨h1, h2⟩ := List.getElem?_eq_some_iff.1 hj
    obtain ⟨h3, h4⟩ := List.getElem?_eq_some_iff.1 hx
    have := List.pairwise_iff_getElem.1 hs j i h1 h3 hji
    rw [h2, h4] at this
    omega
  · cases hj
theorem nm_snoc {L : SL} (hs : AscS L) {A : Pl} {z : Option Addr × Nat} {i : Nat} {x : Int × OM.Sg} (hx : L[i]? = some x) :
    (L.take i).flatMap (nmC A) ++ (.int .i64 x.1 :: denL (sgc x.2 z.1 z.2)) = (L.take (i + 1)).flatMap (nmC (setA A x.1 z)) := by
  have h1 : (L.take i).flatMap (nmC (setA A x.1 z)) = (L.take i).flatMap (nmC A) := fl_congr fun y hy => by
    unfold nmC setA
    rw [if_neg (asc_ne hs hx y hy)]
  rw [← flat_snoc (g := nmC (setA A x.1 z)) hx, h1]
  congr 1
  unfold nmC setA
  rw [if_pos rfl]
theorem StA_snoc {L : SL} (hs : AscS L) {A : Pl} {z : Option Addr × Nat} {i : Nat} {x : Int × OM.Sg} (hx : L[i]? = some x) {p q r : Nat} :
    HSub [.ext p (StA (L.take (i + 1)) (setA A x.1 z))] [.ext q (StA (L.take i) A), .ext r (stA x.2 z)] := by
  refine HSub.trans HSub.join (HSub.trans ?_ (HSub.app2 (A := [.ext q (StA (L.take i) A)]) HSub.unjoin (HSub.ext (i := 0) (fun _ _ h => h) HSub.nil)))
  have e0 : stB (setA A x.1 z) x = .ext 0 (stA x.2 z) := by unfold stB setA; rw [if_pos rfl]
  have : (L.take (i + 1)).map (stB (setA A x.1 z)) = (L.take i).map (stB A) ++ [.ext 0 (stA x.2 z)] := by
    rw [← take_snoc hx, List.map_append, stB_set (asc_ne hs hx), List.map_cons, List.map_nil, e0]
  rw [this]
  exact HSub.refl _
theorem _root_.Go.X.HSub.addStL {i : Nat} {A : Pl} {L' L : List Blk} (h : HSub L' L) : HSub (L' ++ [.ext i (StA [] A)]) L :=
  HSub.trans (HSub.perm List.perm_append_comm) (fun w S hS =>
    let ⟨S', h1, h2⟩ := h w S hS
    ⟨fun k => False ∨ S' k, .cons (x := .ext i (StA [] A)) (S := fun _ => False) (Holds.nil (w := w)) (fun _ h => h.elim) h1 (fun _ h => h.elim), fun k hk => hk.elim False.elim (h2 k)⟩)
theorem mlen1064 {t : Nat} {l : List OM.Mv} (hl : l.length ≤ 64) (w : World) :
    Fr Tryz.prog 64 #[pv t] w (AssL [.ext 0 (MvsA t l)]) (.int .i64 (l.length : Nat)) (AssL [.ext 0 (MvsA t l)]) := by
  refine enter_fr TBok (H := [.ext 0 (MvsA t l)]) all_foot Tryz.func64 rfl rfl Tryz.ntmps64 [.loc t 0 0] rfl rfl ?_
  intro S
  conv => whnf
  refine Run.ex (A := mvsH t l) (i := 0) (by repeat (first | with_reducible apply Rm.head | apply Rm.tail)) ?_
  rintro ⟨a, cap⟩
  dsimp only [mvsH, layF]
  repeat' (first
 | with_reducible (first | refine r_seq (fun KS hS => ?_) | (refine hS _ _ ?_; clear hS KS) | (refine hA _ ?_; clear hA KA) | (refine hB _ ?_; clear hB KB) | refine r_block ?_)
 | ((with_reducible (first | refine r_region ?_ | refine r_cond (fun KA hA KB hB => ?_) | refine r_ret ?_ | refine r_skip ?_ | refine r_exit ?_ | refine And.intro rfl ?_ | intro b)); conv => whnf)
 | ((with_reducible refine WrapK.i64 ?_ ?_); (focus omega); conv => whnf)
 | (apply in1125; rfl; rfl; rfl; intro A; conv => whnf)
 | ((with_reducible apply OpK.more); (focus refine sok); (conv => whnf); fail_if_success guard_target =ₛ False)
 | with_reducible (first | refine Rounds.step (fun KL hL => ?_) | (refine hL _ _ ?_; clear hL KL) | refine r_rounds 100 ?_)
 | ((with_reducible (first | refine InAt.mk (fun K' hK => ?_) | refine AnyAt.mk (fun K' hK => ?_) | (refine hK _ ?_; clear hK K') | (refine hK _ _ ?_; clear hK K'))); conv => whnf)
 | ((refine And.intro ?_ ?_); all_goals (conv => whnf))
 | (apply r_quiet; refine mixed; kernel_rfl; kernel_rfl; kernel_rfl; conv => whnf)
 | ((first | refine if_t (by decide) ?_ | refine if_f (by decide) ?_ | refine if_decT (by omega) ?_ | refine if_decF (by omega) ?_ | refine if_ndecT (by omega) ?_ | refine if_ndecF (by omega) ?_); conv => whnf)
 | ((first | refine if_dec (fun h => ?_) (fun h => ?_) | refine if_ndec (fun h => ?_) (fun h => ?_) | refine if_cond (fun h => ?_) (fun h => ?_)); all_goals (conv => whnf))
 | with_reducible apply_assumption -symm -exfalso)
  all_goals exact FinK.frL rfl (HSub.trans (mvs_id (i := 0) (j := 1) (a := a) (cap := cap) rfl) (by (try dsimp only [List.cons_append, List.nil_append, den, denL]); refine SelI.spec ?_; (repeat (first | refine SelI.blk (by repeat (first | with_reducible apply Rm.head | apply Rm.tail)) ?_ | refine SelI.ext (by repeat (first | with_reducible apply Rm.head | apply Rm.tail)) ?_ | (refine SelI.blk' (by repeat (first | with_reducible apply Rm.head | apply Rm.tail)) ?_ ?_; focus rfl) | (refine SelI.ext' (by repeat (first | with_reducible apply Rm.head | apply Rm.tail)) ?_ ?_; focus rfl))); exact SelI.nil))
structure StZ where
  sa : Option Addr × Nat
  A : Pl
  ma : Option Addr × Nat
  ra : Option Addr × Nat
  wa : Option Addr × Nat
  ea : Option Addr × Nat
abbrev stateV (o : OM.St) (z : StZ) : List SV := [.v (.int .i64 o.groups), .v (.int .i64 o.done), .v (.slice z.sa.1 o.sagas.length z.sa.2), .v (.slice z.ma.1 o.moves.length z.ma.2), .v (.slice z.ra.1 o.parts.length z.ra.2), .v (.slice z.wa.1 o.parts.length z.wa.2), .v (.slice z.ea.1 o.parts.length z.ea.2)]
abbrev stateH (o : OM.St) (z : StZ) : List Blk := [.ext 20 (SlA 76 11 z.sa.1 o.sagas.length z.sa.2 (o.sagas.flatMap (nmC z.A))), .ext 21 (StA o.sagas z.A), .ext 22 (SlA 83 6 z.ma.1 o.moves.length z.ma.2 (o.moves.flatMap mvC)), .ext 23 (SlA 37 2 z.ra.1 o.parts.length z.ra.2 (o.parts.flatMap rgC)), .ext 24 (SlA 3 1 z.wa.1 o.parts.length z.wa.2 (o.parts.flatMap gpC)), .ext 25 (SlA 3 1 z.ea.1 o.parts.length z.ea.2 (o.parts.flatMap ecC))]
theorem state1024 {d : Nat} {o : OM.St} (hI : OM.Inv o) (w : World) :
    FrZ Tryz.prog 24 #[pv d] w (AssL [.ext 12 (OrchA d o)]) (fun z : StZ => .agg (denL (stateV o z)).toArray) (fun z => AssL (.ext 12 (OrchA d o) :: stateH o z)) := by
  have hL := LOk.ofInv hI
  have hml := hI.mlen
  have hll := hI.slen
  have hp0 : 0 < o.parts.length := List.length_pos_iff.2 hI.cov.2
  have hpl : o.parts.length ≤ 64 := by have := hI.room; omega
  refine enter_frZ TBok (H := [.ext 12 (OrchA d o)]) all_foot Tryz.func24 rfl rfl Tryz.ntmps24 [.loc d 0 0] rfl rfl ?_
  intro S hz8 hz9
  clear hz8 hz9
  conv => whnf
  repeat' (first
 | (with_reducible refine r_stop 3 ?_)
 | with_reducible (first | refine r_seq (fun KS hS => ?_) | (refine hS _ _ ?_; clear hS KS) | (refine hA _ ?_; clear hA KA) | (refine hB _ ?_; clear hB KB) | refine r_block ?_)
 | ((with_reducible (first | refine r_region ?_ | refine r_cond (fun KA hA KB hB => ?_) | refine r_ret ?_ | refine r_skip ?_ | refine r_exit ?_ | refine And.intro rfl ?_ | intro b)); conv => whnf)
 | ((with_reducible refine WrapK.i64 ?_ ?_); (focus omega); conv => whnf)
 | ((with_reducible refine CallK.id ?_); refine CallK.s1V (by repeat (first | with_reducible apply Rm.head | apply Rm.tail)) (fun ms w hk => made1041 (by have := hI.gr; omega) w) ?_; conv => whnf)
 | ((with_reducible apply OpK.more); (focus refine sok); (conv => whnf); fail_if_success guard_target =ₛ False)
 | ((with_reducible (first | refine InAt.mk (fun K' hK => ?_) | refine AnyAt.mk (fun K' hK => ?_) | (refine hK _ ?_; clear hK K') | (refine hK _ _ ?_; clear hK K'))); conv => whnf)
 | ((refine And.intro ?_ ?_); all_goals (conv => whnf))
 | (apply r_quiet; refine mixed; kernel_rfl; kernel_rfl; kernel_rfl; conv => whnf)
 | ((first | refine if_t (by decide) ?_ | refine if_f (by decide) ?_ | refine if_decT (by omega) ?_ | refine if_decF (by omega) ?_ | refine if_ndecT (by omega) ?_ | refine if_ndecF (by omega) ?_); conv => whnf)
 | ((first | refine if_dec (fun h => ?_) (fun h => ?_) | refine if_ndec (fun h => ?_) (fun h => ?_) | refine if_cond (fun h => ?_) (fun h => ?_)); all_goals (conv => whnf))
 | with_reducible apply_assumption -symm -exfalso)
  refine StopR.mk ?_
  obtain ⟨b2, hb2⟩ : ∃ x, x = b := ⟨b, rfl⟩
  subst hb2
  refine Run.ex (A := orH d o) (i := 12) (by repeat (first | with_reducible apply Rm.head | apply Rm.tail)) ?_
  rintro ⟨t1, t2, t3⟩
  dsimp only [orH, layF]
  refine r_seq (fun KS2 hS2 => ?_)
  refine r_par (β := Option Addr × Nat) (id := 3) [⟨0, [], none, fun _ _ => .loc d 0 0, fun _ _ => []⟩, ⟨1, [0], none, fun _ _ => .loc d 0 0, fun _ _ => []⟩, ⟨2, [1], none, fun _ _ => .loc d 0 0, fun _ _ => []⟩, ⟨3, [2], none, fun _ _ => .v (.int .i64 o.groups), fun _ _ => []⟩, ⟨4, [], none, fun _ _ => .loc d 0 0, fun _ _ => []⟩, ⟨5, [4], none, fun _ _ => .loc d 0 0, fun _ _ => []⟩, ⟨6, [5], none, fun _ _ => .loc d 0 1, fun _ _ => []⟩, ⟨7, [6], none, fun _ _ => .v (.int .i64 o.done), fun _ _ => []⟩, ⟨8, [], none, fun _ _ => .loc d 0 0, fun _ _ => []⟩, ⟨9, [8], none, fun _ _ => .loc d 0 0, fun _ _ => []⟩, ⟨10, [9], none, fun _ _ => .loc d 0 4, fun _ _ => []⟩, ⟨11, [10], none, fun _ _ => .loc t3 22 0, fun _ _ => []⟩, ⟨12, [11], some 100, fun _ q2 => .v (.slice q2.1 o.parts.length q2.2), fun _ q2 => [.ext 3 (PtsA t3 o.parts), .ext 23 (SlA 37 2 q2.1 o.parts.length q2.2 (o.parts.flatMap rgC))]⟩, ⟨13, [], none, fun _ _ => .loc d 0 0, fun _ _ => []⟩, ⟨14, [13], none, fun _ _ => .loc d 0 0, fun _ _ => []⟩, ⟨15, [14], none, fun _ _ => .loc d 0 4, fun _ _ => []⟩, ⟨16, [15], none, fun _ _ => .loc t3 22 0, fun _ _ => []⟩, ⟨17, [16, 12], some 12, fun _ q2 => .v (.slice q2.1 o.parts.length q2.2), fun l q2 => match l with | [_, z12] => [.ext 3 (PtsA t3 o.parts), .ext 23 (SlA 37 2 z12.1 o.parts.length z12.2 (o.parts.flatMap rgC)), .ext 24 (SlA 3 1 q2.1 o.parts.length q2.2 (o.parts.flatMap gpC))] | _ => []⟩, ⟨18, [], none, fun _ _ => .loc d 0 0, fun _ _ => []⟩, ⟨19, [18], none, fun _ _ => .loc d 0 0, fun _ _ => []⟩, ⟨20, [19], none, fun _ _ => .loc d 0 4, fun _ _ => []⟩, ⟨21, [20], none, fun _ _ => .loc t3 22 0, fun _ _ => []⟩, ⟨22, [21, 17, 12], some 17, fun _ q2 => .v (.slice q2.1 o.parts.length q2.2), fun l q2 => match l with | [_, z17, z12] => [.ext 3 (PtsA t3 o.parts), .ext 23 (SlA 37 2 z12.1 o.parts.length z12.2 (o.parts.flatMap rgC)), .ext 24 (SlA 3 1 z17.1 o.parts.length z17.2 (o.parts.flatMap gpC)), .ext 25 (SlA 3 1 q2.1 o.parts.length q2.2 (o.parts.flatMap ecC))] | _ => []⟩, ⟨23, [3, 7, 12, 17, 22], none, fun l _ => match l with | [_, _, z12, z17, z22] => .agg [.v (.int .i64 o.groups), .v (.int .i64 o.done), .v (.slice none 0 0), .v (.slice none 0 0), .v (.slice z12.1 o.parts.length z12.2), .v (.slice z17.1 o.parts.length z17.2), .v (.slice z22.1 o.parts.length z22.2)] | _ => .v undef, fun _ _ => []⟩, ⟨24, [], none, fun _ q2 => .loc q2.2 90 0, fun _ q2 => [.blk 90 q2.2 [.v (.int .i64 0), .v (.int .i64 0), .v (.slice none 0 0), .v (.slice none 0 0), .v (.slice none 0 0), .v (.slice none 0 0), .v (.slice none 0 0)] 72]⟩] [⟨100, [], none, fun _ _ => .v undef, fun _ _ => [.ext 3 (PtsA t3 o.parts)]⟩] 1 [.blk 13 b2 [.v (.int .i64 0), .v (.int .i64 0), .v (.slice none 0 0), .v (.slice none 0 0), .v (.slice none 0 0), .v (.slice none 0 0), .v (.slice none 0 0)] 72, .blk 0 d [.v (.int .i64 o.groups), .v (.int .i64 o.done), .loc t1 20 0, .loc t2 21 0, .loc t3 22 0] 121, .ext 1 (TabA t1 o.sagas), .ext 2 (MvsA t2 o.moves)] mixed (by kernel_rfl) (by kernel_rfl) (by show HSub [.ext 3 (PtsA t3 o.parts), .blk 13 b2 [.v (.int .i64 0), .v (.int .i64 0), .v (.slice none 0 0), .v (.slice none 0 0), .v (.slice none 0 0), .v (.slice none 0 0), .v (.slice none 0 0)] 72, .blk 0 d [.v (.int .i64 o.groups), .v (.int .i64 o.done), .loc t1 20 0, .loc t2 21 0, .loc t3 22 0] 121, .ext 1 (TabA t1 o.sagas), .ext 2 (MvsA t2 o.moves)] _; exact (by (try dsimp only [List.cons_append, List.nil_append, den, denL]); refine SelI.spec ?_; (repeat (first | refine SelI.blk (by repeat (first | with_reducible apply Rm.head | apply Rm.tail)) ?_ | refine SelI.ext (by repeat (first | with_reducible apply Rm.head | apply Rm.tail)) ?_ | (refine SelI.blk' (by repeat (first | with_reducible apply Rm.head | apply Rm.tail)) ?_ ?_; focus rfl) | (refine SelI.ext' (by repeat (first | with_reducible apply Rm.head | apply Rm.tail)) ?_ ?_; focus rfl))); exact SelI.nil)) ?_ ?_
  · conv => whnf
    repeat' (first | ((with_reducible refine And.intro ?_ ?_); all_goals (conv => whnf)) | ((with_reducible intro zz2 AA KP hP); conv => whnf))
    repeat' (first
 | with_reducible (first | refine r_seq (fun KS hS => ?_) | (refine hS _ _ ?_; clear hS KS) | (refine hA _ ?_; clear hA KA) | (refine hB _ ?_; clear hB KB) | refine r_block ?_)
 | ((with_reducible (first | refine r_region ?_ | refine r_cond (fun KA hA KB hB => ?_) | refine r_ret ?_ | refine r_skip ?_ | refine r_exit ?_ | refine And.intro rfl ?_ | intro b)); conv => whnf)
 | ((with_reducible refine WrapK.i64 ?_ ?_); (focus omega); conv => whnf)
 | ((with_reducible refine CallK.id ?_); (first | refine CallK.s1 (by repeat (first | with_reducible apply Rm.head | apply Rm.tail)) (fun ms w hk => ranges1060 hp0 (by omega) w) ?_ | refine CallK.s1 (by repeat (first | with_reducible apply Rm.head | apply Rm.tail)) (fun ms w hk => groups1061 hp0 (by omega) w) ?_ | refine CallK.s1 (by repeat (first | with_reducible apply Rm.head | apply Rm.tail)) (fun ms w hk => epochs1062 hp0 (by omega) w) ?_); conv => whnf)
 | ((with_reducible refine hP (none, b) _ _ ?_ ?_); all_goals (first | exact default | ((repeat' (first | exact SubD.nil | (refine SubD.cons rfl rfl ?_))); done) | ((try dsimp only [mapZ, List.cons_append, List.nil_append, den, denL]); refine SelI.spec ?_; repeat (first | apply SelI.nil | refine SelI.blk (by repeat (first | with_reducible apply Rm.head | apply Rm.tail)) ?_ | refine SelI.ext (by repeat (first | with_reducible apply Rm.head | apply Rm.tail)) ?_ | (refine SelI.blk' (by repeat (first | with_reducible apply Rm.head | apply Rm.tail)) ?_ ?_; focus rfl) | (refine SelI.ext' (by repeat (first | with_reducible apply Rm.head | apply Rm.tail)) ?_ ?_; focus rfl)))))
 | ((with_reducible apply hP); all_goals (first | exact default | ((repeat' (first | exact SubD.nil | (refine SubD.cons rfl rfl ?_))); done) | ((try dsimp only [mapZ, List.cons_append, List.nil_append, den, denL]); refine SelI.spec ?_; repeat (first | apply SelI.nil | refine SelI.blk (by repeat (first | with_reducible apply Rm.head | apply Rm.tail)) ?_ | refine SelI.ext (by repeat (first | with_reducible apply Rm.head | apply Rm.tail)) ?_ | (refine SelI.blk' (by repeat (first | with_reducible apply Rm.head | apply Rm.tail)) ?_ ?_; focus rfl) | (refine SelI.ext' (by repeat (first | with_reducible apply Rm.head | apply Rm.tail)) ?_ ?_; focus rfl)))))
 | ((with_reducible apply OpK.more); (focus refine sok); (conv => whnf); fail_if_success guard_target =ₛ False)
 | ((with_reducible (first | refine InAt.mk (fun K' hK => ?_) | refine AnyAt.mk (fun K' hK => ?_) | (refine hK _ ?_; clear hK K') | (refine hK _ _ ?_; clear hK K'))); conv => whnf)
 | ((refine And.intro ?_ ?_); all_goals (conv => whnf))
 | (apply r_quiet; refine mixed; kernel_rfl; kernel_rfl; kernel_rfl; conv => whnf)
 | ((first | refine if_t (by decide) ?_ | refine if_f (by decide) ?_ | refine if_decT (by omega) ?_ | refine if_decF (by omega) ?_ | refine if_ndecT (by omega) ?_ | refine if_ndecF (by omega) ?_); conv => whnf)
 | ((first | refine if_dec (fun h => ?_) (fun h => ?_) | refine if_ndec (fun h => ?_) (fun h => ?_) | refine if_cond (fun h => ?_) (fun h => ?_)); all_goals (conv => whnf))
 | with_reducible apply_assumption -symm -exfalso)
  conv => whnf
  intro zz
  conv => whnf
  try dsimp only
  repeat' (first
 | with_reducible (first | refine r_seq (fun KS hS => ?_) | (refine hS _ _ ?_; clear hS KS) | (refine hA _ ?_; clear hA KA) | (refine hB _ ?_; clear hB KB) | refine r_block ?_)
 | ((with_reducible (first | refine r_region ?_ | refine r_cond (fun KA hA KB hB => ?_) | refine r_ret ?_ | refine r_skip ?_ | refine r_exit ?_ | refine And.intro rfl ?_ | intro b)); conv => whnf)
 | ((with_reducible refine WrapK.i64 ?_ ?_); (focus omega); conv => whnf)
 | ((with_reducible refine CallK.id ?_); refine CallK.s1 (by repeat (first | with_reducible apply Rm.head | apply Rm.tail)) (fun ms w hk => ids1063 hL.srt hL.len w) ?_; conv => whnf)
 | ((with_reducible apply OpK.more); (focus refine sok); (conv => whnf); fail_if_success guard_target =ₛ False)
 | ((with_reducible (first | refine InAt.mk (fun K' hK => ?_) | refine AnyAt.mk (fun K' hK => ?_) | (refine hK _ ?_; clear hK K') | (refine hK _ _ ?_; clear hK K'))); conv => whnf)
 | ((refine And.intro ?_ ?_); all_goals (conv => whnf))
 | (apply r_quiet; refine mixed; kernel_rfl; kernel_rfl; kernel_rfl; conv => whnf)
 | ((first | refine if_t (by decide) ?_ | refine if_f (by decide) ?_ | refine if_decT (by omega) ?_ | refine if_decF (by omega) ?_ | refine if_ndecT (by omega) ?_ | refine if_ndecF (by omega) ?_); conv => whnf)
 | ((first | refine if_dec (fun h => ?_) (fun h => ?_) | refine if_ndec (fun h => ?_) (fun h => ?_) | refine if_cond (fun h => ?_) (fun h => ?_)); all_goals (conv => whnf))
 | with_reducible apply_assumption -symm -exfalso)
  rcases b with ⟨ia, icap⟩
  dsimp only
  generalize zz 12 = ra
  generalize zz 17 = wa
  generalize zz 22 = ea
  generalize (zz 24).2 = b3
  clear zz
  refine r_loop (α := Nat × Pl × Option Addr × Nat) (fun z => [(0, .loc d 0 0), (2, .loc b2 13 0), (3, .loc b3 90 0), (43, .v (.slice ia o.sagas.length icap)), (44, .v (.int .i64 (o.sagas.length : Nat))), (45, .v (.int .i64 (z.1 : Nat)))]) (fun z => [.blk 90 b3 [.v (.int .i64 o.groups), .v (.int .i64 o.done), .v (.slice z.2.2.1 z.1 z.2.2.2), .v (.slice none 0 0), .v (.slice ra.1 o.parts.length ra.2), .v (.slice wa.1 o.parts.length wa.2), .v (.slice ea.1 o.parts.length ea.2)] 72, .blk 13 b2 [.v (.int .i64 0), .v (.int .i64 0), .v (.slice none 0 0), .v (.slice none 0 0), .v (.slice none 0 0), .v (.slice none 0 0), .v (.slice none 0 0)] 72, .blk 0 d [.v (.int .i64 o.groups), .v (.int .i64 o.done), .loc t1 20 0, .loc t2 21 0, .loc t3 22 0] 121, .ext 1 (TabA t1 o.sagas), .ext 2 (MvsA t2 o.moves), .ext 3 (PtsA t3 o.parts), .ext 23 (SlA 37 2 ra.1 o.parts.length ra.2 (o.parts.flatMap rgC)), .ext 24 (SlA 3 1 wa.1 o.parts.length wa.2 (o.parts.flatMap gpC)), .ext 25 (SlA 3 1 ea.1 o.parts.length ea.2 (o.parts.flatMap ecC)), .ext 4 (SlA 3 1 ia o.sagas.length icap (idC o.sagas))] ++ [.ext 20 (SlA 76 11 z.2.2.1 z.1 z.2.2.2 ((o.sagas.take z.1).flatMap (nmC z.2.1))), .ext 21 (StA (o.sagas.take z.1) z.2.1)]) (fun z => z.1 ≤ o.sagas.length) (fun z => o.sagas.length - z.1) (0, (fun _ => (none, 0)), none, 0) (Nat.zero_le _) (by repeat' (first | exact Sub.nil | (refine Sub.cons rfl rfl ?_))) (HSub.addStL (L' := [.blk 90 b3 [.v (.int .i64 o.groups), .v (.int .i64 o.done), .v (.slice none 0 0), .v (.slice none 0 0), .v (.slice ra.1 o.parts.length ra.2), .v (.slice wa.1 o.parts.length wa.2), .v (.slice ea.1 o.parts.length ea.2)] 72, .blk 13 b2 [.v (.int .i64 0), .v (.int .i64 0), .v (.slice none 0 0), .v (.slice none 0 0), .v (.slice none 0 0), .v (.slice none 0 0), .v (.slice none 0 0)] 72, .blk 0 d [.v (.int .i64 o.groups), .v (.int .i64 o.done), .loc t1 20 0, .loc t2 21 0, .loc t3 22 0] 121, .ext 1 (TabA t1 o.sagas), .ext 2 (MvsA t2 o.moves), .ext 3 (PtsA t3 o.parts), .ext 23 (SlA 37 2 ra.1 o.parts.length ra.2 (o.parts.flatMap rgC)), .ext 24 (SlA 3 1 wa.1 o.parts.length wa.2 (o.parts.flatMap gpC)), .ext 25 (SlA 3 1 ea.1 o.parts.length ea.2 (o.parts.flatMap ecC)), .ext 4 (SlA 3 1 ia o.sagas.length icap (idC o.sagas))] ++ [.ext 20 (SlA 76 11 none 0 0 [])]) (HSub.addSlL (L' := [.blk 90 b3 [.v (.int .i64 o.groups), .v (.int .i64 o.done), .v (.slice none 0 0), .v (.slice none 0 0), .v (.slice ra.1 o.parts.length ra.2), .v (.slice wa.1 o.parts.length wa.2), .v (.slice ea.1 o.parts.length ea.2)] 72, .blk 13 b2 [.v (.int .i64 0), .v (.int .i64 0), .v (.slice none 0 0), .v (.slice none 0 0), .v (.slice none 0 0), .v (.slice none 0 0), .v (.slice none 0 0)] 72, .blk 0 d [.v (.int .i64 o.groups), .v (.int .i64 o.done), .loc t1 20 0, .loc t2 21 0, .loc t3 22 0] 121, .ext 1 (TabA t1 o.sagas), .ext 2 (MvsA t2 o.moves), .ext 3 (PtsA t3 o.parts), .ext 23 (SlA 37 2 ra.1 o.parts.length ra.2 (o.parts.flatMap rgC)), .ext 24 (SlA 3 1 wa.1 o.parts.length wa.2 (o.parts.flatMap gpC)), .ext 25 (SlA 3 1 ea.1 o.parts.length ea.2 (o.parts.flatMap ecC)), .ext 4 (SlA 3 1 ia o.sagas.length icap (idC o.sagas))]) (by (try dsimp only [List.cons_append, List.nil_append, den, denL]); refine SelI.spec ?_; (repeat (first | refine SelI.blk (by repeat (first | with_reducible apply Rm.head | apply Rm.tail)) ?_ | refine SelI.ext (by repeat (first | with_reducible apply Rm.head | apply Rm.tail)) ?_ | (refine SelI.blk' (by repeat (first | with_reducible apply Rm.head | apply Rm.tail)) ?_ ?_; focus rfl) | (refine SelI.ext' (by repeat (first | with_reducible apply Rm.head | apply Rm.tail)) ?_ ?_; focus rfl))); exact SelI.nil))) ?_
  rintro ⟨i, A, a, cap⟩ hi KL hL2
  dsimp only [List.cons_append, List.nil_append] at hi ⊢
  by_cases hlt : i < o.sagas.length
  · obtain ⟨x, hx⟩ : ∃ x, o.sagas[i]? = some x := ⟨_, List.getElem?_eq_getElem hlt⟩
    have hmem := List.mem_of_getElem? hx
    have hg := getL_of_mem hL.srt hmem
    have hok := hL.ok x hmem
    have hid := hL.id x hmem
    repeat' (first
 | with_reducible (first | refine r_seq (fun KS hS => ?_) | (refine hS _ _ ?_; clear hS KS) | (refine hA _ ?_; clear hA KA) | (refine hB _ ?_; clear hB KB) | refine r_block ?_)
 | ((with_reducible (first | refine r_region ?_ | refine r_cond (fun KA hA KB hB => ?_) | refine r_ret ?_ | refine r_skip ?_ | refine r_exit ?_ | refine And.intro rfl ?_ | intro b)); conv => whnf)
 | ((with_reducible refine WrapK.i64 ?_ ?_); (focus omega); conv => whnf)
 | ((with_reducible refine OpK.id ?_); (first | refine OpK.idx (k := 1) rfl rfl rfl rfl rfl rfl rfl (Sees.ext (by repeat (first | with_reducible apply At.head | apply At.tail))) (by omega) (by omega) (id_at hx) (fun b off hp => ?_) | refine OpK.ldp rfl rfl hp (List.cons_ne_nil _ _) ?_); conv => whnf)
 | ((with_reducible refine CallK.id ?_); refine CallK.s1 (by repeat (first | with_reducible apply Rm.head | apply Rm.tail)) (fun ms w hk => get1056 hg hok (zok_id hid) w) ?_; conv => whnf)
 | ((with_reducible refine OpK.id ?_); refine OpK.app (k := 11) rfl rfl rfl rfl rfl rfl rfl rfl (by repeat (first | with_reducible apply At.head | apply At.tail)) (SrcK.slc rfl rfl (by repeat (first | constructor | apply List.Mem.tail)) (Nat.le_refl _) rfl) (big_ok (by omega) (by decide)) (fun a' cap' => ?_); conv => whnf)
 | (refine hL2 (i + 1, setA A x.1 ‹Option Addr × Nat›, a', cap') _ _ (by show i + 1 ≤ _; omega) (by show _ - (i + 1) < _ - i; omega) (by repeat' (first | exact Sub.nil | (refine Sub.cons rfl rfl ?_))) (by refine HSub.trans (HSub.app2 (A := [.blk 90 b3 [.v (.int .i64 o.groups), .v (.int .i64 o.done), .v (.slice a' (i + 1) cap'), .v (.slice none 0 0), .v (.slice ra.1 o.parts.length ra.2), .v (.slice wa.1 o.parts.length wa.2), .v (.slice ea.1 o.parts.length ea.2)] 72, .blk 13 b2 [.v (.int .i64 0), .v (.int .i64 0), .v (.slice none 0 0), .v (.slice none 0 0), .v (.slice none 0 0), .v (.slice none 0 0), .v (.slice none 0 0)] 72, .blk 0 d [.v (.int .i64 o.groups), .v (.int .i64 o.done), .loc t1 20 0, .loc t2 21 0, .loc t3 22 0] 121, .ext 1 (TabA t1 o.sagas), .ext 2 (MvsA t2 o.moves), .ext 3 (PtsA t3 o.parts), .ext 23 (SlA 37 2 ra.1 o.parts.length ra.2 (o.parts.flatMap rgC)), .ext 24 (SlA 3 1 wa.1 o.parts.length wa.2 (o.parts.flatMap gpC)), .ext 25 (SlA 3 1 ea.1 o.parts.length ea.2 (o.parts.flatMap ecC)), .ext 4 (SlA 3 1 ia o.sagas.length icap (idC o.sagas))]) (HSub.refl _) (HSub.ext (i := 20) (j := 20) (fun w S h => by rw [← nm_snoc hL.srt hx]; exact h) (StA_snoc (q := 21) (r := 1) hL.srt hx))) ?_; dsimp only [List.cons_append, List.nil_append]; exact (by (try dsimp only [List.cons_append, List.nil_append, den, denL]); refine SelI.spec ?_; (repeat (first | refine SelI.blk (by repeat (first | with_reducible apply Rm.head | apply Rm.tail)) ?_ | refine SelI.ext (by repeat (first | with_reducible apply Rm.head | apply Rm.tail)) ?_ | (refine SelI.blk' (by repeat (first | with_reducible apply Rm.head | apply Rm.tail)) ?_ ?_; focus rfl) | (refine SelI.ext' (by repeat (first | with_reducible apply Rm.head | apply Rm.tail)) ?_ ?_; focus rfl))); exact SelI.nil)))
 | ((with_reducible apply OpK.more); (focus refine sok); (conv => whnf); fail_if_success guard_target =ₛ False)
 | ((with_reducible (first | refine InAt.mk (fun K' hK => ?_) | refine AnyAt.mk (fun K' hK => ?_) | (refine hK _ ?_; clear hK K') | (refine hK _ _ ?_; clear hK K'))); conv => whnf)
 | ((refine And.intro ?_ ?_); all_goals (conv => whnf))
 | (apply r_quiet; refine mixed; kernel_rfl; kernel_rfl; kernel_rfl; conv => whnf)
 | ((first | refine if_t (by decide) ?_ | refine if_f (by decide) ?_ | refine if_decT (by omega) ?_ | refine if_decF (by omega) ?_ | refine if_ndecT (by omega) ?_ | refine if_ndecF (by omega) ?_); conv => whnf)
 | ((first | refine if_dec (fun h => ?_) (fun h => ?_) | refine if_ndec (fun h => ?_) (fun h => ?_) | refine if_cond (fun h => ?_) (fun h => ?_)); all_goals (conv => whnf))
 | with_reducible apply_assumption -symm -exfalso)
  · obtain rfl : i = o.sagas.length := by omega
    clear hL2
    rw [List.take_length]
    repeat' (first
 | with_reducible (first | refine r_seq (fun KS hS => ?_) | (refine hS _ _ ?_; clear hS KS) | (refine hA _ ?_; clear hA KA) | (refine hB _ ?_; clear hB KB) | refine r_block ?_)
 | ((with_reducible (first | refine r_region ?_ | refine r_cond (fun KA hA KB hB => ?_) | refine r_ret ?_ | refine r_skip ?_ | refine r_exit ?_ | refine And.intro rfl ?_ | intro b)); conv => whnf)
 | ((with_reducible refine WrapK.i64 ?_ ?_); (focus omega); conv => whnf)
 | ((with_reducible refine CallK.id ?_); refine CallK.s1V (by repeat (first | with_reducible apply Rm.head | apply Rm.tail)) (fun ms w hk => mlen1064 hml w) ?_; conv => whnf)
 | ((with_reducible apply OpK.more); (focus refine sok); (conv => whnf); fail_if_success guard_target =ₛ False)
 | ((with_reducible (first | refine InAt.mk (fun K' hK => ?_) | refine AnyAt.mk (fun K' hK => ?_) | (refine hK _ ?_; clear hK K') | (refine hK _ _ ?_; clear hK K'))); conv => whnf)
 | ((refine And.intro ?_ ?_); all_goals (conv => whnf))
 | (apply r_quiet; refine mixed; kernel_rfl; kernel_rfl; kernel_rfl; conv => whnf)
 | ((first | refine if_t (by decide) ?_ | refine if_f (by decide) ?_ | refine if_decT (by omega) ?_ | refine if_decF (by omega) ?_ | refine if_ndecT (by omega) ?_ | refine if_ndecF (by omega) ?_); conv => whnf)
 | ((first | refine if_dec (fun h => ?_) (fun h => ?_) | refine if_ndec (fun h => ?_) (fun h => ?_) | refine if_cond (fun h => ?_) (fun h => ?_)); all_goals (conv => whnf))
 | with_reducible apply_assumption -symm -exfalso)
    refine r_loop (α := Nat × Option Addr × Nat) (fun z => [(0, .loc d 0 0), (2, .loc b2 13 0), (3, .loc b3 90 0), (71, .v (.int .i64 (o.moves.length : Nat))), (72, .v (.int .i64 (z.1 : Nat)))]) (fun z => [.blk 90 b3 [.v (.int .i64 o.groups), .v (.int .i64 o.done), .v (.slice a o.sagas.length cap), .v (.slice z.2.1 z.1 z.2.2), .v (.slice ra.1 o.parts.length ra.2), .v (.slice wa.1 o.parts.length wa.2), .v (.slice ea.1 o.parts.length ea.2)] 72, .blk 13 b2 [.v (.int .i64 0), .v (.int .i64 0), .v (.slice none 0 0), .v (.slice none 0 0), .v (.slice none 0 0), .v (.slice none 0 0), .v (.slice none 0 0)] 72, .blk 0 d [.v (.int .i64 o.groups), .v (.int .i64 o.done), .loc t1 20 0, .loc t2 21 0, .loc t3 22 0] 121, .ext 1 (TabA t1 o.sagas), .ext 2 (MvsA t2 o.moves), .ext 3 (PtsA t3 o.parts), .ext 23 (SlA 37 2 ra.1 o.parts.length ra.2 (o.parts.flatMap rgC)), .ext 24 (SlA 3 1 wa.1 o.parts.length wa.2 (o.parts.flatMap gpC)), .ext 25 (SlA 3 1 ea.1 o.parts.length ea.2 (o.parts.flatMap ecC)), .ext 20 (SlA 76 11 a o.sagas.length cap (o.sagas.flatMap (nmC A))), .ext 21 (StA o.sagas A)] ++ [.ext 22 (SlA 83 6 z.2.1 z.1 z.2.2 ((o.moves.take z.1).flatMap mvC))]) (fun z => z.1 ≤ o.moves.length) (fun z => o.moves.length - z.1) (0, none, 0) (Nat.zero_le _) (by repeat' (first | exact Sub.nil | (refine Sub.cons rfl rfl ?_))) (HSub.addSlL (L' := [.blk 90 b3 [.v (.int .i64 o.groups), .v (.int .i64 o.done), .v (.slice a o.sagas.length cap), .v (.slice none 0 0), .v (.slice ra.1 o.parts.length ra.2), .v (.slice wa.1 o.parts.length wa.2), .v (.slice ea.1 o.parts.length ea.2)] 72, .blk 13 b2 [.v (.int .i64 0), .v (.int .i64 0), .v (.slice none 0 0), .v (.slice none 0 0), .v (.slice none 0 0), .v (.slice none 0 0), .v (.slice none 0 0)] 72, .blk 0 d [.v (.int .i64 o.groups), .v (.int .i64 o.done), .loc t1 20 0, .loc t2 21 0, .loc t3 22 0] 121, .ext 1 (TabA t1 o.sagas), .ext 2 (MvsA t2 o.moves), .ext 3 (PtsA t3 o.parts), .ext 23 (SlA 37 2 ra.1 o.parts.length ra.2 (o.parts.flatMap rgC)), .ext 24 (SlA 3 1 wa.1 o.parts.length wa.2 (o.parts.flatMap gpC)), .ext 25 (SlA 3 1 ea.1 o.parts.length ea.2 (o.parts.flatMap ecC)), .ext 20 (SlA 76 11 a o.sagas.length cap (o.sagas.flatMap (nmC A))), .ext 21 (StA o.sagas A)]) (by (try dsimp only [List.cons_append, List.nil_append, den, denL]); refine SelI.spec ?_; (repeat (first | refine SelI.blk (by repeat (first | with_reducible apply Rm.head | apply Rm.tail)) ?_ | refine SelI.ext (by repeat (first | with_reducible apply Rm.head | apply Rm.tail)) ?_ | (refine SelI.blk' (by repeat (first | with_reducible apply Rm.head | apply Rm.tail)) ?_ ?_; focus rfl) | (refine SelI.ext' (by repeat (first | with_reducible apply Rm.head | apply Rm.tail)) ?_ ?_; focus rfl))); exact SelI.nil)) ?_
    rintro ⟨i, a2, cap2⟩ hi KL hL2
    dsimp only [List.cons_append, List.nil_append] at hi ⊢
    by_cases hlt : i < o.moves.length
    · obtain ⟨m, hx⟩ : ∃ m, o.moves[i]? = some m := ⟨_, List.getElem?_eq_getElem hlt⟩
      have hsn := flat_snoc (g := mvC) hx
      repeat' (first
 | with_reducible (first | refine r_seq (fun KS hS => ?_) | (refine hS _ _ ?_; clear hS KS) | (refine hA _ ?_; clear hA KA) | (refine hB _ ?_; clear hB KB) | refine r_block ?_)
 | ((with_reducible (first | refine r_region ?_ | refine r_cond (fun KA hA KB hB => ?_) | refine r_ret ?_ | refine r_skip ?_ | refine r_exit ?_ | refine And.intro rfl ?_ | intro b)); conv => whnf)
 | ((with_reducible refine WrapK.i64 ?_ ?_); (focus omega); conv => whnf)
 | ((with_reducible refine CallK.id ?_); refine CallK.s1V (by repeat (first | with_reducible apply Rm.head | apply Rm.tail)) (fun ms w hk => mget1065 hx hml w) ?_; conv => whnf)
 | ((with_reducible refine OpK.id ?_); refine OpK.app (k := 6) rfl rfl rfl rfl rfl rfl rfl rfl (by repeat (first | with_reducible apply At.head | apply At.tail)) (SrcK.slc rfl rfl (by repeat (first | constructor | apply List.Mem.tail)) (Nat.le_refl _) rfl) (big_ok (by omega) (by decide)) (fun a' cap' => ?_); conv => whnf)
 | (refine hL2 (i + 1, a', cap') _ _ (by show i + 1 ≤ _; omega) (by show _ - (i + 1) < _ - i; omega) (by repeat' (first | exact Sub.nil | (refine Sub.cons rfl rfl ?_))) (by refine HSub.trans (HSub.app2 (A := [.blk 90 b3 [.v (.int .i64 o.groups), .v (.int .i64 o.done), .v (.slice a o.sagas.length cap), .v (.slice a' (i + 1) cap'), .v (.slice ra.1 o.parts.length ra.2), .v (.slice wa.1 o.parts.length wa.2), .v (.slice ea.1 o.parts.length ea.2)] 72, .blk 13 b2 [.v (.int .i64 0), .v (.int .i64 0), .v (.slice none 0 0), .v (.slice none 0 0), .v (.slice none 0 0), .v (.slice none 0 0), .v (.slice none 0 0)] 72, .blk 0 d [.v (.int .i64 o.groups), .v (.int .i64 o.done), .loc t1 20 0, .loc t2 21 0, .loc t3 22 0] 121, .ext 1 (TabA t1 o.sagas), .ext 2 (MvsA t2 o.moves), .ext 3 (PtsA t3 o.parts), .ext 23 (SlA 37 2 ra.1 o.parts.length ra.2 (o.parts.flatMap rgC)), .ext 24 (SlA 3 1 wa.1 o.parts.length wa.2 (o.parts.flatMap gpC)), .ext 25 (SlA 3 1 ea.1 o.parts.length ea.2 (o.parts.flatMap ecC)), .ext 20 (SlA 76 11 a o.sagas.length cap (o.sagas.flatMap (nmC A))), .ext 21 (StA o.sagas A)]) (HSub.refl _) (HSub.ext (i := 22) (j := 22) (fun w S h => by rw [← hsn]; exact h) HSub.nil)) ?_; dsimp only [List.cons_append, List.nil_append]; exact (by (try dsimp only [List.cons_append, List.nil_append, den, denL]); refine SelI.spec ?_; (repeat (first | refine SelI.blk (by repeat (first | with_reducible apply Rm.head | apply Rm.tail)) ?_ | refine SelI.ext (by repeat (first | with_reducible apply Rm.head | apply Rm.tail)) ?_ | (refine SelI.blk' (by repeat (first | with_reducible apply Rm.head | apply Rm.tail)) ?_ ?_; focus rfl) | (refine SelI.ext' (by repeat (first | with_reducible apply Rm.head | apply Rm.tail)) ?_ ?_; focus rfl))); exact SelI.nil)))
 | ((with_reducible apply OpK.more); (focus refine sok); (conv => whnf); fail_if_success guard_target =ₛ False)
 | ((with_reducible (first | refine InAt.mk (fun K' hK => ?_) | refine AnyAt.mk (fun K' hK => ?_) | (refine hK _ ?_; clear hK K') | (refine hK _ _ ?_; clear hK K'))); conv => whnf)
 | ((refine And.intro ?_ ?_); all_goals (conv => whnf))
 | (apply r_quiet; refine mixed; kernel_rfl; kernel_rfl; kernel_rfl; conv => whnf)
 | ((first | refine if_t (by decide) ?_ | refine if_f (by decide) ?_ | refine if_decT (by omega) ?_ | refine if_decF (by omega) ?_ | refine if_ndecT (by omega) ?_ | refine if_ndecF (by omega) ?_); conv => whnf)
 | ((first | refine if_dec (fun h => ?_) (fun h => ?_) | refine if_ndec (fun h => ?_) (fun h => ?_) | refine if_cond (fun h => ?_) (fun h => ?_)); all_goals (conv => whnf))
 | with_reducible apply_assumption -symm -exfalso)
    · obtain rfl : i = o.moves.length := by omega
      clear hL2
      rw [List.take_length]
      repeat' (first
 | with_reducible (first | refine r_seq (fun KS hS => ?_) | (refine hS _ _ ?_; clear hS KS) | (refine hA _ ?_; clear hA KA) | (refine hB _ ?_; clear hB KB) | refine r_block ?_)
 | ((with_reducible (first | refine r_region ?_ | refine r_cond (fun KA hA KB hB => ?_) | refine r_ret ?_ | refine r_skip ?_ | refine r_exit ?_ | refine And.intro rfl ?_ | intro b)); conv => whnf)
 | ((with_reducible refine WrapK.i64 ?_ ?_); (focus omega); conv => whnf)
 | ((with_reducible apply OpK.more); (focus refine sok); (conv => whnf); fail_if_success guard_target =ₛ False)
 | ((with_reducible (first | refine InAt.mk (fun K' hK => ?_) | refine AnyAt.mk (fun K' hK => ?_) | (refine hK _ ?_; clear hK K') | (refine hK _ _ ?_; clear hK K'))); conv => whnf)
 | ((refine And.intro ?_ ?_); all_goals (conv => whnf))
 | (apply r_quiet; refine mixed; kernel_rfl; kernel_rfl; kernel_rfl; conv => whnf)
 | ((first | refine if_t (by decide) ?_ | refine if_f (by decide) ?_ | refine if_decT (by omega) ?_ | refine if_decF (by omega) ?_ | refine if_ndecT (by omega) ?_ | refine if_ndecF (by omega) ?_); conv => whnf)
 | ((first | refine if_dec (fun h => ?_) (fun h => ?_) | refine if_ndec (fun h => ?_) (fun h => ?_) | refine if_cond (fun h => ?_) (fun h => ?_)); all_goals (conv => whnf))
 | with_reducible apply_assumption -symm -exfalso)
      refine FinK.frZL ⟨(a, cap), A, (a2, cap2), ra, wa, ea⟩ rfl (HSub.trans (HSub.app2 (A' := [.ext 12 (OrchA d o)]) (or_id (d := d) (s := o) (t1 := t1) (t2 := t2) (t3 := t3) (i := 0) (j := 1) (k := 2) (l := 3)) (HSub.refl (stateH o ⟨(a, cap), A, (a2, cap2), ra, wa, ea⟩))) ?_)
      dsimp only [stateH, List.cons_append, List.nil_append]
      exact (by (try dsimp only [List.cons_append, List.nil_append, den, denL]); refine SelI.spec ?_; (repeat (first | refine SelI.blk (by repeat (first | with_reducible apply Rm.head | apply Rm.tail)) ?_ | refine SelI.ext (by repeat (first | with_reducible apply Rm.head | apply Rm.tail)) ?_ | (refine SelI.blk' (by repeat (first | with_reducible apply Rm.head | apply Rm.tail)) ?_ ?_; focus rfl) | (refine SelI.ext' (by repeat (first | with_reducible apply Rm.head | apply Rm.tail)) ?_ ?_; focus rfl))); exact SelI.nil)
end Go.Proofs.YtjkmpaggfbghiaaGreatDoor

set_option linter.all false
namespace Go.X.OM
open Go Go.X
theorem sumS_snoc {l : List (Int × Sg)} {x : Int × Sg} : sumS (l ++ [x]) = sumS l + x.2.steps := by
  induction l with
  | nil => show x.2.steps + 0 = 0 + x.2.steps; omega
  | cons y l ih => show y.2.steps + sumS (l ++ [x]) = y.2.steps + sumS l + x.2.steps; omega
theorem sumM_snoc {l : List Mv} {x : Mv} : sumM (l ++ [x]) = sumM l + x.left := by
  induction l with
  | nil => show x.left + 0 = 0 + x.left; omega
  | cons y l ih => show y.left + sumM (l ++ [x]) = y.left + sumM l + x.left; omega
theorem steps_bd {s : Sg} (h : SOk s) : 0 ≤ s.steps ∧ s.steps ≤ 16 := by
  have hd := Dfn.steps_pos h.d
  have h0 := h.at0
  have hn := steps_nn h
  refine ⟨hn, ?_⟩
  have h1 := h.at1
  unfold Sg.steps
  split
  · omega
  · split
    · omega
    · split
      · have := h1 (by omega); omega
      · omega
end Go.X.OM
namespace Go.Proofs.YtjkmpaggfbghiaaGreatDoor
open Go Go.X
set_option maxRecDepth 100000
set_option maxHeartbeats 0
theorem take_s {α : Type} {l : List α} {i : Nat} {x : α} (h : l[i]? = some x) : l.take (i + 1) = l.take i ++ [x] := (take_snoc h).symm
theorem steps1033 {s : OM.Sg} (h : OM.SOk s) {a : Option Addr} {cap : Nat} {w : World} (hr : RdS w 80 2 a s.d.steps.length cap (stepCells s.d.steps)) :
    Pu Tryz.prog 33 #[.agg (denL (sgc s a cap)).toArray] w (.tuple #[.int .i64 s.steps, .int .i64 0]) := by
  have hs := fun n' r H => Sees.old (c := ⟨Tryz.prog, TB, n', w, noS, r, TBok⟩) (H := H) hr.old
  have k1 := h.st
  have k2 := h.at0
  have k3 := h.at1
  have k4 := h.atE
  have k5 := OM.Dfn.steps_pos h.d
  obtain ⟨⟨nm, rt, dl, stp⟩, st, at_, cn, tr, bg, er⟩ := s
  dsimp only at k1 k2 k3 k4 k5
  have e : st = 1 ∨ st = 2 ∨ st = 3 ∨ st = 4 ∨ st = 5 := by omega
  have k6 : at_ ≤ 8 := by omega
  obtain ⟨k5, k7, _⟩ := k5
  clear k3 k4
  rcases e with e | e | e | e | e
  all_goals (subst e)
  all_goals (refine enter_sound TBok Tryz.func33 rfl rfl Tryz.ntmps33 [.agg [.v (.string nm), .v (.int .i64 rt), .v (.int .i64 dl), .v (.slice a stp.length cap), .v (.int .i64 _), .v (.int .i64 at_), .v (.bool cn), .v (.int .i64 tr), .v (.int .i64 bg), .v (.int .i64 er)]] (Kn.start w noS) rfl rfl ?_; conv => whnf)
  all_goals (
    repeat' (first
 | with_reducible ((first | refine r_seq (fun KS hS => ?_) | (refine hS _ _ ?_; clear hS KS) | (refine hB _ ?_; clear hB KB)))
 | ((with_reducible (first | refine r_region ?_ | refine r_cond (fun KA hA KB hB => ?_) | refine r_ret ?_ | refine r_skip ?_ | refine And.intro rfl ?_ | intro b)); conv => whnf)
 | ((with_reducible refine WrapK.i64 ?_ ?_); (focus omega); conv => whnf)
 | ((with_reducible refine OpK.id ?_); refine OpK.ixG rfl rfl rfl rfl rfl rfl rfl rfl (by dsimp only; decide) (by dsimp only; decide) rfl ?_; conv => whnf)
 | ((with_reducible refine CallK.at 66 ?_); refine CallK.puW (fun ms w hk => saga1066 h (Sees.rd (hs _ _ _) hk)) ?_; conv => whnf)
 | with_reducible apply_assumption -symm -exfalso)
    refine FinK.pu ?_
    simp [den, denL, OM.Sg.steps]
  )
end Go.Proofs.YtjkmpaggfbghiaaGreatDoor

set_option linter.all false
namespace Go.Proofs.YtjkmpaggfbghiaaGreatDoor
open Go Go.X
set_option maxRecDepth 100000
set_option maxHeartbeats 0
theorem nm_at {A : Pl} {l : List (Int × OM.Sg)} {i : Nat} {x : Int × OM.Sg} (h : l[i]? = some x) : ((l.flatMap (nmC A)).drop ((i : Int).toNat * 11)).take 11 = denL (.v (.int .i64 x.1) :: sgc x.2 (A x.1).1 (A x.1).2) := flat_at (k := 11) (g := nmC A) (fun _ => rfl) h
theorem max_left (m : OM.Mv) : Max.max (3 - m.st) 0 = m.left := by
  unfold OM.Mv.left
  split <;> omega
theorem nxE_none : ∀ {L : SL}, (nxE L).length = 0 ↔ L.all (fun x => !x.2.open_) = true := by
  intro L
  rw [List.length_eq_zero_iff, List.filterMap_eq_nil_iff, List.all_eq_true]
  constructor
  · intro h x hx
    have := h x hx
    unfold OM.Sg.next at this
    cases ho : x.2.open_ with
    | false => rfl
    | true => rw [ho] at this; cases this
  · intro h x hx
    have := h x hx
    unfold OM.Sg.next
    cases ho : x.2.open_ with
    | false => rfl
    | true => rw [ho] at this; cases this
theorem oquiet_eq {o : OM.St} : OQuiet o = o.quiet := by
  have h1 : decide (((nxE o.sagas).length : Int) = 0) = o.sagas.all (fun x => !x.2.open_) := by
    rw [Bool.eq_iff_iff, decide_eq_true_iff, ← nxE_none]
    omega
  have h2 : decide (((OM.openF 1 o.moves).length : Int) = 0) = o.openM.isEmpty := by
    rw [Bool.eq_iff_iff, decide_eq_true_iff, List.isEmpty_iff]
    show _ ↔ OM.openF 1 o.moves = []
    rw [← List.length_eq_zero_iff]
    omega
  unfold OQuiet OM.St.quiet
  rw [h1, h2]
theorem oquiet_items {o : OM.St} (hi : OM.Inv o) : OQuiet o = decide (o.items.length = 0) := by
  rw [oquiet_eq, Bool.eq_iff_iff, decide_eq_true_iff, ← OM.quiet_iff hi, items_len, List.length_eq_zero_iff]
abbrev askI (k : Int) : OM.Cmd := { OM.zCmd with kind := 12, saga := k }
theorem askI_ok {k : Int} (h1 : 1 ≤ k) (h2 : k ≤ 9999) : (askI k).ok = true := by
  unfold OM.Cmd.ok
  show (if (12 : Int) = 0 then _ else if (12 : Int) = 11 then _ else if (12 : Int) = 12 ∨ (12 : Int) = 13 then _ else _) = true
  rw [if_neg (by decide), if_neg (by decide), if_pos (.inl rfl)]
  simp only [Bool.and_eq_true, decide_eq_true_eq, beq_self_eq_true, and_true]
  exact ⟨⟨⟨by decide, by decide⟩, h1⟩, h2⟩
theorem askI_do {o : OM.St} {k : Int} (h1 : 1 ≤ k) (h2 : k ≤ 9999) : ((o.apply (askI k)).1).sagas = o.sagas ∧ (o.apply (askI k)).2 = o.told k := by
  have h : o.dox (askI k) = (o, o.told k) := OM.dox_status o 0 k (askI_ok h1 h2)
  unfold OM.St.apply
  rw [h]
  exact ⟨rfl, rfl⟩
theorem most_bd {o : OM.St} (hi : OM.Inv o) : o.most ≤ 2000 := by
  have h1 : ∀ l : List (Int × OM.Sg), (∀ x ∈ l, OM.SOk x.2) → OM.sumS l ≤ 16 * l.length := by
    intro l
    induction l with
    | nil => intro _; exact Int.le_refl 0
    | cons y l ih =>
      intro h
      have h1 := (OM.steps_bd (h y (by simp))).2
      have h2 := ih fun x hx => h x (by simp [hx])
      show y.2.steps + OM.sumS l ≤ 16 * ((l.length + 1 : Nat) : Int)
      omega
  have h2 : ∀ l : List OM.Mv, (∀ m ∈ l, 1 ≤ m.st) → OM.sumM l ≤ 3 * l.length := by
    intro l
    induction l with
    | nil => intro _; exact Int.le_refl 0
    | cons y l ih =>
      intro h
      have h1 := h y (by simp)
      have h2 := ih fun x hx => h x (by simp [hx])
      have h3 : y.left ≤ 3 := by unfold OM.Mv.left; split <;> omega
      show y.left + OM.sumM l ≤ 3 * ((l.length + 1 : Nat) : Int)
      omega
  have h3 := h1 o.sagas fun x hx => (hi.sok x hx).2.2
  have h4 := h2 o.moves fun m hm => (hi.mok m hm).2.2.2.2.2.2.1
  have h5 := hi.slen
  have h6 := hi.mlen
  unfold OM.St.most
  omega
theorem orchEnds1008 {l1 : List (Nat × Nat)} {a1 : Option Addr} {cap1 n : Nat} {o0 o1 : Obj} {w : World} (hko : KObj o0 o1)
    (hr1 : RdB w a1 (lmC l1)) (hcap1 : l1.length ≤ cap1) (hll1 : l1.length ≤ 9223372036854775807) (hl1 : ∀ m ∈ l1, m.1 ≤ 255 ∧ m.2 ≤ 65535) (hn : n ≤ 255) :
    FrZ Tryz.prog 8 #[.slice a1 l1.length cap1, .int .u8 (n : Nat)] w (AssL [.ext 9 (GlX o0 o1)]) (fun _ : Unit => .bool true) (fun _ => AssL [.ext 9 (GlA o0 o1)]) := by
  refine enter_frZ TBok (H := [.ext 9 (GlX o0 o1)]) all_foot Tryz.func8 rfl rfl Tryz.ntmps8 [.v (.slice a1 l1.length cap1), .v (.int .u8 (n : Nat))] rfl rfl ?_
  intro S hA hlt
  obtain ⟨hSx, hh0, hh1⟩ := GlX.only hA
  have hng1 := notGl hko hh0 hh1 hr1
  have sa := fun n' r H => SeesB.oldX (c := ⟨Tryz.prog, TB, n', w, S, r, TBok⟩) (H := H) hr1 (fun i v b off h1 h2 hb => by
    have := hng1 i v b off h1 h2
    rcases hSx b hb with e | e <;> omega)
  clear hA hlt hSx hng1
  obtain ⟨o, ho⟩ : ∃ o, OM.playF (OM.init 4) (l1.take 60) = o := ⟨_, rfl⟩
  have hIo : OM.Inv o := by rw [← ho]; exact (OM.Inv.init (g := 4) (by decide)).play _
  have hpl1011 := fun (w : World) (hr : RdB w a1 (lmC l1)) => played1011 hko hr hcap1 hll1 hl1
  simp only [ho] at hpl1011
  clear ho
  have hsl := hIo.slen
  have hml := hIo.mlen
  have hmb := most_bd hIo
  conv => whnf
  repeat' (first
 | with_reducible refine r_stop 6 ?_
 | with_reducible ((first | refine r_seq (fun KS hS => ?_) | (refine hS _ _ ?_; clear hS KS) | (refine hB _ ?_; clear hB KB)))
 | ((with_reducible (first | refine r_region ?_ | refine r_cond (fun KA hA KB hB => ?_) | refine r_skip ?_ | refine And.intro rfl ?_ | intro b)); conv => whnf)
 | ((with_reducible refine CallK.id ?_); (first | refine CallK.s1 (by repeat (first | with_reducible apply Rm.head | apply Rm.tail)) (fun ms w hk => hpl1011 w (sa _ _ _ ms w hk)) ?_ | (refine CallK.selZS (fun z => .agg (stateV o z)) (fun _ => rfl) (by apply Sel.cons; (case h => repeat (first | with_reducible apply Rm.head | apply Rm.tail)); exact Sel.nil) (fun ms w hk => state1024 hIo w) ?_; intro z; dsimp only [layF, stateH])); conv => whnf)
 | ((with_reducible apply OpK.more); (focus refine sok); (conv => whnf); fail_if_success guard_target =ₛ False)
 | with_reducible apply_assumption -symm -exfalso)
  refine StopR.mk ?_
  rename_i d _ _
  clear hA KA
  revert b
  intro b7
  have hz1 : z.sa.1 = z.sa.1 := rfl
  repeat' (first
 | with_reducible ((first | refine r_seq (fun KS hS => ?_) | (refine hS _ _ ?_; clear hS KS) | refine r_block ?_))
 | ((with_reducible (first | refine r_region ?_ | refine And.intro rfl ?_)); conv => whnf))
  refine r_loop (α := Nat × Int) (fun x => [(5, .v (pv d)), (1, .v (.int .u8 (n : Nat))), (6, .v (.int .i64 x.2)), (7, .loc b7 13 0), (27, .v (.slice z.sa.1 o.sagas.length z.sa.2)), (28, .v (.int .i64 (o.sagas.length : Nat))), (29, .v (.int .i64 (x.1 : Nat)))]) (fun _ => [.blk 13 b7 (stateV o z) 72, .ext 12 (OrchA d o), .ext 9 (GlA o0 o1), .ext 20 (SlA 76 11 z.sa.1 o.sagas.length z.sa.2 (o.sagas.flatMap (nmC z.A))), .ext 21 (StA o.sagas z.A), .ext 22 (SlA 83 6 z.ma.1 o.moves.length z.ma.2 (o.moves.flatMap mvC))]) (fun x => x.1 ≤ o.sagas.length ∧ 0 ≤ x.2 ∧ x.2 ≤ 16 * x.1 ∧ x.2 = OM.sumS (o.sagas.take x.1)) (fun x => o.sagas.length - x.1) (0, 0) ⟨Nat.zero_le _, Int.le_refl 0, by show (0 : Int) ≤ 16 * ((0 : Nat) : Int); decide, by rw [List.take_zero]; rfl⟩ (by repeat' (first | exact Sub.nil | (refine Sub.cons rfl rfl ?_))) (by (try dsimp only [List.cons_append, List.nil_append, den, denL]); refine SelI.spec ?_; (repeat (first | refine SelI.blk (by repeat (first | with_reducible apply Rm.head | apply Rm.tail)) ?_ | refine SelI.ext (by repeat (first | with_reducible apply Rm.head | apply Rm.tail)) ?_ | (refine SelI.blk' (by repeat (first | with_reducible apply Rm.head | apply Rm.tail)) ?_ ?_; focus rfl) | (refine SelI.ext' (by repeat (first | with_reducible apply Rm.head | apply Rm.tail)) ?_ ?_; focus rfl))); exact SelI.nil) ?_
  rintro ⟨i, m⟩ ⟨hi, hm0, hm1, hm2⟩ KL hL2
  dsimp only at hi hm0 hm1 hm2 ⊢
  by_cases hlt : i < o.sagas.length
  · obtain ⟨x, hx⟩ : ∃ x, o.sagas[i]? = some x := ⟨_, List.getElem?_eq_getElem hlt⟩
    have hmem := List.mem_of_getElem? hx
    have hsk := (hIo.sok x hmem).2.2
    have hbd := OM.steps_bd hsk
    have hnx : m + x.2.steps = OM.sumS (o.sagas.take (i + 1)) := by rw [take_s hx, OM.sumS_snoc, hm2]
    repeat' (first
 | with_reducible ((first | refine r_seq (fun KS hS => ?_) | (refine hS _ _ ?_; clear hS KS) | (refine hA _ ?_; clear hA KA) | (refine hB _ ?_; clear hB KB) | refine r_block ?_))
 | ((with_reducible (first | refine r_region ?_ | refine r_cond (fun KA hA KB hB => ?_) | refine r_skip ?_ | refine And.intro rfl ?_ | intro b)); conv => whnf)
 | ((with_reducible refine WrapK.i64 ?_ ?_); (focus omega); conv => whnf)
 | ((with_reducible refine OpK.id ?_); (first | refine OpK.idx (k := 11) rfl rfl rfl rfl rfl rfl rfl (Sees.ext (by repeat (first | with_reducible apply At.head | apply At.tail))) (by omega) (by omega) (nm_at hx) (fun b off hp => ?_) | refine OpK.ldp rfl rfl hp (List.cons_ne_nil _ _) ?_); conv => whnf)
 | ((with_reducible refine CallK.at 33 ?_); refine CallK.puW (fun ms w hk => steps1033 hsk (Sees.rd (StA.sees (by repeat (first | with_reducible apply At.head | apply At.tail)) hmem) hk)) ?_; conv => whnf)
 | (refine hL2 (i + 1, m + x.2.steps) _ _ ⟨by show i + 1 ≤ _; omega, by show 0 ≤ m + x.2.steps; omega, by show m + x.2.steps ≤ 16 * ((i + 1 : Nat) : Int); omega, hnx⟩ (by show _ - (i + 1) < _ - i; omega) (by repeat' (first | exact Sub.nil | (refine Sub.cons rfl rfl ?_))) (by (try dsimp only [List.cons_append, List.nil_append, den, denL]); refine SelI.spec ?_; (repeat (first | refine SelI.blk (by repeat (first | with_reducible apply Rm.head | apply Rm.tail)) ?_ | refine SelI.ext (by repeat (first | with_reducible apply Rm.head | apply Rm.tail)) ?_ | (refine SelI.blk' (by repeat (first | with_reducible apply Rm.head | apply Rm.tail)) ?_ ?_; focus rfl) | (refine SelI.ext' (by repeat (first | with_reducible apply Rm.head | apply Rm.tail)) ?_ ?_; focus rfl))); exact SelI.nil))
 | (refine if_decT (by omega) ?_; conv => whnf)
 | with_reducible apply_assumption -symm -exfalso)
  · obtain rfl : i = o.sagas.length := by omega
    clear hL2
    rw [List.take_length] at hm2
    repeat' (first
 | with_reducible ((first | refine r_seq (fun KS hS => ?_) | (refine hS _ _ ?_; clear hS KS) | (refine hB _ ?_; clear hB KB) | refine r_block ?_))
 | ((with_reducible (first | refine r_region ?_ | refine r_cond (fun KA hA KB hB => ?_) | refine r_exit ?_ | refine And.intro rfl ?_)); conv => whnf)
 | (refine if_decF (by omega) ?_; conv => whnf)
 | with_reducible apply_assumption -symm -exfalso)
    refine r_loop (α := Nat × Int) (fun x => [(5, .v (pv d)), (1, .v (.int .u8 (n : Nat))), (6, .v (.int .i64 x.2)), (46, .v (.slice z.ma.1 o.moves.length z.ma.2)), (47, .v (.int .i64 (o.moves.length : Nat))), (48, .v (.int .i64 (x.1 : Nat)))]) (fun _ => [.ext 12 (OrchA d o), .ext 9 (GlA o0 o1), .ext 22 (SlA 83 6 z.ma.1 o.moves.length z.ma.2 (o.moves.flatMap mvC))]) (fun x => x.1 ≤ o.moves.length ∧ 0 ≤ x.2 ∧ x.2 ≤ 16 * o.sagas.length + 3 * x.1 ∧ x.2 = OM.sumS o.sagas + OM.sumM (o.moves.take x.1)) (fun x => o.moves.length - x.1) (0, m) ⟨Nat.zero_le _, hm0, by show m ≤ 16 * (o.sagas.length : Int) + 3 * ((0 : Nat) : Int); omega, by rw [List.take_zero]; show m = OM.sumS o.sagas + 0; omega⟩ (by repeat' (first | exact Sub.nil | (refine Sub.cons rfl rfl ?_))) (by (try dsimp only [List.cons_append, List.nil_append, den, denL]); refine SelI.spec ?_; (repeat (first | refine SelI.blk (by repeat (first | with_reducible apply Rm.head | apply Rm.tail)) ?_ | refine SelI.ext (by repeat (first | with_reducible apply Rm.head | apply Rm.tail)) ?_ | (refine SelI.blk' (by repeat (first | with_reducible apply Rm.head | apply Rm.tail)) ?_ ?_; focus rfl) | (refine SelI.ext' (by repeat (first | with_reducible apply Rm.head | apply Rm.tail)) ?_ ?_; focus rfl))); exact SelI.nil) ?_
    clear hm0 hm1 hm2 hi hlt
    rintro ⟨i, m⟩ ⟨hi, hm0, hm1, hm2⟩ KL2 hL3
    dsimp only at hi hm0 hm1 hm2 ⊢
    by_cases hlt : i < o.moves.length
    · obtain ⟨x, hx⟩ : ∃ x, o.moves[i]? = some x := ⟨_, List.getElem?_eq_getElem hlt⟩
      have hst := (hIo.mok x (List.mem_of_getElem? hx)).2.2.2.2.2.2
      have hxl := max_left x
      have hl3 : 0 ≤ x.left ∧ x.left ≤ 3 := by omega
      have hnx : m + Max.max (3 - x.st) 0 = OM.sumS o.sagas + OM.sumM (o.moves.take (i + 1)) := by rw [take_s hx, OM.sumM_snoc, hm2, hxl]; omega
      repeat' (first
 | with_reducible ((first | refine r_seq (fun KS hS => ?_) | (refine hS _ _ ?_; clear hS KS) | (refine hA _ ?_; clear hA KA) | refine r_block ?_))
 | ((with_reducible (first | refine r_region ?_ | refine r_cond (fun KA hA KB hB => ?_) | refine r_skip ?_ | refine And.intro rfl ?_ | intro b)); conv => whnf)
 | ((with_reducible refine WrapK.i64 ?_ ?_); (focus omega); conv => whnf)
 | ((with_reducible refine OpK.id ?_); (first | refine OpK.idx (k := 6) rfl rfl rfl rfl rfl rfl rfl (Sees.ext (by repeat (first | with_reducible apply At.head | apply At.tail))) (by omega) (by omega) (mv_at hx) (fun b off hp => ?_) | refine OpK.ldp rfl rfl hp (List.cons_ne_nil _ _) ?_ | refine OpK.maxI rfl rfl rfl ?_); conv => whnf)
 | (refine hL3 (i + 1, m + Max.max (3 - x.st) 0) _ _ ⟨by show i + 1 ≤ _; omega, by show 0 ≤ m + Max.max (3 - x.st) 0; omega, by show m + Max.max (3 - x.st) 0 ≤ 16 * (o.sagas.length : Int) + 3 * ((i + 1 : Nat) : Int); omega, hnx⟩ (by show _ - (i + 1) < _ - i; omega) (by repeat' (first | exact Sub.nil | (refine Sub.cons rfl rfl ?_))) (by (try dsimp only [List.cons_append, List.nil_append, den, denL]); refine SelI.spec ?_; (repeat (first | refine SelI.blk (by repeat (first | with_reducible apply Rm.head | apply Rm.tail)) ?_ | refine SelI.ext (by repeat (first | with_reducible apply Rm.head | apply Rm.tail)) ?_ | (refine SelI.blk' (by repeat (first | with_reducible apply Rm.head | apply Rm.tail)) ?_ ?_; focus rfl) | (refine SelI.ext' (by repeat (first | with_reducible apply Rm.head | apply Rm.tail)) ?_ ?_; focus rfl))); exact SelI.nil))
 | (refine if_decT (by omega) ?_; conv => whnf)
 | with_reducible apply_assumption -symm -exfalso)
    · obtain rfl : i = o.moves.length := by omega
      clear hL3
      rw [List.take_length] at hm2
      have hmo : m = o.most := hm2
      subst hmo
      repeat' (first
 | with_reducible ((first | refine r_seq (fun KS hS => ?_) | (refine hS _ _ ?_; clear hS KS) | (refine hB _ ?_; clear hB KB) | refine r_block ?_))
 | ((with_reducible (first | refine r_region ?_ | refine r_cond (fun KA hA KB hB => ?_) | refine r_exit ?_)); conv => whnf)
 | (refine if_decF (by omega) ?_; conv => whnf)
 | with_reducible apply_assumption -symm -exfalso)
      refine r_loop (α := Nat × OM.St) (fun x => [(5, .v (pv d)), (1, .v (.int .u8 (n : Nat))), (6, .v (.int .i64 o.most)), (14, .v (.int .i64 (x.1 : Nat)))]) (fun x => [.ext 12 (OrchA d x.2), .ext 9 (GlA o0 o1), .ext 8 (dfA OM.zDef none 0)]) (fun x => x.1 + x.2.most ≤ o.most ∧ OM.Reach o x.2) (fun x => x.2.most.toNat) (0, o) ⟨by show ((0 : Nat) : Int) + o.most ≤ o.most; omega, .refl o⟩ (by repeat' (first | exact Sub.nil | (refine Sub.cons rfl rfl ?_))) (HSub.addSlL (L' := [.ext 12 (OrchA d o), .ext 9 (GlA o0 o1)]) (by (try dsimp only [List.cons_append, List.nil_append, den, denL]); refine SelI.spec ?_; (repeat (first | refine SelI.blk (by repeat (first | with_reducible apply Rm.head | apply Rm.tail)) ?_ | refine SelI.ext (by repeat (first | with_reducible apply Rm.head | apply Rm.tail)) ?_ | (refine SelI.blk' (by repeat (first | with_reducible apply Rm.head | apply Rm.tail)) ?_ ?_; focus rfl) | (refine SelI.ext' (by repeat (first | with_reducible apply Rm.head | apply Rm.tail)) ?_ ?_; focus rfl))); exact SelI.nil)) ?_
      clear hm0 hm1 hm2 hi hlt hpl1011 sa hr1
      rintro ⟨k, s⟩ ⟨hk1, hre⟩ KL3 hL4
      dsimp only at hk1 hre ⊢
      have hIs := hre.inv hIo
      have hnn := OM.most_nn hIs
      have hsl := items_le hIs
      have hoq := oquiet_items hIs
      have hqu1034 := fun w => quiet1034 (d := d) hko hIs w
      have hit1012 := fun w => items1012 (d := d) hko hIs w
      by_cases he : s.items.length = 0
      · have hq : OQuiet s = true := by rw [hoq, he]; rfl
        have hqs : s.quiet = true := by rw [← oquiet_eq]; exact hq
        have hcl : ∀ x ∈ s.sagas, x.2.st = 4 ∨ x.2.st = 5 := by
          intro x hx
          have h1 : s.sagas.all (fun x => !x.2.open_) = true := by
            unfold OM.St.quiet at hqs
            simp only [Bool.and_eq_true] at hqs
            exact hqs.1
          have h2 := List.all_eq_true.1 h1 x hx
          have h3 := (hIs.sok x hx).2.2.st
          unfold OM.Sg.open_ at h2
          have h4 : ¬ x.2.st < 4 := by simpa using h2
          omega
        rw [hq] at hqu1034
        rw [he] at hit1012
        clear hq hqs hoq hsl hL4
        have hsl2 := hIs.slen
        repeat' (first
 | with_reducible ((first | refine r_seq (fun KS hS => ?_) | (refine hS _ _ ?_; clear hS KS) | (refine hA _ ?_; clear hA KA) | (refine hB _ ?_; clear hB KB) | refine r_block ?_))
 | ((with_reducible (first | refine r_region ?_ | refine r_cond (fun KA hA KB hB => ?_) | refine r_skip ?_ | refine r_exit ?_ | intro b)); conv => whnf)
 | ((with_reducible refine CallK.id ?_); (first | refine CallK.s2 (by repeat (first | with_reducible apply Rm.head | apply Rm.tail)) (by repeat (first | with_reducible apply Rm.head | apply Rm.tail)) (fun ms w hk => hit1012 w) ?_ | refine CallK.s2V (by repeat (first | with_reducible apply Rm.head | apply Rm.tail)) (by repeat (first | with_reducible apply Rm.head | apply Rm.tail)) (fun ms w hk => hqu1034 w) ?_ | (refine CallK.selZS (fun z => .agg (stateV s z)) (fun _ => rfl) (by apply Sel.cons; (case h => repeat (first | with_reducible apply Rm.head | apply Rm.tail)); exact Sel.nil) (fun ms w hk => state1024 hIs w) ?_; intro z; dsimp only [layF, stateH])); conv => whnf)
 | ((with_reducible apply OpK.more); (focus refine sok); (conv => whnf); fail_if_success guard_target =ₛ False)
 | (refine if_decF (by omega) ?_; conv => whnf)
 | with_reducible apply_assumption -symm -exfalso)
        refine r_loop (α := Nat × OM.St) (fun x => [(5, .v (pv d)), (93, .v (.slice z.sa.1 s.sagas.length z.sa.2)), (94, .v (.int .i64 (s.sagas.length : Nat))), (95, .v (.int .i64 (x.1 : Nat)))]) (fun x => [.ext 30 (StA s.sagas z.A), .ext 12 (OrchA d x.2), .ext 9 (GlA o0 o1), .ext 8 (dfA OM.zDef none 0), .ext 20 (SlA 76 11 z.sa.1 s.sagas.length z.sa.2 (s.sagas.flatMap (nmC z.A)))]) (fun x => x.1 ≤ s.sagas.length ∧ x.2.sagas = s.sagas ∧ OM.Reach o x.2) (fun x => s.sagas.length - x.1) (0, s) ⟨Nat.zero_le _, rfl, hre⟩ (by repeat' (first | exact Sub.nil | (refine Sub.cons rfl rfl ?_))) (by (try dsimp only [List.cons_append, List.nil_append, den, denL]); refine SelI.spec ?_; (repeat (first | refine SelI.blk (by repeat (first | with_reducible apply Rm.head | apply Rm.tail)) ?_ | refine SelI.ext (by repeat (first | with_reducible apply Rm.head | apply Rm.tail)) ?_ | (refine SelI.blk' (by repeat (first | with_reducible apply Rm.head | apply Rm.tail)) ?_ ?_; focus rfl) | (refine SelI.ext' (by repeat (first | with_reducible apply Rm.head | apply Rm.tail)) ?_ ?_; focus rfl))); exact SelI.nil) ?_
        clear hqu1034 hit1012 hk1 he
        have hIs0 := hIs
        clear hre hIs
        rintro ⟨i, t⟩ ⟨hi, hts, hre⟩ KL4 hL5
        dsimp only at hi hts hre ⊢
        have hIt := hre.inv hIo
        by_cases hlt : i < s.sagas.length
        · obtain ⟨⟨id, ⟨⟨nm, rt, dl, stp⟩, st, at_, cn, tr, bg, er⟩⟩, hx⟩ : ∃ x, s.sagas[i]? = some x := ⟨_, List.getElem?_eq_getElem hlt⟩
          have hmem := List.mem_of_getElem? hx
          have hst := hcl _ hmem
          obtain ⟨hid1, hid2, _⟩ := hIs0.sok _ hmem
          dsimp only at hst hid1 hid2
          obtain ⟨q1, q2⟩ := askI_do (o := t) hid1 hid2
          have hg : t.get id = some ⟨⟨nm, rt, dl, stp⟩, st, at_, cn, tr, bg, er⟩ := OM.get_of_mem hIt.srt (by rw [hts]; exact hmem)
          obtain ⟨t', ht'⟩ : ∃ t', (t.apply (askI id)).1 = t' := ⟨_, rfl⟩
          have hre' : OM.Reach o t' := by rw [← ht']; exact .step _ hre
          rw [ht'] at q1
          have hts' : t'.sagas = s.sagas := q1.trans hts
          have ht : t.told id = ⟨0, st⟩ := by unfold OM.St.told; rw [hg]
          have hap1014 : ∀ w, Fr Tryz.prog 14 #[pv d, .agg (denL (cmV (askI id) none 0 0)).toArray] w (AssL [.ext 12 (OrchA d t), .ext 9 (GlA o0 o1), .ext 8 (dfA OM.zDef none 0)]) (rpV ⟨0, st⟩) (AssL [.ext 12 (OrchA d t'), .ext 9 (GlA o0 o1), .ext 8 (dfA OM.zDef none 0)]) := fun w => by
            have := apply1014 (d := d) (a := none) (cap := 0) (c := askI id) hko hIt (askI_ok hid1 hid2) (fun _ => rfl) w
            rw [q2, ht', ht] at this
            exact this
          clear q1 q2 ht ht' hts hre hg hmem hcl
          rcases hst with rfl | rfl
          all_goals (
            repeat' (first
 | with_reducible ((first | refine r_seq (fun KS hS => ?_) | (refine hS _ _ ?_; clear hS KS) | (refine hA _ ?_; clear hA KA) | (refine hB _ ?_; clear hB KB) | refine r_block ?_))
 | ((with_reducible (first | refine r_region ?_ | refine r_cond (fun KA hA KB hB => ?_) | refine r_skip ?_ | refine And.intro rfl ?_ | intro b)); conv => whnf)
 | ((with_reducible refine WrapK.i64 ?_ ?_); (focus omega); conv => whnf)
 | ((with_reducible refine OpK.id ?_); (first | refine OpK.idx (k := 11) rfl rfl rfl rfl rfl rfl rfl (Sees.ext (by repeat (first | with_reducible apply At.head | apply At.tail))) (by omega) (by omega) (nm_at hx) (fun b off hp => ?_) | refine OpK.ldp rfl rfl hp (List.cons_ne_nil _ _) ?_); conv => whnf)
 | ((with_reducible refine CallK.id ?_); refine CallK.selS (.agg [.v (.int .i64 0), .v (.int .i64 _), .v (.string ⟨#[]⟩)]) rfl (by apply Sel.cons; (case h => repeat (first | with_reducible apply Rm.head | apply Rm.tail)); apply Sel.cons; (case h => repeat (first | with_reducible apply Rm.head | apply Rm.tail)); apply Sel.cons; (case h => repeat (first | with_reducible apply Rm.head | apply Rm.tail)); exact Sel.nil) (fun ms w hk => hap1014 w) ?_; dsimp only [layF]; conv => whnf)
 | (refine hL5 (i + 1, t') _ _ ⟨by show i + 1 ≤ _; omega, hts', hre'⟩ (by show _ - (i + 1) < _ - i; omega) (by repeat' (first | exact Sub.nil | (refine Sub.cons rfl rfl ?_))) (by (try dsimp only [List.cons_append, List.nil_append, den, denL]); refine SelI.spec ?_; (repeat (first | refine SelI.blk (by repeat (first | with_reducible apply Rm.head | apply Rm.tail)) ?_ | refine SelI.ext (by repeat (first | with_reducible apply Rm.head | apply Rm.tail)) ?_ | (refine SelI.blk' (by repeat (first | with_reducible apply Rm.head | apply Rm.tail)) ?_ ?_; focus rfl) | (refine SelI.ext' (by repeat (first | with_reducible apply Rm.head | apply Rm.tail)) ?_ ?_; focus rfl))); exact SelI.nil))
 | (refine if_decT (by omega) ?_; conv => whnf)
 | with_reducible apply_assumption -symm -exfalso)
          )
        · obtain rfl : i = s.sagas.length := by omega
          clear hL5
          repeat' (first
 | with_reducible ((first | refine r_seq (fun KS hS => ?_) | (refine hS _ _ ?_; clear hS KS) | (refine hB _ ?_; clear hB KB)))
 | ((with_reducible (first | refine r_region ?_ | refine r_cond (fun KA hA KB hB => ?_) | refine r_ret ?_ | refine r_exit ?_)); conv => whnf)
 | ((with_reducible refine CallK.id ?_); refine CallK.s1V (by repeat (first | with_reducible apply Rm.head | apply Rm.tail)) (fun ms w hk => works1013 hko w) ?_; conv => whnf)
 | (refine if_decF (by omega) ?_; conv => whnf)
 | with_reducible apply_assumption -symm -exfalso)
          exact FinK.frZL () rfl (by (try dsimp only [List.cons_append, List.nil_append, den, denL]); refine SelI.spec ?_; (repeat (first | refine SelI.blk (by repeat (first | with_reducible apply Rm.head | apply Rm.tail)) ?_ | refine SelI.ext (by repeat (first | with_reducible apply Rm.head | apply Rm.tail)) ?_ | (refine SelI.blk' (by repeat (first | with_reducible apply Rm.head | apply Rm.tail)) ?_ ?_; focus rfl) | (refine SelI.ext' (by repeat (first | with_reducible apply Rm.head | apply Rm.tail)) ?_ ?_; focus rfl))); exact SelI.nil)
      · obtain ⟨L, hL⟩ : ∃ L, s.items.length = L + 1 := ⟨s.items.length - 1, by omega⟩
        have hnl : n % s.items.length < s.items.length := Nat.mod_lt _ (by omega)
        obtain ⟨x, hx⟩ : ∃ x, s.items[n % s.items.length]? = some x := ⟨_, List.getElem?_eq_getElem hnl⟩
        obtain ⟨cx, hxw⟩ : ∃ c, (x, c) ∈ s.wanted := by
          have hm := List.mem_of_getElem? hx
          unfold OM.St.items at hm
          obtain ⟨⟨y, c⟩, h1, rfl⟩ := List.mem_map.1 hm
          exact ⟨c, h1⟩
        have hxo := OM.item_ok hIs hxw
        have honce := (OM.once hIs hxw (d := OM.eps) (by decide)).1
        have hnear := OM.nearer hIs hxw (d := OM.eps) (by decide)
        obtain ⟨s1, hs1⟩ : ∃ s1, (s.apply (OM.resC x 0 OM.eps)).1 = s1 := ⟨_, rfl⟩
        have hre1 : OM.Reach o s1 := by rw [← hs1]; exact .step _ hre
        have hnn1 := OM.most_nn (hre1.inv hIo)
        have hap1014 : ∀ w, Fr Tryz.prog 14 #[pv d, .agg (denL (cmV (OM.resC x 0 OM.eps) none 0 0)).toArray] w (AssL [.ext 12 (OrchA d s), .ext 9 (GlA o0 o1), .ext 8 (dfA OM.zDef none 0)]) (rpV ⟨0, 0⟩) (AssL [.ext 12 (OrchA d s1), .ext 9 (GlA o0 o1), .ext 8 (dfA OM.zDef none 0)]) := fun w => by
          have := apply1014 (d := d) (a := none) (cap := 0) (c := OM.resC x 0 OM.eps) hko hIs (OM.resC_ok (res := 0) (d := OM.eps) hxo (by decide) (by decide)) (fun _ => rfl) w
          rw [honce, hs1] at this
          exact this
        rw [hs1] at hnear
        rw [hL] at hoq hit1012
        have hq : OQuiet s = false := hoq
        rw [hq] at hqu1034
        have hxL : s.items[n % (L + 1)]? = some x := by rw [← hL]; exact hx
        have hnL : n % (L + 1) < L + 1 := by rw [← hL]; exact hnl
        clear honce hs1 hre hoq hL hx hnl
        repeat' (first
 | with_reducible ((first | refine r_seq (fun KS hS => ?_) | (refine hS _ _ ?_; clear hS KS) | (refine hB _ ?_; clear hB KB) | refine r_block ?_))
 | ((with_reducible (first | refine r_region ?_ | refine r_cond (fun KA hA KB hB => ?_) | refine r_skip ?_ | refine And.intro rfl ?_ | intro b)); conv => whnf)
 | ((with_reducible refine WrapK.i64 ?_ ?_); (focus omega); conv => whnf)
 | ((with_reducible refine RemK.id ?_); refine RemK.eq (by omega) (tmN n (L + 1)) ?_; conv => whnf)
 | ((with_reducible refine CallK.id ?_); (first | refine CallK.s2 (by repeat (first | with_reducible apply Rm.head | apply Rm.tail)) (by repeat (first | with_reducible apply Rm.head | apply Rm.tail)) (fun ms w hk => hit1012 w) ?_ | refine CallK.s2V (by repeat (first | with_reducible apply Rm.head | apply Rm.tail)) (by repeat (first | with_reducible apply Rm.head | apply Rm.tail)) (fun ms w hk => hqu1034 w) ?_); conv => whnf)
 | ((with_reducible refine OpK.id ?_); (first | refine OpK.idx (k := 6) rfl rfl rfl rfl rfl rfl rfl (Sees.ext (by repeat (first | with_reducible apply At.head | apply At.tail))) (by omega) (by omega) (it_at hxL) (fun b off hp => ?_) | refine OpK.ldp rfl rfl hp (List.cons_ne_nil _ _) ?_); conv => whnf)
 | ((with_reducible refine CallK.at 15 ?_); refine CallK.pu (fun w => result1015 x 0 OM.eps w) ?_; conv => whnf)
 | ((with_reducible refine CallK.id ?_); refine CallK.selS (.agg [.v (.int .i64 0), .v (.int .i64 0), .v (.string ⟨#[]⟩)]) rfl (by apply Sel.cons; (case h => repeat (first | with_reducible apply Rm.head | apply Rm.tail)); apply Sel.cons; (case h => repeat (first | with_reducible apply Rm.head | apply Rm.tail)); apply Sel.cons; (case h => repeat (first | with_reducible apply Rm.head | apply Rm.tail)); exact Sel.nil) (fun ms w hk => hap1014 w) ?_; dsimp only [layF]; conv => whnf)
 | (((with_reducible apply OpK.more); (focus refine sok2); (conv => whnf); fail_if_success guard_target =ₛ False))
 | (refine hL4 (k + 1, s1) _ _ ⟨by show ((k + 1 : Nat) : Int) + s1.most ≤ o.most; omega, hre1⟩ (by show s1.most.toNat < s.most.toNat; omega) (by repeat' (first | exact Sub.nil | (refine Sub.cons rfl rfl ?_))) (by (try dsimp only [List.cons_append, List.nil_append, den, denL]); refine SelI.spec ?_; (repeat (first | refine SelI.blk (by repeat (first | with_reducible apply Rm.head | apply Rm.tail)) ?_ | refine SelI.ext (by repeat (first | with_reducible apply Rm.head | apply Rm.tail)) ?_ | (refine SelI.blk' (by repeat (first | with_reducible apply Rm.head | apply Rm.tail)) ?_ ?_; focus rfl) | (refine SelI.ext' (by repeat (first | with_reducible apply Rm.head | apply Rm.tail)) ?_ ?_; focus rfl))); exact SelI.nil))
 | (refine if_decF (by omega) ?_; conv => whnf)
 | with_reducible apply_assumption -symm -exfalso)
end Go.Proofs.YtjkmpaggfbghiaaGreatDoor

set_option linter.all false
namespace Go.Proofs.YtjkmpaggfbghiaaGreatDoor
open Go Go.X Go.ChangeShapes Go.WideShapes Go.RowKit
set_option maxRecDepth 1000000
set_option maxHeartbeats 0
noncomputable def plainLaid8 : List (String × DataW Unit) := Rows.orchEndsRow.laid.filter fun x => x.2.handleName?.isNone
noncomputable def witW8 (os : Os) : World :=
  { World.laidAll Tryz.prog os plainLaid8 with heap := (World.laidAll Tryz.prog os plainLaid8).heap.setIfInBounds 1 (.cells #[.nilFunc, .func (.func 366) #[] #[], .func (.func 367) #[] #[], .func (.func 368) #[] #[]] 282) }
theorem metAll8 (os : Os) (args : Array Value) : laidMetH Tryz.prog Rows.orchEndsRow.laid ((witW8 os).forCall (fun _ _ => 0) ⟨#[], args, []⟩).memory :=
  laidMetH_of_parts3 (fuel := 8) (laidMet_of_run' 8 (by kernel_rfl) (by kernel_rfl)) (by kernel_rfl) (by kernel_rfl)
theorem shaped8 (os : Os) : (witW8 os).Shaped Tryz.prog := World.shaped_of_ZipB (by kernel_rfl) (by kernel_rfl)
theorem contract8 (H : Type) (enc : TypeId × Value → H) (W : World) (base : Nat) (args : Array Value) (ds gs : List (DataW H)) (before : List MemPlace)
    (hval : ∀ (j : Nat) t v, Tryz.f8.params[j]? = some t → args[j]? = some v → Value.okWide Tryz.prog W .any base t v)
    (hW : DataW.Whole enc Tryz.prog Tryz.f8.params.toList Rows.orchEndsSpec.vars false W args.toList ds gs before) (hL : laidMetH Tryz.prog Rows.orchEndsRow.laid W) :
    Calls Tryz.prog 8 args W fun e W' => ∃ v, e = .returned v ∧ Rows.orchEndsSpec.post enc Tryz.prog Tryz.f8 false true false false W args v W' := by
  obtain ⟨o0, o1, hko, hh0, hh1⟩ := KObj.of_laid hL (by simp [Rows.orchEndsRow]) (by simp [Rows.orchEndsRow])
  have hW' := hW
  obtain ⟨p, q, hA0, hV, _, _, _⟩ := hW
  have hA : DataW.TrodAll enc Tryz.prog W 0 (fun _ => true) true Tryz.f8.params.toList args.toList ds p := hA0
  clear hA0
  rw [Tryz.params8] at hA hval
  obtain ⟨rfl, _⟩ := trodVars_none hV
  obtain ⟨v0, vs0, d0, ds0, p0, q0, e0, rfl, _, h0, r0⟩ := trodAll_cons hA
  obtain ⟨v1, vs1, d1, ds1, p1, q1, e1, rfl, _, h1, r1⟩ := trodAll_cons r0
  subst e1
  obtain ⟨e2, rfl, _⟩ := trodAll_nil r1
  subst e2
  obtain rfl : args = #[v0, v1] := by cases args; exact congrArg Array.mk e0
  obtain ⟨sa0, sl0, sc0, rfl, r0z, c0, m0, k0⟩ := moves_arg (hval 0 22 v0 rfl rfl) h0
  obtain ⟨n1, rfl, rfl, _, w1⟩ := open_int Tryz.underlying5 (hval 1 5 v1 rfl rfl) h1
  have b1 := wf_u8 w1
  obtain ⟨x1, rfl⟩ : ∃ x : Nat, n1 = (x : Int) := ⟨n1.toNat, by omega⟩
  refine (Pu.calls (pu_of_gl hh0 hh1 (orchEnds1008 hko r0z c0 m0 k0 (by omega)))).mono fun e W' ⟨he, hb⟩ => ?_
  subst he
  exact ⟨_, rfl, law_post laidOut Tryz.underlying4 (by kernel_rfl) rfl rfl hW' rfl hb⟩
theorem lifted8 (os : Os) (started : os.Started) (H : Type) (enc : TypeId × Value → H) :
    ReturnsInHanded {} Tryz.checked os 8 .any (fun w args => (Rows.orchEndsSpec.pre enc Tryz.prog Tryz.f8 Rows.orchEndsRow.domain false w args ∧ laidMetH Tryz.prog Rows.orchEndsRow.laid w) ∧ sizedMet enc Tryz.prog Tryz.f8 (OpenSpec.ofChange Rows.orchEndsSpec) false w args)
      (Rows.orchEndsSpec.post enc Tryz.prog Tryz.f8 false true false false) := by
  refine returnsInHanded_of_change_and (C := Tryz.checked) (X := fun w _ => laidMetH Tryz.prog Rows.orchEndsRow.laid w) (fun _ _ _ hh h => h.of_heap hh) own started (by kernel_rfl) Tryz.func8
    (ChangeSpec.witness_shaped (enc := enc) (C := Tryz.checked) (os := os) (X := fun w _ => laidMetH Tryz.prog Rows.orchEndsRow.laid w) false (witW8 os) #[.slice none 0 0, .int .u8 0] 8 (World.laidAll_os _ _ _)
      (shaped8 os) (by kernel_rfl) (by kernel_rfl) (by kernel_rfl)
      (metAll8 os _)) ?_
  intro W base args ds gs before hval0 hW _ _ hL _
  exact contract8 H enc W base args ds gs before hval0 hW hL
end Go.Proofs.YtjkmpaggfbghiaaGreatDoor

set_option linter.all false
namespace Go.Proofs.YtjkmpaggfbghiaaGreatDoor
open Go Go.X Go.ChangeShapes Go.WideShapes Go.RowKit
set_option maxRecDepth 1000000
set_option maxHeartbeats 0
theorem facts8 : joinedFacts Tryz.pinned.checked.prog 8 Tryz.f8 Rows.orchEndsSpec Rows.orchEndsRow = true := by
  unfold joinedFacts
  repeat' (with_reducible refine and_t ?_ ?_)
  all_goals (as_aux_lemma => kernel_rfl)
end Go.Proofs.YtjkmpaggfbghiaaGreatDoor

set_option linter.all false
namespace Go.Proofs.YtjkmpaggfbghiaaGreatDoor
open Go Go.X Go.ChangeShapes Go.WideShapes Go.RowKit
set_option maxRecDepth 1000000
set_option maxHeartbeats 0
theorem said8 : Rows.OrchEndsSaid :=
  OpenClaim.holds_of_wide 8 Tryz.f8 rfl rfl rfl rfl rfl rfl rfl ⟨rfl, rfl, rfl, rfl, rfl⟩ rfl rfl rfl rfl rfl (by as_aux_lemma => kernel_rfl) Tryz.func8 facts8
    (of_decide_eq_true (by kernel_rfl)) (by unfold Func.isWrapper; first | (rw [if_pos (by decide +kernel)]; kernel_rfl) | (rw [if_neg (by decide +kernel)]; exact ⟨rfl, rfl⟩))
    (fun os started H enc _ => lifted8 os started H enc)
end Go.Proofs.YtjkmpaggfbghiaaGreatDoor
