/- Contracts and lemmas for the claim (part 15); no condition of its own. -/
import Derived.Test.YtjkmpaggfbghiaaGreatDoorYQC600
import Derived.Test.YtjkmpaggfbghiaaGreatDoorYQC614
import Derived.Test.YtjkmpaggfbghiaaGreatDoorCards
import Derived.Test.YtjkmpaggfbghiaaGreatDoorTie
import Derived.ProofKit
import Derived.OpenShut
import Derived.Lay
import Derived.LaidMore
import Derived.LaidHandle
import Derived.Carry
import Derived.MakeChecks
import Derived.Deep.DeepHandedRow
import Derived.ChangeMaps5
import Derived.ChangeSlices
import Derived.Test.YtjkmpaggfbghiaaGreatDoorYQC606
import Derived.Test.YtjkmpaggfbghiaaGreatDoorYQC605
set_option linter.all false
set_option linter.unusedVariables false
set_option linter.unusedSimpArgs false
set_option linter.unnecessarySimpa false
set_option linter.all false
namespace Go.Proofs.YtjkmpaggfbghiaaGreatDoor
open Go Go.X Go.ChangeShapes Go.WideShapes Go.RowKit
set_option maxRecDepth 1000000
set_option maxHeartbeats 0
section
variable {H : Type} {enc : TypeId × Value → H} {P : Program}
theorem post_of_below {f : Func} {s : ChangeSpec} {apart fresh handsOn again : Bool} {W W' : World} {args : Array Value} {v : Value} {ds gs : List (DataW H)} {before pa pv : List MemPlace}
    (hW : DataW.Whole enc P f.params.toList s.vars apart W args.toList ds gs before)
    (hres : ∀ (b : Nat) (sp : Nat → Bool) (hd : Bool), DataW.TrodAll enc P W' b sp hd f.resultTypes.toList (v.resultList f.resultTypes.size) (s.fn H (ds ++ gs)).results [])
    (hargs : ∀ sp : Nat → Bool, (∀ p ∈ before, sp p.block = true) → DataW.TrodAll enc P W' 0 sp true f.params.toList args.toList (s.fn H (ds ++ gs)).args pa)
    (hvars : ∀ sp : Nat → Bool, (∀ p ∈ before, sp p.block = true) → DataW.TrodVars enc P W' sp s.vars (s.fn H (ds ++ gs)).vars pv)
    (hps : before = pa ++ pv) (hb : Below W.heap.size W W')
    (hok : ∀ (j : Nat) (t : TypeId) (r : Value), f.resultTypes[j]? = some t → (v.resultList f.resultTypes.size)[j]? = some r → Value.okWide P W' .any 0 t r) :
    s.post enc P f apart fresh handsOn again W args v W' := by
  have hlt : ∀ p ∈ before, p.block < W.heap.size := fun p hp => hW.lt p hp
  have hold : ∀ p ∈ before, (fun b => decide (b < W.heap.size)) p.block = true := fun p hp => by simpa using hlt p hp
  refine ⟨ds, gs, before, [], pa, pv, hW, hres _ _ _, hargs _ hold, hvars _ hold, World.keptBut_mono (fun p hp => ⟨hp, ?_⟩) (hb.frame (· ∈ before)), fun _ => ?_⟩
  · rw [hps, List.mem_append] at hp
    exact Or.inr hp
  · obtain ⟨_, _, _, _, _, hz, hn⟩ := hW
    refine ⟨hok, _, _, ([] ++ pa) ++ pv, ⟨[] ++ pa, pv, trodAll_append (hargs _ (fun _ _ => rfl)) (hres _ _ _), hvars _ (fun _ _ => rfl), rfl, ?_, ?_⟩, ?_⟩
    · intro b off hp
      have hin : MemPlace.cell b off ∈ before := by rw [hps]; simpa using hp
      rw [hb.frozen (hlt _ hin)]
      exact hz b off hin
    · intro ha
      have := hn ha
      rw [hps] at this
      simpa using this
    · intro p hp _
      rw [hps]
      simpa using hp
end
theorem and_t {a b : Bool} (h : a = true) (h' : b = true) : (a && b) = true := by rw [h, h']; rfl
theorem own : ownKnob Tryz.prog.godebug = none := by kernel_rfl
theorem laidOut : laidOutB Tryz.prog = true := by kernel_rfl
section
variable {H : Type} {enc : TypeId × Value → H} {P : Program} {W W' : World} {sp : Nat → Bool}
theorem trodAll_below (hl : laidOutB P = true) (hb : Below W.heap.size W W') : ∀ {ts : List TypeId} {vs : List Value} {ds : List (DataW H)} {ps : List MemPlace}, (ts.all fun t => P.readableRec t && decide (t < P.types.size)) = true →
    DataW.TrodAll enc P W 0 (fun _ => true) true ts vs ds ps → (∀ x ∈ ps, x.block < W.heap.size) → (∀ x ∈ ps, sp x.block = true) → DataW.TrodAll enc P W' 0 sp true ts vs ds ps := by
  intro ts
  induction ts with
  | nil =>
    intro vs ds ps _ h _ _
    obtain ⟨rfl, rfl, rfl⟩ := trodAll_nil h
    rfl
  | cons t ts ih =>
    intro vs ds ps hr h hlt hsp
    obtain ⟨v, vs', d, ds', p, q, rfl, rfl, rfl, h1, h2⟩ := trodAll_cons h
    rw [List.all_cons, Bool.and_eq_true, Bool.and_eq_true] at hr
    exact trodAll_cons_mk (WideElems.Trod_stays hl hr.1.1 (of_decide_eq_true hr.1.2) h1 (fun x hx => hb.same (hlt x (List.mem_append_left _ hx))) (fun x hx => hsp x (List.mem_append_left _ hx)))
      (ih hr.2 h2 (fun x hx => hlt x (List.mem_append_right _ hx)) (fun x hx => hsp x (List.mem_append_right _ hx)))
/-- A LAW's END: it answered true, and nothing that stood ahead of it has turned. -/
theorem law_post {f : Func} {s : ChangeSpec} {t4 : TypeId} {args : Array Value} {ds gs : List (DataW H)} {before : List MemPlace} (hl : laidOutB P = true) (h4 : P.underlying t4 = some .bool)
    (hr : (f.params.toList.all fun t => P.readableRec t && decide (t < P.types.size)) = true) (hres : f.resultTypes = #[t4]) (hv : s.vars = [])
    (hW : DataW.Whole enc P f.params.toList s.vars false W args.toList ds gs before) (hfn : s.fn H (ds ++ gs) = { results := [.lit (.bool true)], args := ds }) (hb : Below W.heap.size W W') :
    s.post enc P f false true false false W args (.bool true) W' := by
  have hlt : ∀ p ∈ before, p.block < W.heap.size := fun p hp => hW.lt p hp
  have hW2 := hW
  obtain ⟨p, q, hA, hV, hbef, _⟩ := hW2
  rw [hv] at hV
  obtain ⟨_, rfl⟩ := trodVars_none hV
  have hfa : (s.fn H (ds ++ gs)).args = ds := by rw [hfn]
  have hfr : (s.fn H (ds ++ gs)).results = [.lit (.bool true)] := by rw [hfn]
  have hfv : (s.fn H (ds ++ gs)).vars = [] := by rw [hfn]
  refine post_of_below (pa := p) (pv := []) hW (fun b sp hd => ?_) (fun sp hsp => ?_) (fun sp _ => ?_) hbef hb (ok_one hres rfl (okWide_bool_mk h4 _))
  · rw [hfr, hres]; exact trodAll_mk1 (shut_bool h4 _)
  · rw [hfa]
    exact trodAll_below hl hb hr hA (fun x hx => hlt x (by rw [hbef]; exact List.mem_append_left _ hx)) (fun x hx => hsp x (by rw [hbef]; exact List.mem_append_left _ hx))
  · rw [hfv, hv]; rfl
end
theorem laidMetH.plain {P : Program} {l : List (String × DataW Unit)} {w : World} (h : laidMetH P l w) : laidMet P (l.filter fun x => x.2.handleName?.isNone) w := by
  unfold laidMetH at h
  generalize hfl : (l.filter fun x => x.2.handleName?.isSome) = fl at h
  cases fl with
  | nil =>
    have e : (l.filter fun x => x.2.handleName?.isNone) = l := by
      rw [List.filter_eq_self]
      intro x hx
      have := (List.filter_eq_nil_iff.1 hfl) x hx
      cases hn : x.2.handleName? with
      | none => rfl
      | some s => rw [hn] at this; exact absurd rfl this
    rw [e]
    exact h
  | cons q qs => exact h.1
theorem KObj.of_laid {l : List (String × DataW Unit)} {W : World} (h : laidMetH Tryz.prog l W) (hm1 : ("skald/saga.phases", Rows.laid_skald_saga_phases) ∈ l) (hm2 : ("skald/saga.follow", Rows.laid_skald_saga_follow) ∈ l) :
    ∃ o0 o1, KObj o0 o1 ∧ W.heap[0]? = some o0 ∧ W.heap[1]? = some o1 := by
  obtain ⟨t1, h1⟩ := laid_ints (laidMetH.plain h) (n := "skald/saga.phases") (k := .i64) (zs := [0, 1, 3, 2]) (List.mem_filter.2 ⟨hm1, by kernel_rfl⟩) (g := 0) (by kernel_rfl) (t := 135) (e := 3) (by kernel_rfl) Tryz.underlying135 Tryz.underlying3 (by kernel_rfl) (by kernel_rfl) (by decide)
  obtain ⟨t0, f0, h0⟩ := laid_fns h (n := "skald/saga.follow") (ds := [.nil, .iface "func" (.lit (.string [40, 115, 107, 97, 108, 100, 47, 115, 97, 103, 97, 46, 83, 97, 103, 97, 41, 46, 102, 111, 114, 119, 97, 114, 100])), .iface "func" (.lit (.string [40, 115, 107, 97, 108, 100, 47, 115, 97, 103, 97, 46, 83, 97, 103, 97, 41, 46, 102, 114, 101, 101])), .iface "func" (.lit (.string [40, 115, 107, 97, 108, 100, 47, 115, 97, 103, 97, 46, 83, 97, 103, 97, 41, 46, 117, 110, 100, 111]))]) hm2 (g := 1) (by kernel_rfl) (t := 282) (e := 281) (by kernel_rfl) Tryz.underlying282 Tryz.underlying281 (by kernel_rfl) (by kernel_rfl)
    (.z (.f "(skald/saga.Saga).forward" (by kernel_rfl) (by kernel_rfl) (.f "(skald/saga.Saga).free" (by kernel_rfl) (by kernel_rfl) (.f "(skald/saga.Saga).undo" (by kernel_rfl) (by kernel_rfl) .nil))))
  exact ⟨_, _, ⟨⟨t1, (0, 0), rfl⟩, ⟨t0, f0, rfl⟩⟩, h1, h0⟩
/-- a law's walk, as a call that changes nothing that was there -/
theorem pu_of_gl {P : Program} {f : FuncId} {args : Array Value} {w : World} {o0 o1 : Obj} (h0 : w.heap[0]? = some o0) (h1 : w.heap[1]? = some o1)
    (h : FrZ P f args w (AssL [.ext 9 (GlX o0 o1)]) (fun _ : Unit => .bool true) (fun _ => AssL [.ext 9 (GlA o0 o1)])) : Pu P f args w (.bool true) := by
  have l0 : 0 < w.heap.size := (Array.getElem?_eq_some_iff.1 h0).1
  have l1 : 1 < w.heap.size := (Array.getElem?_eq_some_iff.1 h1).1
  refine (h (fun k => (k = 0 ∨ k = 1) ∨ False) (.cons (x := .ext 9 (GlX o0 o1)) (S := fun k => k = 0 ∨ k = 1) ⟨fun _ hk => hk, ⟨.inl rfl, .inr rfl⟩, h0, h1⟩ (by rintro k (rfl | rfl) <;> assumption) .nil (fun _ _ hk => hk)) (by
    rintro k ((rfl | rfl) | hk)
    · exact l0
    · exact l1
    · exact hk.elim)).mono ?_
  rintro e w' ⟨_, rfl, he, S', hA, _⟩
  have hA : Holds w' [.ext 9 (GlA o0 o1)] S' := hA
  cases hA with
  | @cons _ _ S1 T1 hx hb hH hd =>
    obtain ⟨_, g0, g1⟩ := hx
    refine ⟨rfl, he.os, he.tape, he.output, he.size, fun k hk => ?_⟩
    by_cases e0 : k = 0
    · subst e0; rw [g0, h0]
    · by_cases e1 : k = 1
      · subst e1; rw [g1, h1]
      · exact he.old k hk (fun e => e.elim (fun e => e.elim e0 e1) id)
theorem wf_u16 {n : Int} (h : (Lit.int .u16 n).wf = true) : 0 ≤ n ∧ n ≤ 65535 := by
  simp [Lit.wf, IntKind.min, IntKind.max, IntKind.signed, IntKind.bits] at h; omega
theorem wf_u8 {n : Int} (h : (Lit.int .u8 n).wf = true) : 0 ≤ n ∧ n ≤ 255 := by
  simp [Lit.wf, IntKind.min, IntKind.max, IntKind.signed, IntKind.bits] at h; omega
section
variable {H : Type} {enc : TypeId × Value → H} {w : World} {base : Nat} {sp : Nat → Bool} {held : Bool}
theorem move_cells {fuel : Nat} {cs : List Value} {x : DataW H × List MemPlace} (h : DataW.trod enc Tryz.prog w base sp held fuel 46 cs = some x) : ∃ a b : Nat, cs = [.int .u8 (a : Nat), .int .u16 (b : Nat)] ∧ a ≤ 255 ∧ b ≤ 65535 := by
  obtain ⟨xs, n, _, _, hl, hxl, hall⟩ := DataW.trod_struct Tryz.underlying46 h
  have hC : Tryz.prog.cellsOf 46 = 2 := by kernel_rfl
  have hC5 : Tryz.prog.cellsOf 5 = 1 := by kernel_rfl
  have hC44 : Tryz.prog.cellsOf 44 = 1 := by kernel_rfl
  rw [hC] at hl
  match cs, hl with
  | [c0, c1], _ =>
  match xs, hxl with
  | [y0, y1], _ =>
  have q0 := hall 0 _ rfl
  have e0 : DataW.trod enc Tryz.prog w base sp held n 5 (([c0, c1].drop 0).take (Tryz.prog.cellsOf 5)) = some y0 := q0
  rw [hC5] at e0
  have q1 := hall 1 _ rfl
  have e1 : DataW.trod enc Tryz.prog w base sp held n 44 (([c0, c1].drop 1).take (Tryz.prog.cellsOf 44)) = some y1 := q1
  rw [hC44] at e1
  obtain ⟨z0, f0, _, g0⟩ := DataW.trod_int Tryz.underlying5 e0
  obtain ⟨z1, f1, _, g1⟩ := DataW.trod_int Tryz.underlying44 e1
  simp only [List.drop_zero, List.take_succ_cons, List.take_zero, List.drop_succ_cons, List.cons.injEq, and_true] at f0 f1
  have b0 := wf_u8 g0
  have b1 := wf_u16 g1
  refine ⟨z0.toNat, z1.toNat, ?_, by omega, by omega⟩
  rw [f0, f1, Int.toNat_of_nonneg b0.1, Int.toNat_of_nonneg b1.1]
end
theorem maxLen_le {n : Nat} (h : n ≤ maxLen) : n ≤ 9223372036854775807 := h
/-- a caller's list of moves, as it is read -/
theorem moves_arg {H : Type} {enc : TypeId × Value → H} {W : World} {v : Value} {d : DataW H} {ps : List MemPlace} {base : Nat} (hval : Value.okWide Tryz.prog W .any base 22 v) (h : DataW.Trod enc Tryz.prog W 0 (fun _ => true) true 22 v d ps) :
    ∃ (a : Option Addr) (l : List (Nat × Nat)) (cap : Nat), v = .slice a l.length cap ∧ RdB W a (lmC l) ∧ l.length ≤ cap ∧ l.length ≤ 9223372036854775807 ∧ ∀ m ∈ l, m.1 ≤ 255 ∧ m.2 ≤ 65535 := by
  obtain ⟨a, len, cap, rfl⟩ := okWide_slice Tryz.underlying22 hval
  obtain ⟨fuel, hf⟩ := h
  rcases DataW.trod_slice Tryz.underlying22 hf with ⟨h1, _⟩ | ⟨a', len', cap', elems, rest, n, _, h1, _, _, hl, hm, hlen, hel, _, _⟩
  · simp [Value.cells] at h1
    obtain ⟨rfl, rfl, rfl⟩ := h1
    exact ⟨none, [], 0, rfl, fun i v hi => by simp at hi, Nat.le_refl _, Nat.zero_le _, fun m hm => by cases hm⟩
  · simp [Value.cells] at h1
    obtain ⟨rfl, rfl, rfl⟩ := h1
    have hC : Tryz.prog.cellsOf 46 = 2 := by kernel_rfl
    rw [hC] at hel
    have each : ∀ i, i < len → ∃ m : Nat × Nat, (W.cell? (a'.add (i * 2)) = some (.int .u8 (m.1 : Nat)) ∧ W.cell? ((a'.add (i * 2)).add 1) = some (.int .u16 (m.2 : Nat))) ∧ m.1 ≤ 255 ∧ m.2 ≤ 65535 := by
      intro i hi
      have h2 := hel i hi
      rw [List.getElem?_eq_getElem (by omega), Option.bind_eq_some_iff] at h2
      obtain ⟨cs, h3, h4⟩ := h2
      obtain ⟨x, y, rfl, hx, hy⟩ := move_cells h4
      have h5 := (World.cells?_some h3).2.2
      refine ⟨(x, y), ⟨?_, ?_⟩, hx, hy⟩
      · have := h5 0 (by omega)
        simpa [Addr.add] using this
      · have := h5 1 (by omega)
        simpa using this
    have hz : a'.spot = none ∨ len = 0 := by
      rcases Nat.eq_zero_or_pos len with h0 | h0
      · exact .inr h0
      · left
        obtain ⟨m, ⟨h2, _⟩, _⟩ := each 0 h0
        obtain ⟨b, off, spot⟩ := a'
        simp only [Addr.add, Nat.zero_mul, if_pos, World.cell?] at h2
        split at h2
        · cases spot with
          | none => rfl
          | some s => simp at h2
        · cases h2
    obtain ⟨l, hl2, hlr⟩ : ∃ l : List (Nat × Nat), l.length = len ∧ ∀ i m, l[i]? = some m → (W.cell? (a'.add (i * 2)) = some (.int .u8 (m.1 : Nat)) ∧ W.cell? ((a'.add (i * 2)).add 1) = some (.int .u16 (m.2 : Nat))) ∧ m.1 ≤ 255 ∧ m.2 ≤ 65535 := by
      refine ⟨(List.range len).map fun i => if hi : i < len then Classical.choose (each i hi) else (0, 0), by simp, fun i m hm => ?_⟩
      have hi : i < len := by
        have := (List.getElem?_eq_some_iff.1 hm).1
        simpa using this
      rw [List.getElem?_map, List.getElem?_range hi] at hm
      simp only [Option.map_some, dif_pos hi, Option.some.injEq] at hm
      subst hm
      exact Classical.choose_spec (each i hi)
    subst hl2
    refine ⟨some a', l, cap, rfl, ?_, hl, by have := maxLen_le hm; omega, fun m hm => ?_⟩
    · intro i v hi
      have hlen2 : (lmC l).length = l.length * 2 := flat_len (k := 2) (fun _ => rfl) l
      have hil := (List.getElem?_eq_some_iff.1 hi).1
      rw [hlen2] at hil
      have hq : i / 2 < l.length := by omega
      have hg := flat_get (enc := fun m : Nat × Nat => [Value.int .u8 ((m.1 : Nat) : Int), Value.int .u16 ((m.2 : Nat) : Int)]) (k := 2) (fun _ => rfl) (by decide) l i
      rw [show (lmC l)[i]? = _ from hg, List.getElem?_eq_getElem hq, Option.bind_some] at hi
      obtain ⟨⟨r1, r2⟩, _⟩ := hlr (i / 2) _ (List.getElem?_eq_getElem hq)
      have hsp : a'.spot = none := hz.resolve_right (by omega)
      obtain ⟨b, off, spot⟩ := a'
      dsimp only at hsp
      subst hsp
      have add_of : ∀ n, (⟨b, off, none⟩ : Addr).add n = ⟨b, off + n, none⟩ := by
        intro n
        unfold Addr.add
        split
        · rename_i e; subst e; rfl
        · rfl
      rw [add_of] at r1 r2
      rw [show ((⟨b, off + i / 2 * 2, none⟩ : Addr).add 1) = ⟨b, off + i / 2 * 2 + 1, none⟩ from rfl] at r2
      have hmod : i % 2 = 0 ∨ i % 2 = 1 := by omega
      rcases hmod with hmod | hmod
      · rw [hmod] at hi
        have hv : Value.int .u8 ((l[i / 2].1 : Nat) : Int) = v := by simpa using hi
        rw [hv, show i / 2 * 2 = i by omega] at r1
        simp only [World.cell?] at r1
        split at r1
        · rename_i C t f hh
          exact ⟨b, off, C, t, f, rfl, hh, by simpa using r1⟩
        · cases r1
      · rw [hmod] at hi
        have hv : Value.int .u16 ((l[i / 2].2 : Nat) : Int) = v := by simpa using hi
        rw [hv, show off + i / 2 * 2 + 1 = off + i by omega] at r2
        simp only [World.cell?] at r2
        split at r2
        · rename_i C t f hh
          exact ⟨b, off, C, t, f, rfl, hh, by simpa using r2⟩
        · cases r2
    · obtain ⟨i, hi⟩ := List.mem_iff_getElem?.1 hm
      exact (hlr i m hi).2
end Go.Proofs.YtjkmpaggfbghiaaGreatDoor

set_option linter.all false
namespace Go.Proofs.YtjkmpaggfbghiaaGreatDoor
open Go Go.X
set_option maxRecDepth 100000
set_option maxHeartbeats 0
/-- cells of a numbered saga -/
abbrev nmC (A : Pl) (x : Int × OM.Sg) : List Value := .int .i64 x.1 :: denL (sgc x.2 (A x.1).1 (A x.1).2)
theorem asc_ne {L : SL} (hs : AscS L) {i : Nat} {x : Int × OM.Sg} (hx : L[i]? = some x) : ∀ y ∈ L.take i, y.1 ≠ x.1 := by
  intro y hy
  obtain ⟨j, hj⟩ := List.mem_iff_getElem?.1 hy
  rw [List.getElem?_take] at hj
  split at hj
  · rename_i hji
    obtain ⟨h1, h2⟩ := List.getElem?_eq_some_iff.1 hj
    obtain ⟨h3, h4⟩ := List.getElem?_eq_some_iff.1 hx
    have := List.pairwise_iff_getElem.1 hs j i h1 h3 hji
    rw [h2, h4] at this
    omega
  · cases hj
theorem nm_snoc {L : SL} (hs : AscS L) {A : Pl} {z : Option Addr × Nat} {i : Nat} {x : Int × OM.Sg} (hx : L[i]? = some x) :
    (L.take i).flatMap (nmC A) ++ (.int .i64 x.1 :: denL (sgc x.2 z.1 z.2)) = (L.take (i + 1)).flatMap (nmC (setA A x.1 z)) := by
  have h1 : (L.take i).flatMap (nmC (setA A x.1 z)) = (L.take i).flatMap (nmC A) := fl_congr fun y hy => by
    unfold nmC setA
    rw [if_neg (asc_ne hs hx y hy)]
  rw [← flat_snoc (g := nmC (setA A x.1 z)) hx, h1]
  congr 1
  unfold nmC setA
  rw [if_pos rfl]
theorem StA_snoc {L : SL} (hs : AscS L) {A : Pl} {z : Option Addr × Nat} {i : Nat} {x : Int × OM.Sg} (hx : L[i]? = some x) {p q r : Nat} :
    HSub [.ext p (StA (L.take (i + 1)) (setA A x.1 z))] [.ext q (StA (L.take i) A), .ext r (stA x.2 z)] := by
  refine HSub.trans HSub.join (HSub.trans ?_ (HSub.app2 (A := [.ext q (StA (L.take i) A)]) HSub.unjoin (HSub.ext (i := 0) (fun _ _ h => h) HSub.nil)))
  have e0 : stB (setA A x.1 z) x = .ext 0 (stA x.2 z) := by unfold stB setA; rw [if_pos rfl]
  have : (L.take (i + 1)).map (stB (setA A x.1 z)) = (L.take i).map (stB A) ++ [.ext 0 (stA x.2 z)] := by
    rw [← take_snoc hx, List.map_append, stB_set (asc_ne hs hx), List.map_cons, List.map_nil, e0]
  rw [this]
  exact HSub.refl _
theorem _root_.Go.X.HSub.addStL {i : Nat} {A : Pl} {L' L : List Blk} (h : HSub L' L) : HSub (L' ++ [.ext i (StA [] A)]) L :=
  HSub.trans (HSub.perm List.perm_append_comm) (fun w S hS =>
    let ⟨S', h1, h2⟩ := h w S hS
    ⟨fun k => False ∨ S' k, .cons (x := .ext i (StA [] A)) (S := fun _ => False) (Holds.nil (w := w)) (fun _ h => h.elim) h1 (fun _ h => h.elim), fun k hk => hk.elim False.elim (h2 k)⟩)
theorem mlen1064 {t : Nat} {l : List OM.Mv} (hl : l.length ≤ 64) (w : World) :
    Fr Tryz.prog 64 #[pv t] w (AssL [.ext 0 (MvsA t l)]) (.int .i64 (l.length : Nat)) (AssL [.ext 0 (MvsA t l)]) := by
  refine enter_fr TBok (H := [.ext 0 (MvsA t l)]) all_foot Tryz.func64 rfl rfl Tryz.ntmps64 [.loc t 0 0] rfl rfl ?_
  intro S
  conv => whnf
  refine Run.ex (A := mvsH t l) (i := 0) (by repeat (first | with_reducible apply Rm.head | apply Rm.tail)) ?_
  rintro ⟨a, cap⟩
  dsimp only [mvsH, layF]
  repeat' (first
 | with_reducible ((first | refine r_seq (fun KS hS => ?_) | (refine hS _ _ ?_; clear hS KS) | (refine hB _ ?_; clear hB KB)))
 | ((with_reducible (first | refine r_region ?_ | refine r_cond (fun KA hA KB hB => ?_) | refine r_ret ?_ | refine r_skip ?_ | refine And.intro rfl ?_)); conv => whnf)
 | (apply in1125; rfl; rfl; rfl; intro A; conv => whnf)
 | ((with_reducible apply OpK.more); (focus refine sok); (conv => whnf); fail_if_success guard_target =ₛ False)
 | with_reducible apply_assumption -symm -exfalso)
  all_goals exact FinK.frL rfl (HSub.trans (mvs_id (i := 0) (j := 1) (a := a) (cap := cap) rfl) (by (try dsimp only [List.cons_append, List.nil_append, den, denL]); refine SelI.spec ?_; (repeat (first | refine SelI.blk (by repeat (first | with_reducible apply Rm.head | apply Rm.tail)) ?_ | refine SelI.ext (by repeat (first | with_reducible apply Rm.head | apply Rm.tail)) ?_ | (refine SelI.blk' (by repeat (first | with_reducible apply Rm.head | apply Rm.tail)) ?_ ?_; focus rfl) | (refine SelI.ext' (by repeat (first | with_reducible apply Rm.head | apply Rm.tail)) ?_ ?_; focus rfl))); exact SelI.nil))
structure StZ where
  sa : Option Addr × Nat
  A : Pl
  ma : Option Addr × Nat
  ra : Option Addr × Nat
  wa : Option Addr × Nat
  ea : Option Addr × Nat
abbrev stateV (o : OM.St) (z : StZ) : List SV := [.v (.int .i64 o.groups), .v (.int .i64 o.done), .v (.slice z.sa.1 o.sagas.length z.sa.2), .v (.slice z.ma.1 o.moves.length z.ma.2), .v (.slice z.ra.1 o.parts.length z.ra.2), .v (.slice z.wa.1 o.parts.length z.wa.2), .v (.slice z.ea.1 o.parts.length z.ea.2)]
abbrev stateH (o : OM.St) (z : StZ) : List Blk := [.ext 20 (SlA 76 11 z.sa.1 o.sagas.length z.sa.2 (o.sagas.flatMap (nmC z.A))), .ext 21 (StA o.sagas z.A), .ext 22 (SlA 83 6 z.ma.1 o.moves.length z.ma.2 (o.moves.flatMap mvC)), .ext 23 (SlA 37 2 z.ra.1 o.parts.length z.ra.2 (o.parts.flatMap rgC)), .ext 24 (SlA 3 1 z.wa.1 o.parts.length z.wa.2 (o.parts.flatMap gpC)), .ext 25 (SlA 3 1 z.ea.1 o.parts.length z.ea.2 (o.parts.flatMap ecC))]
theorem state1024 {d : Nat} {o : OM.St} (hI : OM.Inv o) (w : World) :
    FrZ Tryz.prog 24 #[pv d] w (AssL [.ext 12 (OrchA d o)]) (fun z : StZ => .agg (denL (stateV o z)).toArray) (fun z => AssL (.ext 12 (OrchA d o) :: stateH o z)) := by
  have hL := LOk.ofInv hI
  have hml := hI.mlen
  have hll := hI.slen
  have hp0 : 0 < o.parts.length := List.length_pos_iff.2 hI.cov.2
  have hpl : o.parts.length ≤ 64 := by have := hI.room; omega
  refine enter_frZ TBok (H := [.ext 12 (OrchA d o)]) all_foot Tryz.func24 rfl rfl Tryz.ntmps24 [.loc d 0 0] rfl rfl ?_
  intro S hz8 hz9
  clear hz8 hz9
  conv => whnf
  repeat' (first
 | with_reducible refine r_stop 3 ?_
 | with_reducible ((first | refine r_seq (fun KS hS => ?_) | (refine hS _ _ ?_; clear hS KS) | (refine hB _ ?_; clear hB KB)))
 | ((with_reducible (first | refine r_region ?_ | refine r_cond (fun KA hA KB hB => ?_) | refine r_skip ?_ | intro b)); conv => whnf)
 | ((with_reducible refine CallK.id ?_); refine CallK.s1V (by repeat (first | with_reducible apply Rm.head | apply Rm.tail)) (fun ms w hk => made1041 (by have := hI.gr; omega) w) ?_; conv => whnf)
 | with_reducible apply_assumption -symm -exfalso)
  refine StopR.mk ?_
  obtain ⟨b2, hb2⟩ : ∃ x, x = b := ⟨b, rfl⟩
  subst hb2
  refine Run.ex (A := orH d o) (i := 12) (by repeat (first | with_reducible apply Rm.head | apply Rm.tail)) ?_
  rintro ⟨t1, t2, t3⟩
  dsimp only [orH, layF]
  refine r_seq (fun KS2 hS2 => ?_)
  refine r_par (β := Option Addr × Nat) (id := 3) [⟨0, [], none, fun _ _ => .loc d 0 0, fun _ _ => []⟩, ⟨1, [0], none, fun _ _ => .loc d 0 0, fun _ _ => []⟩, ⟨2, [1], none, fun _ _ => .loc d 0 0, fun _ _ => []⟩, ⟨3, [2], none, fun _ _ => .v (.int .i64 o.groups), fun _ _ => []⟩, ⟨4, [], none, fun _ _ => .loc d 0 0, fun _ _ => []⟩, ⟨5, [4], none, fun _ _ => .loc d 0 0, fun _ _ => []⟩, ⟨6, [5], none, fun _ _ => .loc d 0 1, fun _ _ => []⟩, ⟨7, [6], none, fun _ _ => .v (.int .i64 o.done), fun _ _ => []⟩, ⟨8, [], none, fun _ _ => .loc d 0 0, fun _ _ => []⟩, ⟨9, [8], none, fun _ _ => .loc d 0 0, fun _ _ => []⟩, ⟨10, [9], none, fun _ _ => .loc d 0 4, fun _ _ => []⟩, ⟨11, [10], none, fun _ _ => .loc t3 22 0, fun _ _ => []⟩, ⟨12, [11], some 100, fun _ q2 => .v (.slice q2.1 o.parts.length q2.2), fun _ q2 => [.ext 3 (PtsA t3 o.parts), .ext 23 (SlA 37 2 q2.1 o.parts.length q2.2 (o.parts.flatMap rgC))]⟩, ⟨13, [], none, fun _ _ => .loc d 0 0, fun _ _ => []⟩, ⟨14, [13], none, fun _ _ => .loc d 0 0, fun _ _ => []⟩, ⟨15, [14], none, fun _ _ => .loc d 0 4, fun _ _ => []⟩, ⟨16, [15], none, fun _ _ => .loc t3 22 0, fun _ _ => []⟩, ⟨17, [16, 12], some 12, fun _ q2 => .v (.slice q2.1 o.parts.length q2.2), fun l q2 => match l with | [_, z12] => [.ext 3 (PtsA t3 o.parts), .ext 23 (SlA 37 2 z12.1 o.parts.length z12.2 (o.parts.flatMap rgC)), .ext 24 (SlA 3 1 q2.1 o.parts.length q2.2 (o.parts.flatMap gpC))] | _ => []⟩, ⟨18, [], none, fun _ _ => .loc d 0 0, fun _ _ => []⟩, ⟨19, [18], none, fun _ _ => .loc d 0 0, fun _ _ => []⟩, ⟨20, [19], none, fun _ _ => .loc d 0 4, fun _ _ => []⟩, ⟨21, [20], none, fun _ _ => .loc t3 22 0, fun _ _ => []⟩, ⟨22, [21, 17, 12], some 17, fun _ q2 => .v (.slice q2.1 o.parts.length q2.2), fun l q2 => match l with | [_, z17, z12] => [.ext 3 (PtsA t3 o.parts), .ext 23 (SlA 37 2 z12.1 o.parts.length z12.2 (o.parts.flatMap rgC)), .ext 24 (SlA 3 1 z17.1 o.parts.length z17.2 (o.parts.flatMap gpC)), .ext 25 (SlA 3 1 q2.1 o.parts.length q2.2 (o.parts.flatMap ecC))] | _ => []⟩, ⟨23, [3, 7, 12, 17, 22], none, fun l _ => match l with | [_, _, z12, z17, z22] => .agg [.v (.int .i64 o.groups), .v (.int .i64 o.done), .v (.slice none 0 0), .v (.slice none 0 0), .v (.slice z12.1 o.parts.length z12.2), .v (.slice z17.1 o.parts.length z17.2), .v (.slice z22.1 o.parts.length z22.2)] | _ => .v undef, fun _ _ => []⟩, ⟨24, [], none, fun _ q2 => .loc q2.2 90 0, fun _ q2 => [.blk 90 q2.2 [.v (.int .i64 0), .v (.int .i64 0), .v (.slice none 0 0), .v (.slice none 0 0), .v (.slice none 0 0), .v (.slice none 0 0), .v (.slice none 0 0)] 72]⟩] [⟨100, [], none, fun _ _ => .v undef, fun _ _ => [.ext 3 (PtsA t3 o.parts)]⟩] 1 [.blk 13 b2 [.v (.int .i64 0), .v (.int .i64 0), .v (.slice none 0 0), .v (.slice none 0 0), .v (.slice none 0 0), .v (.slice none 0 0), .v (.slice none 0 0)] 72, .blk 0 d [.v (.int .i64 o.groups), .v (.int .i64 o.done), .loc t1 20 0, .loc t2 21 0, .loc t3 22 0] 121, .ext 1 (TabA t1 o.sagas), .ext 2 (MvsA t2 o.moves)] mixed (by kernel_rfl) (by kernel_rfl) (by show HSub [.ext 3 (PtsA t3 o.parts), .blk 13 b2 [.v (.int .i64 0), .v (.int .i64 0), .v (.slice none 0 0), .v (.slice none 0 0), .v (.slice none 0 0), .v (.slice none 0 0), .v (.slice none 0 0)] 72, .blk 0 d [.v (.int .i64 o.groups), .v (.int .i64 o.done), .loc t1 20 0, .loc t2 21 0, .loc t3 22 0] 121, .ext 1 (TabA t1 o.sagas), .ext 2 (MvsA t2 o.moves)] _; exact (by (try dsimp only [List.cons_append, List.nil_append, den, denL]); refine SelI.spec ?_; (repeat (first | refine SelI.blk (by repeat (first | with_reducible apply Rm.head | apply Rm.tail)) ?_ | refine SelI.ext (by repeat (first | with_reducible apply Rm.head | apply Rm.tail)) ?_ | (refine SelI.blk' (by repeat (first | with_reducible apply Rm.head | apply Rm.tail)) ?_ ?_; focus rfl) | (refine SelI.ext' (by repeat (first | with_reducible apply Rm.head | apply Rm.tail)) ?_ ?_; focus rfl))); exact SelI.nil)) ?_ ?_
  · conv => whnf
    repeat' (first | ((with_reducible refine And.intro ?_ ?_); all_goals (conv => whnf)) | ((with_reducible intro zz2 AA KP hP); conv => whnf))
    repeat' (first
 | ((with_reducible intro b); conv => whnf)
 | ((with_reducible refine CallK.id ?_); (first | refine CallK.s1 (by repeat (first | with_reducible apply Rm.head | apply Rm.tail)) (fun ms w hk => ranges1060 hp0 (by omega) w) ?_ | refine CallK.s1 (by repeat (first | with_reducible apply Rm.head | apply Rm.tail)) (fun ms w hk => groups1061 hp0 (by omega) w) ?_ | refine CallK.s1 (by repeat (first | with_reducible apply Rm.head | apply Rm.tail)) (fun ms w hk => epochs1062 hp0 (by omega) w) ?_); conv => whnf)
 | ((with_reducible refine hP (none, b) _ _ ?_ ?_); all_goals (first | exact default | ((repeat' (first | exact SubD.nil | (refine SubD.cons rfl rfl ?_))); done) | ((try dsimp only [mapZ, List.cons_append, List.nil_append, den, denL]); refine SelI.spec ?_; repeat (first | apply SelI.nil | refine SelI.blk (by repeat (first | with_reducible apply Rm.head | apply Rm.tail)) ?_ | refine SelI.ext (by repeat (first | with_reducible apply Rm.head | apply Rm.tail)) ?_ | (refine SelI.blk' (by repeat (first | with_reducible apply Rm.head | apply Rm.tail)) ?_ ?_; focus rfl) | (refine SelI.ext' (by repeat (first | with_reducible apply Rm.head | apply Rm.tail)) ?_ ?_; focus rfl)))))
 | ((with_reducible apply hP); all_goals (first | exact default | ((repeat' (first | exact SubD.nil | (refine SubD.cons rfl rfl ?_))); done) | ((try dsimp only [mapZ, List.cons_append, List.nil_append, den, denL]); refine SelI.spec ?_; repeat (first | apply SelI.nil | refine SelI.blk (by repeat (first | with_reducible apply Rm.head | apply Rm.tail)) ?_ | refine SelI.ext (by repeat (first | with_reducible apply Rm.head | apply Rm.tail)) ?_ | (refine SelI.blk' (by repeat (first | with_reducible apply Rm.head | apply Rm.tail)) ?_ ?_; focus rfl) | (refine SelI.ext' (by repeat (first | with_reducible apply Rm.head | apply Rm.tail)) ?_ ?_; focus rfl))))))
  conv => whnf
  intro zz
  conv => whnf
  try dsimp only
  repeat' (first
 | with_reducible ((first | refine r_seq (fun KS hS => ?_) | (refine hS _ _ ?_; clear hS KS) | refine r_block ?_))
 | ((with_reducible (first | refine r_region ?_ | refine And.intro rfl ?_ | intro b)); conv => whnf)
 | ((with_reducible refine CallK.id ?_); refine CallK.s1 (by repeat (first | with_reducible apply Rm.head | apply Rm.tail)) (fun ms w hk => ids1063 hL.srt hL.len w) ?_; conv => whnf)
 | ((with_reducible ((first | refine AnyAt.mk (fun K' hK => ?_) | (refine hK _ _ ?_; clear hK K')))); conv => whnf)
 | with_reducible apply_assumption -symm -exfalso)
  rcases b with ⟨ia, icap⟩
  dsimp only
  generalize zz 12 = ra
  generalize zz 17 = wa
  generalize zz 22 = ea
  generalize (zz 24).2 = b3
  clear zz
  refine r_loop (α := Nat × Pl × Option Addr × Nat) (fun z => [(0, .loc d 0 0), (2, .loc b2 13 0), (3, .loc b3 90 0), (43, .v (.slice ia o.sagas.length icap)), (44, .v (.int .i64 (o.sagas.length : Nat))), (45, .v (.int .i64 (z.1 : Nat)))]) (fun z => [.blk 90 b3 [.v (.int .i64 o.groups), .v (.int .i64 o.done), .v (.slice z.2.2.1 z.1 z.2.2.2), .v (.slice none 0 0), .v (.slice ra.1 o.parts.length ra.2), .v (.slice wa.1 o.parts.length wa.2), .v (.slice ea.1 o.parts.length ea.2)] 72, .blk 13 b2 [.v (.int .i64 0), .v (.int .i64 0), .v (.slice none 0 0), .v (.slice none 0 0), .v (.slice none 0 0), .v (.slice none 0 0), .v (.slice none 0 0)] 72, .blk 0 d [.v (.int .i64 o.groups), .v (.int .i64 o.done), .loc t1 20 0, .loc t2 21 0, .loc t3 22 0] 121, .ext 1 (TabA t1 o.sagas), .ext 2 (MvsA t2 o.moves), .ext 3 (PtsA t3 o.parts), .ext 23 (SlA 37 2 ra.1 o.parts.length ra.2 (o.parts.flatMap rgC)), .ext 24 (SlA 3 1 wa.1 o.parts.length wa.2 (o.parts.flatMap gpC)), .ext 25 (SlA 3 1 ea.1 o.parts.length ea.2 (o.parts.flatMap ecC)), .ext 4 (SlA 3 1 ia o.sagas.length icap (idC o.sagas))] ++ [.ext 20 (SlA 76 11 z.2.2.1 z.1 z.2.2.2 ((o.sagas.take z.1).flatMap (nmC z.2.1))), .ext 21 (StA (o.sagas.take z.1) z.2.1)]) (fun z => z.1 ≤ o.sagas.length) (fun z => o.sagas.length - z.1) (0, (fun _ => (none, 0)), none, 0) (Nat.zero_le _) (by repeat' (first | exact Sub.nil | (refine Sub.cons rfl rfl ?_))) (HSub.addStL (L' := [.blk 90 b3 [.v (.int .i64 o.groups), .v (.int .i64 o.done), .v (.slice none 0 0), .v (.slice none 0 0), .v (.slice ra.1 o.parts.length ra.2), .v (.slice wa.1 o.parts.length wa.2), .v (.slice ea.1 o.parts.length ea.2)] 72, .blk 13 b2 [.v (.int .i64 0), .v (.int .i64 0), .v (.slice none 0 0), .v (.slice none 0 0), .v (.slice none 0 0), .v (.slice none 0 0), .v (.slice none 0 0)] 72, .blk 0 d [.v (.int .i64 o.groups), .v (.int .i64 o.done), .loc t1 20 0, .loc t2 21 0, .loc t3 22 0] 121, .ext 1 (TabA t1 o.sagas), .ext 2 (MvsA t2 o.moves), .ext 3 (PtsA t3 o.parts), .ext 23 (SlA 37 2 ra.1 o.parts.length ra.2 (o.parts.flatMap rgC)), .ext 24 (SlA 3 1 wa.1 o.parts.length wa.2 (o.parts.flatMap gpC)), .ext 25 (SlA 3 1 ea.1 o.parts.length ea.2 (o.parts.flatMap ecC)), .ext 4 (SlA 3 1 ia o.sagas.length icap (idC o.sagas))] ++ [.ext 20 (SlA 76 11 none 0 0 [])]) (HSub.addSlL (L' := [.blk 90 b3 [.v (.int .i64 o.groups), .v (.int .i64 o.done), .v (.slice none 0 0), .v (.slice none 0 0), .v (.slice ra.1 o.parts.length ra.2), .v (.slice wa.1 o.parts.length wa.2), .v (.slice ea.1 o.parts.length ea.2)] 72, .blk 13 b2 [.v (.int .i64 0), .v (.int .i64 0), .v (.slice none 0 0), .v (.slice none 0 0), .v (.slice none 0 0), .v (.slice none 0 0), .v (.slice none 0 0)] 72, .blk 0 d [.v (.int .i64 o.groups), .v (.int .i64 o.done), .loc t1 20 0, .loc t2 21 0, .loc t3 22 0] 121, .ext 1 (TabA t1 o.sagas), .ext 2 (MvsA t2 o.moves), .ext 3 (PtsA t3 o.parts), .ext 23 (SlA 37 2 ra.1 o.parts.length ra.2 (o.parts.flatMap rgC)), .ext 24 (SlA 3 1 wa.1 o.parts.length wa.2 (o.parts.flatMap gpC)), .ext 25 (SlA 3 1 ea.1 o.parts.length ea.2 (o.parts.flatMap ecC)), .ext 4 (SlA 3 1 ia o.sagas.length icap (idC o.sagas))]) (by (try dsimp only [List.cons_append, List.nil_append, den, denL]); refine SelI.spec ?_; (repeat (first | refine SelI.blk (by repeat (first | with_reducible apply Rm.head | apply Rm.tail)) ?_ | refine SelI.ext (by repeat (first | with_reducible apply Rm.head | apply Rm.tail)) ?_ | (refine SelI.blk' (by repeat (first | with_reducible apply Rm.head | apply Rm.tail)) ?_ ?_; focus rfl) | (refine SelI.ext' (by repeat (first | with_reducible apply Rm.head | apply Rm.tail)) ?_ ?_; focus rfl))); exact SelI.nil))) ?_
  rintro ⟨i, A, a, cap⟩ hi KL hL2
  dsimp only [List.cons_append, List.nil_append] at hi ⊢
  by_cases hlt : i < o.sagas.length
  · obtain ⟨x, hx⟩ : ∃ x, o.sagas[i]? = some x := ⟨_, List.getElem?_eq_getElem hlt⟩
    have hmem := List.mem_of_getElem? hx
    have hg := getL_of_mem hL.srt hmem
    have hok := hL.ok x hmem
    have hid := hL.id x hmem
    repeat' (first
 | with_reducible ((first | refine r_seq (fun KS hS => ?_) | (refine hS _ _ ?_; clear hS KS) | (refine hA _ ?_; clear hA KA) | refine r_block ?_))
 | ((with_reducible (first | refine r_region ?_ | refine r_cond (fun KA hA KB hB => ?_) | refine r_skip ?_ | refine And.intro rfl ?_ | intro b)); conv => whnf)
 | ((with_reducible refine WrapK.i64 ?_ ?_); (focus omega); conv => whnf)
 | ((with_reducible refine OpK.id ?_); (first | refine OpK.idx (k := 1) rfl rfl rfl rfl rfl rfl rfl (Sees.ext (by repeat (first | with_reducible apply At.head | apply At.tail))) (by omega) (by omega) (id_at hx) (fun b off hp => ?_) | refine OpK.ldp rfl rfl hp (List.cons_ne_nil _ _) ?_); conv => whnf)
 | ((with_reducible refine CallK.id ?_); refine CallK.s1 (by repeat (first | with_reducible apply Rm.head | apply Rm.tail)) (fun ms w hk => get1056 hg hok (zok_id hid) w) ?_; conv => whnf)
 | ((with_reducible refine OpK.id ?_); refine OpK.app (k := 11) rfl rfl rfl rfl rfl rfl rfl rfl (by repeat (first | with_reducible apply At.head | apply At.tail)) (SrcK.slc rfl rfl (by repeat (first | constructor | apply List.Mem.tail)) (Nat.le_refl _) rfl) (big_ok (by omega) (by decide)) (fun a' cap' => ?_); conv => whnf)
 | (refine hL2 (i + 1, setA A x.1 ‹Option Addr × Nat›, a', cap') _ _ (by show i + 1 ≤ _; omega) (by show _ - (i + 1) < _ - i; omega) (by repeat' (first | exact Sub.nil | (refine Sub.cons rfl rfl ?_))) (by refine HSub.trans (HSub.app2 (A := [.blk 90 b3 [.v (.int .i64 o.groups), .v (.int .i64 o.done), .v (.slice a' (i + 1) cap'), .v (.slice none 0 0), .v (.slice ra.1 o.parts.length ra.2), .v (.slice wa.1 o.parts.length wa.2), .v (.slice ea.1 o.parts.length ea.2)] 72, .blk 13 b2 [.v (.int .i64 0), .v (.int .i64 0), .v (.slice none 0 0), .v (.slice none 0 0), .v (.slice none 0 0), .v (.slice none 0 0), .v (.slice none 0 0)] 72, .blk 0 d [.v (.int .i64 o.groups), .v (.int .i64 o.done), .loc t1 20 0, .loc t2 21 0, .loc t3 22 0] 121, .ext 1 (TabA t1 o.sagas), .ext 2 (MvsA t2 o.moves), .ext 3 (PtsA t3 o.parts), .ext 23 (SlA 37 2 ra.1 o.parts.length ra.2 (o.parts.flatMap rgC)), .ext 24 (SlA 3 1 wa.1 o.parts.length wa.2 (o.parts.flatMap gpC)), .ext 25 (SlA 3 1 ea.1 o.parts.length ea.2 (o.parts.flatMap ecC)), .ext 4 (SlA 3 1 ia o.sagas.length icap (idC o.sagas))]) (HSub.refl _) (HSub.ext (i := 20) (j := 20) (fun w S h => by rw [← nm_snoc hL.srt hx]; exact h) (StA_snoc (q := 21) (r := 1) hL.srt hx))) ?_; dsimp only [List.cons_append, List.nil_append]; exact (by (try dsimp only [List.cons_append, List.nil_append, den, denL]); refine SelI.spec ?_; (repeat (first | refine SelI.blk (by repeat (first | with_reducible apply Rm.head | apply Rm.tail)) ?_ | refine SelI.ext (by repeat (first | with_reducible apply Rm.head | apply Rm.tail)) ?_ | (refine SelI.blk' (by repeat (first | with_reducible apply Rm.head | apply Rm.tail)) ?_ ?_; focus rfl) | (refine SelI.ext' (by repeat (first | with_reducible apply Rm.head | apply Rm.tail)) ?_ ?_; focus rfl))); exact SelI.nil)))
 | (refine if_decT (by omega) ?_; conv => whnf)
 | with_reducible apply_assumption -symm -exfalso)
  · obtain rfl : i = o.sagas.length := by omega
    clear hL2
    rw [List.take_length]
    repeat' (first
 | with_reducible ((first | refine r_seq (fun KS hS => ?_) | (refine hS _ _ ?_; clear hS KS) | (refine hB _ ?_; clear hB KB) | refine r_block ?_))
 | ((with_reducible (first | refine r_region ?_ | refine r_cond (fun KA hA KB hB => ?_) | refine r_exit ?_ | refine And.intro rfl ?_)); conv => whnf)
 | ((with_reducible refine CallK.id ?_); refine CallK.s1V (by repeat (first | with_reducible apply Rm.head | apply Rm.tail)) (fun ms w hk => mlen1064 hml w) ?_; conv => whnf)
 | (refine if_decF (by omega) ?_; conv => whnf)
 | with_reducible apply_assumption -symm -exfalso)
    refine r_loop (α := Nat × Option Addr × Nat) (fun z => [(0, .loc d 0 0), (2, .loc b2 13 0), (3, .loc b3 90 0), (71, .v (.int .i64 (o.moves.length : Nat))), (72, .v (.int .i64 (z.1 : Nat)))]) (fun z => [.blk 90 b3 [.v (.int .i64 o.groups), .v (.int .i64 o.done), .v (.slice a o.sagas.length cap), .v (.slice z.2.1 z.1 z.2.2), .v (.slice ra.1 o.parts.length ra.2), .v (.slice wa.1 o.parts.length wa.2), .v (.slice ea.1 o.parts.length ea.2)] 72, .blk 13 b2 [.v (.int .i64 0), .v (.int .i64 0), .v (.slice none 0 0), .v (.slice none 0 0), .v (.slice none 0 0), .v (.slice none 0 0), .v (.slice none 0 0)] 72, .blk 0 d [.v (.int .i64 o.groups), .v (.int .i64 o.done), .loc t1 20 0, .loc t2 21 0, .loc t3 22 0] 121, .ext 1 (TabA t1 o.sagas), .ext 2 (MvsA t2 o.moves), .ext 3 (PtsA t3 o.parts), .ext 23 (SlA 37 2 ra.1 o.parts.length ra.2 (o.parts.flatMap rgC)), .ext 24 (SlA 3 1 wa.1 o.parts.length wa.2 (o.parts.flatMap gpC)), .ext 25 (SlA 3 1 ea.1 o.parts.length ea.2 (o.parts.flatMap ecC)), .ext 20 (SlA 76 11 a o.sagas.length cap (o.sagas.flatMap (nmC A))), .ext 21 (StA o.sagas A)] ++ [.ext 22 (SlA 83 6 z.2.1 z.1 z.2.2 ((o.moves.take z.1).flatMap mvC))]) (fun z => z.1 ≤ o.moves.length) (fun z => o.moves.length - z.1) (0, none, 0) (Nat.zero_le _) (by repeat' (first | exact Sub.nil | (refine Sub.cons rfl rfl ?_))) (HSub.addSlL (L' := [.blk 90 b3 [.v (.int .i64 o.groups), .v (.int .i64 o.done), .v (.slice a o.sagas.length cap), .v (.slice none 0 0), .v (.slice ra.1 o.parts.length ra.2), .v (.slice wa.1 o.parts.length wa.2), .v (.slice ea.1 o.parts.length ea.2)] 72, .blk 13 b2 [.v (.int .i64 0), .v (.int .i64 0), .v (.slice none 0 0), .v (.slice none 0 0), .v (.slice none 0 0), .v (.slice none 0 0), .v (.slice none 0 0)] 72, .blk 0 d [.v (.int .i64 o.groups), .v (.int .i64 o.done), .loc t1 20 0, .loc t2 21 0, .loc t3 22 0] 121, .ext 1 (TabA t1 o.sagas), .ext 2 (MvsA t2 o.moves), .ext 3 (PtsA t3 o.parts), .ext 23 (SlA 37 2 ra.1 o.parts.length ra.2 (o.parts.flatMap rgC)), .ext 24 (SlA 3 1 wa.1 o.parts.length wa.2 (o.parts.flatMap gpC)), .ext 25 (SlA 3 1 ea.1 o.parts.length ea.2 (o.parts.flatMap ecC)), .ext 20 (SlA 76 11 a o.sagas.length cap (o.sagas.flatMap (nmC A))), .ext 21 (StA o.sagas A)]) (by (try dsimp only [List.cons_append, List.nil_append, den, denL]); refine SelI.spec ?_; (repeat (first | refine SelI.blk (by repeat (first | with_reducible apply Rm.head | apply Rm.tail)) ?_ | refine SelI.ext (by repeat (first | with_reducible apply Rm.head | apply Rm.tail)) ?_ | (refine SelI.blk' (by repeat (first | with_reducible apply Rm.head | apply Rm.tail)) ?_ ?_; focus rfl) | (refine SelI.ext' (by repeat (first | with_reducible apply Rm.head | apply Rm.tail)) ?_ ?_; focus rfl))); exact SelI.nil)) ?_
    rintro ⟨i, a2, cap2⟩ hi KL hL2
    dsimp only [List.cons_append, List.nil_append] at hi ⊢
    by_cases hlt : i < o.moves.length
    · obtain ⟨m, hx⟩ : ∃ m, o.moves[i]? = some m := ⟨_, List.getElem?_eq_getElem hlt⟩
      have hsn := flat_snoc (g := mvC) hx
      repeat' (first
 | with_reducible ((first | refine r_seq (fun KS hS => ?_) | (refine hS _ _ ?_; clear hS KS) | (refine hA _ ?_; clear hA KA) | refine r_block ?_))
 | ((with_reducible (first | refine r_region ?_ | refine r_cond (fun KA hA KB hB => ?_) | refine r_skip ?_ | refine And.intro rfl ?_ | intro b)); conv => whnf)
 | ((with_reducible refine WrapK.i64 ?_ ?_); (focus omega); conv => whnf)
 | ((with_reducible refine CallK.id ?_); refine CallK.s1V (by repeat (first | with_reducible apply Rm.head | apply Rm.tail)) (fun ms w hk => mget1065 hx hml w) ?_; conv => whnf)
 | ((with_reducible refine OpK.id ?_); refine OpK.app (k := 6) rfl rfl rfl rfl rfl rfl rfl rfl (by repeat (first | with_reducible apply At.head | apply At.tail)) (SrcK.slc rfl rfl (by repeat (first | constructor | apply List.Mem.tail)) (Nat.le_refl _) rfl) (big_ok (by omega) (by decide)) (fun a' cap' => ?_); conv => whnf)
 | (refine hL2 (i + 1, a', cap') _ _ (by show i + 1 ≤ _; omega) (by show _ - (i + 1) < _ - i; omega) (by repeat' (first | exact Sub.nil | (refine Sub.cons rfl rfl ?_))) (by refine HSub.trans (HSub.app2 (A := [.blk 90 b3 [.v (.int .i64 o.groups), .v (.int .i64 o.done), .v (.slice a o.sagas.length cap), .v (.slice a' (i + 1) cap'), .v (.slice ra.1 o.parts.length ra.2), .v (.slice wa.1 o.parts.length wa.2), .v (.slice ea.1 o.parts.length ea.2)] 72, .blk 13 b2 [.v (.int .i64 0), .v (.int .i64 0), .v (.slice none 0 0), .v (.slice none 0 0), .v (.slice none 0 0), .v (.slice none 0 0), .v (.slice none 0 0)] 72, .blk 0 d [.v (.int .i64 o.groups), .v (.int .i64 o.done), .loc t1 20 0, .loc t2 21 0, .loc t3 22 0] 121, .ext 1 (TabA t1 o.sagas), .ext 2 (MvsA t2 o.moves), .ext 3 (PtsA t3 o.parts), .ext 23 (SlA 37 2 ra.1 o.parts.length ra.2 (o.parts.flatMap rgC)), .ext 24 (SlA 3 1 wa.1 o.parts.length wa.2 (o.parts.flatMap gpC)), .ext 25 (SlA 3 1 ea.1 o.parts.length ea.2 (o.parts.flatMap ecC)), .ext 20 (SlA 76 11 a o.sagas.length cap (o.sagas.flatMap (nmC A))), .ext 21 (StA o.sagas A)]) (HSub.refl _) (HSub.ext (i := 22) (j := 22) (fun w S h => by rw [← hsn]; exact h) HSub.nil)) ?_; dsimp only [List.cons_append, List.nil_append]; exact (by (try dsimp only [List.cons_append, List.nil_append, den, denL]); refine SelI.spec ?_; (repeat (first | refine SelI.blk (by repeat (first | with_reducible apply Rm.head | apply Rm.tail)) ?_ | refine SelI.ext (by repeat (first | with_reducible apply Rm.head | apply Rm.tail)) ?_ | (refine SelI.blk' (by repeat (first | with_reducible apply Rm.head | apply Rm.tail)) ?_ ?_; focus rfl) | (refine SelI.ext' (by repeat (first | with_reducible apply Rm.head | apply Rm.tail)) ?_ ?_; focus rfl))); exact SelI.nil)))
 | (refine if_decT (by omega) ?_; conv => whnf)
 | with_reducible apply_assumption -symm -exfalso)
    · obtain rfl : i = o.moves.length := by omega
      clear hL2
      rw [List.take_length]
      repeat' (first
 | with_reducible ((first | refine r_seq (fun KS hS => ?_) | (refine hS _ _ ?_; clear hS KS) | (refine hB _ ?_; clear hB KB)))
 | ((with_reducible (first | refine r_region ?_ | refine r_cond (fun KA hA KB hB => ?_) | refine r_ret ?_ | refine r_exit ?_ | refine And.intro rfl ?_)); conv => whnf)
 | (refine if_decF (by omega) ?_; conv => whnf)
 | with_reducible apply_assumption -symm -exfalso)
      refine FinK.frZL ⟨(a, cap), A, (a2, cap2), ra, wa, ea⟩ rfl (HSub.trans (HSub.app2 (A' := [.ext 12 (OrchA d o)]) (or_id (d := d) (s := o) (t1 := t1) (t2 := t2) (t3 := t3) (i := 0) (j := 1) (k := 2) (l := 3)) (HSub.refl (stateH o ⟨(a, cap), A, (a2, cap2), ra, wa, ea⟩))) ?_)
      dsimp only [stateH, List.cons_append, List.nil_append]
      exact (by (try dsimp only [List.cons_append, List.nil_append, den, denL]); refine SelI.spec ?_; (repeat (first | refine SelI.blk (by repeat (first | with_reducible apply Rm.head | apply Rm.tail)) ?_ | refine SelI.ext (by repeat (first | with_reducible apply Rm.head | apply Rm.tail)) ?_ | (refine SelI.blk' (by repeat (first | with_reducible apply Rm.head | apply Rm.tail)) ?_ ?_; focus rfl) | (refine SelI.ext' (by repeat (first | with_reducible apply Rm.head | apply Rm.tail)) ?_ ?_; focus rfl))); exact SelI.nil)
end Go.Proofs.YtjkmpaggfbghiaaGreatDoor

set_option linter.all false
namespace Go.X.OM
open Go Go.X
end Go.X.OM
namespace Go.Proofs.YtjkmpaggfbghiaaGreatDoor
open Go Go.X
set_option maxRecDepth 100000
set_option maxHeartbeats 0
theorem take_s {α : Type} {l : List α} {i : Nat} {x : α} (h : l[i]? = some x) : l.take (i + 1) = l.take i ++ [x] := (take_snoc h).symm
end Go.Proofs.YtjkmpaggfbghiaaGreatDoor

set_option linter.all false
namespace Go.Proofs.YtjkmpaggfbghiaaGreatDoor
open Go Go.X
set_option maxRecDepth 100000
set_option maxHeartbeats 0
theorem nm_at {A : Pl} {l : List (Int × OM.Sg)} {i : Nat} {x : Int × OM.Sg} (h : l[i]? = some x) : ((l.flatMap (nmC A)).drop ((i : Int).toNat * 11)).take 11 = denL (.v (.int .i64 x.1) :: sgc x.2 (A x.1).1 (A x.1).2) := flat_at (k := 11) (g := nmC A) (fun _ => rfl) h
end Go.Proofs.YtjkmpaggfbghiaaGreatDoor

set_option linter.all false
namespace Go.Proofs.YtjkmpaggfbghiaaGreatDoor
open Go Go.X
set_option maxRecDepth 100000
set_option maxHeartbeats 0
theorem number1029 {x : OM.Item} (h : x.ok = true) (w : World) : Pu Tryz.prog 29 #[.agg (denL (itV x)).toArray] w (.tuple #[.int .i64 (OM.itN x), .int .i64 0]) := by
  obtain ⟨k1, k2, k3, k4, k5⟩ := OM.itN_bd h
  have hck := itemOkP1069 h
  unfold OM.itN
  refine enter_sound TBok Tryz.func29 rfl rfl Tryz.ntmps29 [.agg (itV x)] (Kn.start w noS) rfl rfl ?_
  conv => whnf
  by_cases hm : x.move = 0
  · obtain ⟨k6, k7, k8, k9, k10, k11⟩ := k5 hm
    rw [if_pos hm]
    repeat' (first
 | with_reducible ((first | refine r_seq (fun KS hS => ?_) | (refine hS _ _ ?_; clear hS KS) | (refine hA _ ?_; clear hA KA) | (refine hB _ ?_; clear hB KB) | refine r_block ?_))
 | ((with_reducible (first | refine r_region ?_ | refine r_cond (fun KA hA KB hB => ?_) | refine r_ret ?_ | refine r_skip ?_ | refine And.intro rfl ?_ | intro b)); conv => whnf)
 | ((with_reducible refine WrapK.i64 ?_ ?_); (focus omega); conv => whnf)
 | ((with_reducible refine CallK.id ?_); refine CallK.pu (fun w => hck w) ?_; conv => whnf)
 | (refine if_decT (by omega) ?_; conv => whnf)
 | with_reducible apply_assumption -symm -exfalso)
    all_goals exact FinK.pu rfl
  · clear k5
    rw [if_neg hm]
    cases hi : x.in_ with
    | true =>
      rw [if_pos rfl]
      repeat' (first
 | with_reducible ((first | refine r_seq (fun KS hS => ?_) | (refine hS _ _ ?_; clear hS KS) | (refine hA _ ?_; clear hA KA) | (refine hB _ ?_; clear hB KB) | refine r_block ?_))
 | ((with_reducible (first | refine r_region ?_ | refine r_cond (fun KA hA KB hB => ?_) | refine r_ret ?_ | refine r_skip ?_ | refine And.intro rfl ?_ | intro b)); conv => whnf)
 | ((with_reducible refine WrapK.i64 ?_ ?_); (focus omega); conv => whnf)
 | (refine if_t hi ?_; conv => whnf)
 | ((with_reducible refine CallK.id ?_); refine CallK.pu (fun w => hck w) ?_; conv => whnf)
 | (refine if_decF (by omega) ?_; conv => whnf)
 | with_reducible apply_assumption -symm -exfalso)
      all_goals exact FinK.pu rfl
    | false =>
      rw [if_neg (by decide)]
      repeat' (first
 | with_reducible ((first | refine r_seq (fun KS hS => ?_) | (refine hS _ _ ?_; clear hS KS) | (refine hB _ ?_; clear hB KB) | refine r_block ?_))
 | ((with_reducible (first | refine r_region ?_ | refine r_cond (fun KA hA KB hB => ?_) | refine r_ret ?_ | refine r_skip ?_ | refine And.intro rfl ?_ | intro b)); conv => whnf)
 | ((with_reducible refine WrapK.i64 ?_ ?_); (focus omega); conv => whnf)
 | (refine if_f hi ?_; conv => whnf)
 | ((with_reducible refine CallK.id ?_); refine CallK.pu (fun w => hck w) ?_; conv => whnf)
 | (refine if_decF (by omega) ?_; conv => whnf)
 | with_reducible apply_assumption -symm -exfalso)
      all_goals exact FinK.pu rfl
abbrev mQ (key : ByteArray) (m : OM.Mv) : Bool := (!decide (m.st = 3)) && m.r.has key
theorem busy_any {o : OM.St} {key : ByteArray} : o.moves.any (mQ key) = o.busy key := by
  unfold OM.St.busy OM.St.openM
  rw [Bool.eq_iff_iff, List.any_eq_true, List.any_eq_true]
  constructor
  · rintro ⟨m, hm, hq⟩
    obtain ⟨j, hj⟩ := List.mem_iff_getElem?.1 hm
    simp only [mQ, Bool.and_eq_true, Bool.not_eq_true', decide_eq_false_iff_not] at hq
    exact ⟨(1 + j, m), OM.openF_mem.2 ⟨j, hj, rfl, hq.1⟩, hq.2⟩
  · rintro ⟨⟨n, m⟩, hm, hq⟩
    obtain ⟨j, hj, _, h3⟩ := OM.openF_mem.1 hm
    refine ⟨m, List.mem_of_getElem? hj, ?_⟩
    simp only [mQ, Bool.and_eq_true, Bool.not_eq_true', decide_eq_false_iff_not]
    exact ⟨h3, hq⟩
theorem mcl1027 {b2 : Nat} {key : ByteArray} {dl : Int} {m : OM.Mv} (hmo : m.r.ok = true) (hk : key.size ≤ 1099511627776) (w : World) :
    Fr Tryz.prog 27 #[.agg (denL (mvc m)).toArray, pv b2] w (AssL [.blk 16 b2 [.v (.string key), .v (.int .i64 dl)] 80]) (.bool (mQ key m)) (AssL [.blk 16 b2 [.v (.string key), .v (.int .i64 dl)] 80]) := by
  have hhas1023 := fun w => has1023 (k := key) hmo (rsz hmo).lo (rsz hmo).hi hk w
  unfold mQ
  refine enter_fr TBok (H := [.blk 16 b2 [.v (.string key), .v (.int .i64 dl)] 80]) all_foot Tryz.func27 rfl rfl Tryz.ntmps27 [.agg (mvc m), .loc b2 16 0] rfl rfl ?_
  intro S
  conv => whnf
  by_cases h3 : m.st = 3
  · rw [decide_eq_true h3]
    repeat' (first
 | with_reducible ((first | refine r_seq (fun KS hS => ?_) | (refine hS _ _ ?_; clear hS KS)))
 | ((with_reducible (first | refine r_region ?_ | refine r_ret ?_ | refine And.intro rfl ?_ | intro b)); conv => whnf)
 | (refine if_ndecF (by omega) ?_; conv => whnf))
    all_goals exact FinK.frL rfl (by (try dsimp only [List.cons_append, List.nil_append, den, denL]); refine SelI.spec ?_; (repeat (first | refine SelI.blk (by repeat (first | with_reducible apply Rm.head | apply Rm.tail)) ?_ | refine SelI.ext (by repeat (first | with_reducible apply Rm.head | apply Rm.tail)) ?_ | (refine SelI.blk' (by repeat (first | with_reducible apply Rm.head | apply Rm.tail)) ?_ ?_; focus rfl) | (refine SelI.ext' (by repeat (first | with_reducible apply Rm.head | apply Rm.tail)) ?_ ?_; focus rfl))); exact SelI.nil)
  · rw [decide_eq_false h3]
    repeat' (first
 | with_reducible ((first | refine r_seq (fun KS hS => ?_) | (refine hS _ _ ?_; clear hS KS)))
 | ((with_reducible (first | refine r_region ?_ | refine r_ret ?_ | refine And.intro rfl ?_ | intro b)); conv => whnf)
 | ((with_reducible refine CallK.at 23 ?_); refine CallK.pu (fun w => hhas1023 w) ?_; conv => whnf)
 | (refine if_ndecT (by omega) ?_; conv => whnf))
    all_goals exact FinK.frL rfl (by (try dsimp only [List.cons_append, List.nil_append, den, denL]); refine SelI.spec ?_; (repeat (first | refine SelI.blk (by repeat (first | with_reducible apply Rm.head | apply Rm.tail)) ?_ | refine SelI.ext (by repeat (first | with_reducible apply Rm.head | apply Rm.tail)) ?_ | (refine SelI.blk' (by repeat (first | with_reducible apply Rm.head | apply Rm.tail)) ?_ ?_; focus rfl) | (refine SelI.ext' (by repeat (first | with_reducible apply Rm.head | apply Rm.tail)) ?_ ?_; focus rfl))); exact SelI.nil)
def ixQ (l : List OM.Mv) (key : ByteArray) : Int := if l.findIdx (mQ key) < l.length then (l.findIdx (mQ key) : Nat) else -1
abbrev mqB (b2 : Nat) (key : ByteArray) (dl : Int) (L : List OM.Mv) (a : Option Addr) (cap : Nat) : List Blk := [.ext 22 (SlA 83 6 a L.length cap (L.flatMap mvC)), .blk 16 b2 [.v (.string key), .v (.int .i64 dl)] 80]
theorem index1068 {b2 : Nat} {key : ByteArray} {dl : Int} {L : List OM.Mv} {a : Option Addr} {cap : Nat} (hml : L.length ≤ 64) (hmo : ∀ m ∈ L, m.r.ok = true) (hk : key.size ≤ 1099511627776) (w : World) :
    Fr Tryz.prog 68 #[.slice a L.length cap, .func (.func 27) #[] #[pv b2]] w (AssL (mqB b2 key dl L a cap)) (.int .i64 (ixQ L key)) (AssL (mqB b2 key dl L a cap)) := by
  obtain ⟨stop, hstop⟩ : ∃ stop, L.findIdx (mQ key) = stop := ⟨_, rfl⟩
  have hsl : stop ≤ L.length := by rw [← hstop]; exact List.findIdx_le_length
  unfold ixQ
  rw [hstop]
  refine enter_fr TBok (H := mqB b2 key dl L a cap) all_foot Tryz.func68 rfl rfl Tryz.ntmps68 [.v (.slice a L.length cap), .fn 27 [.loc b2 16 0]] rfl rfl ?_
  intro S
  conv => whnf
  repeat' (first
 | with_reducible ((first | refine r_seq (fun KS hS => ?_) | (refine hS _ _ ?_; clear hS KS) | refine r_block ?_))
 | ((with_reducible refine r_region ?_); conv => whnf))
  refine r_loop (α := Nat) (fun i => [(0, .v (.slice a L.length cap)), (1, .fn 27 [.loc b2 16 0]), (7, .v (.int .i64 (L.length : Nat))), (8, .v (.int .i64 (i : Nat)))]) (fun _ => mqB b2 key dl L a cap) (fun i => i ≤ stop) (fun i => L.length - i) 0 (Nat.zero_le _) (by repeat' (first | exact Sub.nil | (refine Sub.cons rfl rfl ?_))) (by (try dsimp only [List.cons_append, List.nil_append, den, denL]); refine SelI.spec ?_; (repeat (first | refine SelI.blk (by repeat (first | with_reducible apply Rm.head | apply Rm.tail)) ?_ | refine SelI.ext (by repeat (first | with_reducible apply Rm.head | apply Rm.tail)) ?_ | (refine SelI.blk' (by repeat (first | with_reducible apply Rm.head | apply Rm.tail)) ?_ ?_; focus rfl) | (refine SelI.ext' (by repeat (first | with_reducible apply Rm.head | apply Rm.tail)) ?_ ?_; focus rfl))); exact SelI.nil) ?_
  intro i hi KL hL
  by_cases hlt : i < L.length
  · obtain ⟨x, hx⟩ : ∃ x, L[i]? = some x := ⟨_, List.getElem?_eq_getElem hlt⟩
    have hxi : L[i] = x := (List.getElem?_eq_some_iff.1 hx).2
    have hcl1027 := fun w => mcl1027 (b2 := b2) (dl := dl) (hmo x (List.mem_of_getElem? hx)) hk w
    by_cases hls : i < stop
    · have hno : mQ key x = false := by
        have := List.not_of_lt_findIdx (p := mQ key) (xs := L) (i := i) (by omega)
        rw [hxi] at this
        simpa using this
      rw [hno] at hcl1027
      repeat' (first
 | with_reducible ((first | refine r_seq (fun KS hS => ?_) | (refine hS _ _ ?_; clear hS KS) | (refine hA _ ?_; clear hA KA) | (refine hB _ ?_; clear hB KB) | refine r_block ?_))
 | ((with_reducible (first | refine r_region ?_ | refine r_cond (fun KA hA KB hB => ?_) | refine r_skip ?_)); conv => whnf)
 | ((with_reducible refine WrapK.i64 ?_ ?_); (focus omega); conv => whnf)
 | ((with_reducible refine OpK.id ?_); (first | refine OpK.idx (k := 6) rfl rfl rfl rfl rfl rfl rfl (Sees.ext (by repeat (first | with_reducible apply At.head | apply At.tail))) (by omega) (by omega) (mv_at hx) (fun b off hp => ?_) | refine OpK.ldp rfl rfl hp (List.cons_ne_nil _ _) ?_); conv => whnf)
 | ((with_reducible refine CallK.id ?_); refine CallK.selV (by apply Sel.cons; (case h => repeat (first | with_reducible apply Rm.head | apply Rm.tail)); exact Sel.nil) (fun ms w hk => hcl1027 w) ?_; dsimp only [layF]; conv => whnf)
 | (refine hL (i + 1) _ _ (by show i + 1 ≤ _; omega) (by show L.length - (i + 1) < L.length - i; omega) (by repeat' (first | exact Sub.nil | (refine Sub.cons rfl rfl ?_))) (by (try dsimp only [List.cons_append, List.nil_append, den, denL]); refine SelI.spec ?_; (repeat (first | refine SelI.blk (by repeat (first | with_reducible apply Rm.head | apply Rm.tail)) ?_ | refine SelI.ext (by repeat (first | with_reducible apply Rm.head | apply Rm.tail)) ?_ | (refine SelI.blk' (by repeat (first | with_reducible apply Rm.head | apply Rm.tail)) ?_ ?_; focus rfl) | (refine SelI.ext' (by repeat (first | with_reducible apply Rm.head | apply Rm.tail)) ?_ ?_; focus rfl))); exact SelI.nil))
 | (refine if_decT (by omega) ?_; conv => whnf)
 | with_reducible apply_assumption -symm -exfalso)
    · obtain rfl : i = stop := by omega
      have hyes : mQ key x = true := by
        have := List.findIdx_getElem (p := mQ key) (xs := L) (w := by omega)
        simp only [hstop] at this
        rw [hxi] at this
        exact this
      rw [hyes] at hcl1027
      repeat' (first
 | with_reducible ((first | refine r_seq (fun KS hS => ?_) | (refine hS _ _ ?_; clear hS KS) | (refine hA _ ?_; clear hA KA) | refine r_block ?_))
 | ((with_reducible (first | refine r_region ?_ | refine r_cond (fun KA hA KB hB => ?_) | refine r_ret ?_ | refine r_skip ?_)); conv => whnf)
 | ((with_reducible refine OpK.id ?_); (first | refine OpK.idx (k := 6) rfl rfl rfl rfl rfl rfl rfl (Sees.ext (by repeat (first | with_reducible apply At.head | apply At.tail))) (by omega) (by omega) (mv_at hx) (fun b off hp => ?_) | refine OpK.ldp rfl rfl hp (List.cons_ne_nil _ _) ?_); conv => whnf)
 | ((with_reducible refine CallK.id ?_); refine CallK.selV (by apply Sel.cons; (case h => repeat (first | with_reducible apply Rm.head | apply Rm.tail)); exact Sel.nil) (fun ms w hk => hcl1027 w) ?_; dsimp only [layF]; conv => whnf)
 | (refine if_decT (by omega) ?_; conv => whnf)
 | with_reducible apply_assumption -symm -exfalso)
      all_goals exact FinK.frL (by rw [if_pos hlt]; rfl) (by (try dsimp only [List.cons_append, List.nil_append, den, denL]); refine SelI.spec ?_; (repeat (first | refine SelI.blk (by repeat (first | with_reducible apply Rm.head | apply Rm.tail)) ?_ | refine SelI.ext (by repeat (first | with_reducible apply Rm.head | apply Rm.tail)) ?_ | (refine SelI.blk' (by repeat (first | with_reducible apply Rm.head | apply Rm.tail)) ?_ ?_; focus rfl) | (refine SelI.ext' (by repeat (first | with_reducible apply Rm.head | apply Rm.tail)) ?_ ?_; focus rfl))); exact SelI.nil)
  · repeat' (first
 | with_reducible ((first | refine r_seq (fun KS hS => ?_) | (refine hS _ _ ?_; clear hS KS) | (refine hB _ ?_; clear hB KB)))
 | ((with_reducible (first | refine r_region ?_ | refine r_cond (fun KA hA KB hB => ?_) | refine r_ret ?_ | refine r_exit ?_)); conv => whnf)
 | (refine if_decF (by omega) ?_; conv => whnf)
 | with_reducible apply_assumption -symm -exfalso)
    all_goals exact FinK.frL (by rw [if_neg (by omega)]; rfl) (by (try dsimp only [List.cons_append, List.nil_append, den, denL]); refine SelI.spec ?_; (repeat (first | refine SelI.blk (by repeat (first | with_reducible apply Rm.head | apply Rm.tail)) ?_ | refine SelI.ext (by repeat (first | with_reducible apply Rm.head | apply Rm.tail)) ?_ | (refine SelI.blk' (by repeat (first | with_reducible apply Rm.head | apply Rm.tail)) ?_ ?_; focus rfl) | (refine SelI.ext' (by repeat (first | with_reducible apply Rm.head | apply Rm.tail)) ?_ ?_; focus rfl))); exact SelI.nil)
theorem contains1026 {b2 : Nat} {key : ByteArray} {dl : Int} {L : List OM.Mv} {a : Option Addr} {cap : Nat} (hml : L.length ≤ 64) (hmo : ∀ m ∈ L, m.r.ok = true) (hk : key.size ≤ 1099511627776) (w : World) :
    Fr Tryz.prog 26 #[.slice a L.length cap, .func (.func 27) #[] #[pv b2]] w (AssL (mqB b2 key dl L a cap)) (.bool (L.any (mQ key))) (AssL (mqB b2 key dl L a cap)) := by
  have hany : L.any (mQ key) = decide (0 ≤ ixQ L key) := by
    unfold ixQ
    rw [Bool.eq_iff_iff, decide_eq_true_eq]
    constructor
    · intro h
      have : L.findIdx (mQ key) < L.length := by rw [List.findIdx_lt_length]; exact List.any_eq_true.1 h
      rw [if_pos this]; omega
    · intro h
      split at h
      · rename_i hlt
        rw [List.findIdx_lt_length] at hlt
        exact List.any_eq_true.2 hlt
      · omega
  rw [hany]
  refine enter_fr TBok (H := mqB b2 key dl L a cap) all_foot Tryz.func26 rfl rfl Tryz.ntmps26 [.v (.slice a L.length cap), .fn 27 [.loc b2 16 0]] rfl rfl ?_
  intro S
  conv => whnf
  repeat' (first
 | with_reducible ((first | refine r_seq (fun KS hS => ?_) | (refine hS _ _ ?_; clear hS KS)))
 | ((with_reducible (first | refine r_region ?_ | refine r_ret ?_)); conv => whnf)
 | ((with_reducible refine CallK.id ?_); refine CallK.selV (by apply Sel.cons; (case h => repeat (first | with_reducible apply Rm.head | apply Rm.tail)); apply Sel.cons; (case h => repeat (first | with_reducible apply Rm.head | apply Rm.tail)); exact Sel.nil) (fun ms w hkn => index1068 (key := key) (dl := dl) hml hmo hk w) ?_; dsimp only [layF]; conv => whnf))
  all_goals exact FinK.frL rfl (by (try dsimp only [List.cons_append, List.nil_append, den, denL]); refine SelI.spec ?_; (repeat (first | refine SelI.blk (by repeat (first | with_reducible apply Rm.head | apply Rm.tail)) ?_ | refine SelI.ext (by repeat (first | with_reducible apply Rm.head | apply Rm.tail)) ?_ | (refine SelI.blk' (by repeat (first | with_reducible apply Rm.head | apply Rm.tail)) ?_ ?_; focus rfl) | (refine SelI.ext' (by repeat (first | with_reducible apply Rm.head | apply Rm.tail)) ?_ ?_; focus rfl))); exact SelI.nil)
end Go.Proofs.YtjkmpaggfbghiaaGreatDoor

set_option linter.all false
namespace Go.Proofs.YtjkmpaggfbghiaaGreatDoor
open Go Go.X
set_option maxRecDepth 100000
set_option maxHeartbeats 0
abbrev cmC (x : OM.Item × OM.Cmd) : List Value := denL (cmV x.2 none 0 0)
abbrev iwC (x : OM.Item × OM.Cmd) : List Value := itC x.1
theorem cm_at {l : List (OM.Item × OM.Cmd)} {i : Nat} {x : OM.Item × OM.Cmd} (h : l[i]? = some x) : ((l.flatMap cmC).drop ((i : Int).toNat * 24)).take 24 = denL (cmV x.2 none 0 0) := flat_at (k := 24) (g := cmC) (fun _ => rfl) h
def rgt : Nat → Code → Code
  | 0, c => c
  | n + 1, .seq _ b => rgt n b
  | _ + 1, c => c
theorem itN_pos {o : OM.St} (hi : OM.Inv o) : ∀ y ∈ o.wanted.drop 0, (0 : Int) < OM.itN y.1 := by
  rintro ⟨x, c⟩ hy
  rw [List.drop_zero] at hy
  obtain ⟨h1, h2, h3, h4, h5⟩ := OM.itN_bd (OM.item_ok hi hy)
  show 0 < OM.itN x
  unfold OM.itN
  split
  · rename_i h
    have := h5 h
    omega
  · split <;> omega
theorem items_rest {d ic cc : Nat} {ia ca : Option Addr} {o : OM.St} {o0 o1 : Obj} {w : World} {S : Nat → Prop} (hko : KObj o0 o1) (hIo : OM.Inv o) :
    Run ⟨Tryz.prog, TB, 257, w, S, none, TBok⟩ (rgt 8 (Tryz.f6.body.getD .skip)) [(3, .v (pv d)), (5, .v (.slice ca o.items.length cc)), (6, .v (.slice ia o.items.length ic))] [.ext 12 (OrchA d o), .ext 9 (GlA o0 o1), .ext 60 (SlA 31 6 ia o.items.length ic (imC o)), .ext 61 (SlA 42 24 ca o.items.length cc (o.wanted.flatMap cmC))]
      (endF ⟨Tryz.prog, TB, 257, w, S, none, TBok⟩ Tryz.f6.results.toList (fun e w' => ∃ _ : Unit, e = .returned (.bool true) ∧ FPost S w (AssL [.ext 9 (GlA o0 o1)]) w')) := by
  conv => arg 2; whnf
  have hil := items_le hIo
  have hit1012 := fun w => items1012 (d := d) hko hIo w
  repeat' (first
 | with_reducible ((first | refine r_seq (fun KS hS => ?_) | (refine hS _ _ ?_; clear hS KS) | (refine hB _ ?_; clear hB KB) | refine r_block ?_))
 | ((with_reducible (first | refine r_region ?_ | refine r_cond (fun KA hA KB hB => ?_) | refine r_skip ?_ | intro b)); conv => whnf)
 | ((with_reducible refine CallK.id ?_); refine CallK.s2 (by repeat (first | with_reducible apply Rm.head | apply Rm.tail)) (by repeat (first | with_reducible apply Rm.head | apply Rm.tail)) (fun ms w hk => hit1012 w) ?_; conv => whnf)
 | ((with_reducible refine CallK.at 28 ?_); refine CallK.puW (fun ms w hk => eqItems1028 (L := o.items) (Sees.rd (Sees.ext (by repeat (first | with_reducible apply At.head | apply At.tail))) hk) (Sees.rd (Sees.ext (by repeat (first | with_reducible apply At.head | apply At.tail))) hk) hil) ?_; conv => whnf)
 | with_reducible apply_assumption -symm -exfalso)
  refine r_loop (α := Nat × Int) (fun x => [(3, .v (pv d)), (5, .v (.slice ca o.items.length cc)), (17, .v (.int .i64 x.2)), (155, .v (.slice ia o.items.length ic)), (156, .v (.int .i64 (o.items.length : Nat))), (157, .v (.int .i64 (x.1 : Nat)))]) (fun x => [.ext 12 (OrchA d o), .ext 9 (GlA o0 o1), .ext 60 (SlA 31 6 ia o.items.length ic (imC o)), .ext 61 (SlA 42 24 ca o.items.length cc (o.wanted.flatMap cmC))]) (fun x => x.1 ≤ o.items.length ∧ ∀ y ∈ o.wanted.drop x.1, x.2 < OM.itN y.1) (fun x => o.items.length - x.1) (0, 0) ⟨Nat.zero_le _, itN_pos hIo⟩ (by repeat' (first | exact Sub.nil | (refine Sub.cons rfl rfl ?_))) (by (try dsimp only [List.cons_append, List.nil_append, den, denL]); refine SelI.spec ?_; (repeat (first | refine SelI.blk (by repeat (first | with_reducible apply Rm.head | apply Rm.tail)) ?_ | refine SelI.ext (by repeat (first | with_reducible apply Rm.head | apply Rm.tail)) ?_ | (refine SelI.blk' (by repeat (first | with_reducible apply Rm.head | apply Rm.tail)) ?_ ?_; focus rfl) | (refine SelI.ext' (by repeat (first | with_reducible apply Rm.head | apply Rm.tail)) ?_ ?_; focus rfl))); exact SelI.nil) ?_
  clear hit1012
  rintro ⟨i, n⟩ ⟨hi, hn⟩ KL3 hL4
  dsimp only at hi hn ⊢
  by_cases hlt : i < o.items.length
  · as_aux_lemma =>
    obtain ⟨⟨x, c⟩, hw⟩ : ∃ y, o.wanted[i]? = some y := ⟨_, List.getElem?_eq_getElem (by rw [← items_len]; exact hlt)⟩
    have hx : o.items[i]? = some x := by unfold OM.St.items; rw [List.getElem?_map, hw]; rfl
    have hxo := OM.item_ok hIo (List.mem_of_getElem? hw)
    have hnx : n < OM.itN x := hn (x, c) (List.mem_of_getElem? (i := 0) (by rw [List.getElem?_drop]; exact hw))
    have hcm1017 := fun w => command1017 (d := d) (x := x) hko hIo w
    rw [OM.command_at hIo hw] at hcm1017
    have hnum := number1029 hxo
    have hgr : ∀ y ∈ o.wanted.drop (i + 1), OM.itN x < OM.itN y.1 := by
      intro y hy
      obtain ⟨k, hk⟩ := List.mem_iff_getElem?.1 hy
      rw [List.getElem?_drop] at hk
      have hp := List.pairwise_iff_getElem.1 (OM.items_grow hIo)
      obtain ⟨hl1, he1⟩ := List.getElem?_eq_some_iff.1 hw
      obtain ⟨hl2, he2⟩ := List.getElem?_eq_some_iff.1 hk
      have := hp i (i + 1 + k) hl1 hl2 (by omega)
      rw [he1, he2] at this
      exact this
    repeat' (first
 | with_reducible ((first | refine r_seq (fun KS hS => ?_) | (refine hS _ _ ?_; clear hS KS) | (refine hA _ ?_; clear hA KA) | (refine hB _ ?_; clear hB KB) | refine r_block ?_))
 | ((with_reducible (first | refine r_region ?_ | refine r_cond (fun KA hA KB hB => ?_) | refine r_skip ?_ | refine And.intro rfl ?_ | intro b)); conv => whnf)
 | ((with_reducible refine WrapK.i64 ?_ ?_); (focus omega); conv => whnf)
 | ((with_reducible refine QK.id ?_); (first | refine QK.idx (k := 24) rfl rfl rfl rfl rfl rfl rfl (Sees.ext (by repeat (first | with_reducible apply At.head | apply At.tail))) (by omega) (by omega) (cm_at hw) (fun b off hp => ?_) | refine QK.ldp rfl rfl (hp.field 0) (List.cons_ne_nil _ _) ?_ | refine QK.ldp rfl rfl (hp.field 3) (List.cons_ne_nil _ _) ?_ | refine QK.ldp rfl rfl (hp.field 6) (List.cons_ne_nil _ _) ?_ | refine QK.ldp rfl rfl (hp.field 7) (List.cons_ne_nil _ _) ?_ | refine QK.ldp rfl rfl (hp.field 8) (List.cons_ne_nil _ _) ?_ | refine QK.ldp rfl rfl (hp.field 9) (List.cons_ne_nil _ _) ?_ | refine QK.ldp rfl rfl (hp.field 23) (List.cons_ne_nil _ _) ?_); conv => whnf)
 | ((with_reducible refine IK.id ?_); refine IK.fap rfl rfl ?_; conv => whnf)
 | ((with_reducible refine OpK.id ?_); (first | refine OpK.idx (k := 6) rfl rfl rfl rfl rfl rfl rfl (Sees.ext (by repeat (first | with_reducible apply At.head | apply At.tail))) (by omega) (by omega) (it_at hx) (fun b off hp => ?_) | refine OpK.ldp rfl rfl hp (List.cons_ne_nil _ _) ?_); conv => whnf)
 | ((with_reducible refine CallK.id ?_); (first | refine CallK.pure (.tup [.v (.int .i64 (OM.itN x)), .v (.int .i64 0)]) (fun ms w hk => hnum w) ?_ | (refine CallK.selS (.tup [.agg (cmV c none 0 0), .v (.int .i64 0)]) rfl (by apply Sel.cons; (case h => repeat (first | with_reducible apply Rm.head | apply Rm.tail)); apply Sel.cons; (case h => repeat (first | with_reducible apply Rm.head | apply Rm.tail)); exact Sel.nil) (fun ms w hk => hcm1017 w) ?_; dsimp only [layF])); conv => whnf)
 | ((with_reducible refine IK.id ?_); refine IK.neqV sok2 rfl rfl rfl ?_; conv => whnf; simp only [eq_self, decide_true, Bool.and_true, Bool.not_true]; (try (conv => whnf)))
 | (((refine if_f ?_ ?_); (focus (simp only [eq_self, decide_true, Bool.and_true, Bool.and_self, Bool.not_true, beq_self_eq_true] <;> fail)); conv => whnf))
 | (refine hL4 (i + 1, OM.itN x) _ _ ⟨by show i + 1 ≤ _; omega, hgr⟩ (by show _ - (i + 1) < _ - i; omega) (by repeat' (first | exact Sub.nil | (refine Sub.cons rfl rfl ?_))) (by (try dsimp only [List.cons_append, List.nil_append, den, denL]); refine SelI.spec ?_; (repeat (first | refine SelI.blk (by repeat (first | with_reducible apply Rm.head | apply Rm.tail)) ?_ | refine SelI.ext (by repeat (first | with_reducible apply Rm.head | apply Rm.tail)) ?_ | (refine SelI.blk' (by repeat (first | with_reducible apply Rm.head | apply Rm.tail)) ?_ ?_; focus rfl) | (refine SelI.ext' (by repeat (first | with_reducible apply Rm.head | apply Rm.tail)) ?_ ?_; focus rfl))); exact SelI.nil))
 | (apply r_quiet; refine mixed; kernel_rfl; kernel_rfl; kernel_rfl; conv => whnf)
 | ((first | refine if_decT (by omega) ?_ | refine if_decF (by omega) ?_); conv => whnf)
 | with_reducible apply_assumption -symm -exfalso)
    skip
  · as_aux_lemma =>
    obtain rfl : i = o.items.length := by omega
    clear hL4
    repeat' (first
 | with_reducible ((first | refine r_seq (fun KS hS => ?_) | (refine hS _ _ ?_; clear hS KS) | (refine hB _ ?_; clear hB KB)))
 | ((with_reducible (first | refine r_region ?_ | refine r_cond (fun KA hA KB hB => ?_) | refine r_ret ?_ | refine r_exit ?_)); conv => whnf)
 | ((with_reducible refine CallK.id ?_); refine CallK.s1V (by repeat (first | with_reducible apply Rm.head | apply Rm.tail)) (fun ms w hk => works1013 hko w) ?_; conv => whnf)
 | (refine if_decF (by omega) ?_; conv => whnf)
 | with_reducible apply_assumption -symm -exfalso)
    exact FinK.frZL () rfl (by (try dsimp only [List.cons_append, List.nil_append, den, denL]); refine SelI.spec ?_; (repeat (first | refine SelI.blk (by repeat (first | with_reducible apply Rm.head | apply Rm.tail)) ?_ | refine SelI.ext (by repeat (first | with_reducible apply Rm.head | apply Rm.tail)) ?_ | (refine SelI.blk' (by repeat (first | with_reducible apply Rm.head | apply Rm.tail)) ?_ ?_; focus rfl) | (refine SelI.ext' (by repeat (first | with_reducible apply Rm.head | apply Rm.tail)) ?_ ?_; focus rfl))); exact SelI.nil)
end Go.Proofs.YtjkmpaggfbghiaaGreatDoor

set_option linter.all false
namespace Go.Proofs.YtjkmpaggfbghiaaGreatDoor
open Go Go.X
set_option maxRecDepth 100000
set_option maxHeartbeats 0
def effW (o : OM.St) (i : Nat) : List (OM.Item × OM.Cmd) := (o.sagas.take i).filterMap o.effOf
theorem effW_none {o : OM.St} {i : Nat} {x : Int × OM.Sg} (h : o.sagas[i]? = some x) (he : o.effOf x = none) : effW o (i + 1) = effW o i := by
  unfold effW; rw [take_s h, List.filterMap_append]; simp [he]
theorem effW_some {o : OM.St} {i : Nat} {x : Int × OM.Sg} {e : OM.Item × OM.Cmd} (h : o.sagas[i]? = some x) (he : o.effOf x = some e) : effW o (i + 1) = effW o i ++ [e] := by
  unfold effW; rw [take_s h, List.filterMap_append]; simp [he]
theorem effW_le {o : OM.St} (i : Nat) : (effW o i).length ≤ o.sagas.length := by
  unfold effW
  exact Nat.le_trans (List.length_filterMap_le _ _) (by rw [List.length_take]; omega)
theorem effOf_closed {o : OM.St} {x : Int × OM.Sg} (h : ¬ x.2.st < 4) : o.effOf x = none := by
  unfold OM.St.effOf OM.Sg.next OM.Sg.open_
  rw [decide_eq_false h]; rfl
theorem effOf_busy {o : OM.St} {x : Int × OM.Sg} (h : x.2.st < 4) (hb : o.busy x.2.stepAt.key = true) : o.effOf x = none := by
  unfold OM.St.effOf OM.Sg.next OM.Sg.open_
  rw [decide_eq_true h]
  dsimp only
  rw [if_pos rfl]
  dsimp only
  rw [if_pos hb]
theorem effOf_open {o : OM.St} {x : Int × OM.Sg} (h : x.2.st < 4) (hb : o.busy x.2.stepAt.key = false) : o.effOf x = some (⟨⟨x.1, x.2.at_, OM.phaseOf x.2.st⟩, 0, false, o.route x.2.stepAt.key⟩, { OM.zCmd with kind := 1, eff := ⟨x.1, x.2.at_, OM.phaseOf x.2.st⟩, key := x.2.stepAt.key, delta := x.2.stepAt.delta }) := by
  unfold OM.St.effOf OM.Sg.next OM.Sg.open_
  rw [decide_eq_true h]
  dsimp only
  rw [if_pos rfl]
  dsimp only
  rw [if_neg (by rw [hb]; decide)]
theorem fm_snoc {α β : Type} {g : α → List β} {l : List α} {x : α} : (l ++ [x]).flatMap g = l.flatMap g ++ g x := by rw [List.flatMap_append, List.flatMap_singleton]
theorem openF_snoc {m : OM.Mv} : ∀ (l : List OM.Mv) (i : Int), OM.openF i (l ++ [m]) = OM.openF i l ++ (if m.st = 3 then [] else [(i + (l.length : Int), m)])
  | [], i => by
    show OM.openF i [m] = OM.openF i [] ++ _
    unfold OM.openF
    split <;> simp [OM.openF]
  | x :: l, i => by
    have ih := openF_snoc (m := m) l (i + 1)
    have e : i + 1 + (l.length : Int) = i + ((x :: l).length : Int) := by rw [List.length_cons]; push_cast; omega
    rw [e] at ih
    rw [List.cons_append]
    conv => lhs; unfold OM.openF
    conv => rhs; lhs; unfold OM.openF
    split
    · exact ih
    · rw [ih]; rfl
def mwW (o : OM.St) (j : Nat) : List (OM.Item × OM.Cmd) := (OM.openF 1 (o.moves.take j)).map fun x => OM.mvItem x.1 x.2
def allW (o : OM.St) (j : Nat) : List (OM.Item × OM.Cmd) := effW o o.sagas.length ++ mwW o j
theorem allW_zero {o : OM.St} : allW o 0 = effW o o.sagas.length := by unfold allW mwW; rw [List.take_zero]; simp [OM.openF]
theorem allW_end {o : OM.St} : allW o o.moves.length = o.wanted := by
  unfold allW mwW effW
  rw [List.take_length, List.take_length]
  rfl
theorem mwW_snoc {o : OM.St} {j : Nat} {m : OM.Mv} (h : o.moves[j]? = some m) : mwW o (j + 1) = mwW o j ++ (if m.st = 3 then [] else [OM.mvItem ((j : Int) + 1) m]) := by
  have hj : (o.moves.take j).length = j := by
    rw [List.length_take]
    have := (List.getElem?_eq_some_iff.1 h).1
    omega
  unfold mwW
  rw [take_s h, openF_snoc, List.map_append, hj, Int.add_comm 1 (j : Int)]
  split <;> rfl
theorem allW_none {o : OM.St} {j : Nat} {m : OM.Mv} (h : o.moves[j]? = some m) (h3 : m.st = 3) : allW o (j + 1) = allW o j := by
  unfold allW; rw [mwW_snoc h, if_pos h3, List.append_nil]
theorem allW_some {o : OM.St} {j : Nat} {m : OM.Mv} (h : o.moves[j]? = some m) (h3 : m.st ≠ 3) : allW o (j + 1) = allW o j ++ [OM.mvItem ((j : Int) + 1) m] := by
  unfold allW; rw [mwW_snoc h, if_neg h3, List.append_assoc]
theorem allW_le {o : OM.St} (j : Nat) : (allW o j).length ≤ o.sagas.length + o.moves.length := by
  unfold allW mwW
  rw [List.length_append, List.length_map, OM.openF_length]
  have h1 := effW_le (o := o) o.sagas.length
  have h2 := List.countP_le_length (p := OM.isOpen) (l := o.moves.take j)
  rw [List.length_take] at h2
  omega
theorem orchItems1006 {l1 : List (Nat × Nat)} {a1 : Option Addr} {cap1 : Nat} {o0 o1 : Obj} {w : World} (hko : KObj o0 o1)
    (hr1 : RdB w a1 (lmC l1)) (hcap1 : l1.length ≤ cap1) (hll1 : l1.length ≤ 9223372036854775807) (hl1 : ∀ m ∈ l1, m.1 ≤ 255 ∧ m.2 ≤ 65535) :
    FrZ Tryz.prog 6 #[.slice a1 l1.length cap1] w (AssL [.ext 9 (GlX o0 o1)]) (fun _ : Unit => .bool true) (fun _ => AssL [.ext 9 (GlA o0 o1)]) := by
  refine enter_frZ TBok (H := [.ext 9 (GlX o0 o1)]) all_foot Tryz.func6 rfl rfl Tryz.ntmps6 [.v (.slice a1 l1.length cap1)] rfl rfl ?_
  intro S hA hlt
  obtain ⟨hSx, hh0, hh1⟩ := GlX.only hA
  have hng1 := notGl hko hh0 hh1 hr1
  have sa := fun n' r H => SeesB.oldX (c := ⟨Tryz.prog, TB, n', w, S, r, TBok⟩) (H := H) hr1 (fun i v b off h1 h2 hb => by
    have := hng1 i v b off h1 h2
    rcases hSx b hb with e | e <;> omega)
  clear hA hlt hSx hng1
  obtain ⟨o, ho⟩ : ∃ o, OM.playF (OM.init 4) (l1.take 60) = o := ⟨_, rfl⟩
  have hIo : OM.Inv o := by rw [← ho]; exact (OM.Inv.init (g := 4) (by decide)).play _
  have hpl1011 := fun (w : World) (hr : RdB w a1 (lmC l1)) => played1011 hko hr hcap1 hll1 hl1
  simp only [ho] at hpl1011
  clear ho
  have hsl := hIo.slen
  have hml := hIo.mlen
  have hmo := inv_mok hIo
  conv => whnf
  repeat' (first
 | with_reducible refine r_stop 7 ?_
 | with_reducible ((first | refine r_seq (fun KS hS => ?_) | (refine hS _ _ ?_; clear hS KS) | (refine hB _ ?_; clear hB KB)))
 | ((with_reducible (first | refine r_region ?_ | refine r_cond (fun KA hA KB hB => ?_) | refine r_skip ?_ | refine And.intro rfl ?_ | intro b)); conv => whnf)
 | ((with_reducible refine CallK.id ?_); (first | refine CallK.s1 (by repeat (first | with_reducible apply Rm.head | apply Rm.tail)) (fun ms w hk => hpl1011 w (sa _ _ _ ms w hk)) ?_ | (refine CallK.selZS (fun z => .agg (stateV o z)) (fun _ => rfl) (by apply Sel.cons; (case h => repeat (first | with_reducible apply Rm.head | apply Rm.tail)); exact Sel.nil) (fun ms w hk => state1024 hIo w) ?_; intro z; dsimp only [layF, stateH])); conv => whnf)
 | ((with_reducible apply OpK.more); (focus refine sok); (conv => whnf); fail_if_success guard_target =ₛ False)
 | with_reducible apply_assumption -symm -exfalso)
  refine StopR.mk ?_
  rename_i d _ _
  clear hA KA sa hr1 hpl1011
  revert b
  intro b4
  repeat' (first
 | with_reducible ((first | refine r_seq (fun KS hS => ?_) | (refine hS _ _ ?_; clear hS KS) | refine r_block ?_))
 | ((with_reducible (first | refine r_region ?_ | refine And.intro rfl ?_)); conv => whnf))
  refine r_loop (α := Nat × (Option Addr × Nat) × (Option Addr × Nat)) (fun x => [(3, .v (pv d)), (4, .loc b4 13 0), (5, .v (.slice x.2.2.1 (effW o x.1).length x.2.2.2)), (6, .v (.slice x.2.1.1 (effW o x.1).length x.2.1.2)), (31, .v (.slice z.sa.1 o.sagas.length z.sa.2)), (32, .v (.int .i64 (o.sagas.length : Nat))), (33, .v (.int .i64 (x.1 : Nat)))]) (fun x => [.blk 13 b4 (stateV o z) 72, .ext 12 (OrchA d o), .ext 9 (GlA o0 o1), .ext 20 (SlA 76 11 z.sa.1 o.sagas.length z.sa.2 (o.sagas.flatMap (nmC z.A))), .ext 21 (StA o.sagas z.A), .ext 22 (SlA 83 6 z.ma.1 o.moves.length z.ma.2 (o.moves.flatMap mvC)), .ext 60 (SlA 31 6 x.2.1.1 (effW o x.1).length x.2.1.2 ((effW o x.1).flatMap iwC)), .ext 61 (SlA 42 24 x.2.2.1 (effW o x.1).length x.2.2.2 ((effW o x.1).flatMap cmC))]) (fun x => x.1 ≤ o.sagas.length) (fun x => o.sagas.length - x.1) (0, (none, 0), (none, 0)) (Nat.zero_le _) (by repeat' (first | exact Sub.nil | (refine Sub.cons rfl rfl ?_))) (HSub.addSlL (L' := [.blk 13 b4 (stateV o z) 72, .ext 12 (OrchA d o), .ext 9 (GlA o0 o1), .ext 20 (SlA 76 11 z.sa.1 o.sagas.length z.sa.2 (o.sagas.flatMap (nmC z.A))), .ext 21 (StA o.sagas z.A), .ext 22 (SlA 83 6 z.ma.1 o.moves.length z.ma.2 (o.moves.flatMap mvC)), .ext 60 (SlA 31 6 none 0 0 [])]) (HSub.addSlL (L' := [.blk 13 b4 (stateV o z) 72, .ext 12 (OrchA d o), .ext 9 (GlA o0 o1), .ext 20 (SlA 76 11 z.sa.1 o.sagas.length z.sa.2 (o.sagas.flatMap (nmC z.A))), .ext 21 (StA o.sagas z.A), .ext 22 (SlA 83 6 z.ma.1 o.moves.length z.ma.2 (o.moves.flatMap mvC))]) (by (try dsimp only [List.cons_append, List.nil_append, den, denL]); refine SelI.spec ?_; (repeat (first | refine SelI.blk (by repeat (first | with_reducible apply Rm.head | apply Rm.tail)) ?_ | refine SelI.ext (by repeat (first | with_reducible apply Rm.head | apply Rm.tail)) ?_ | (refine SelI.blk' (by repeat (first | with_reducible apply Rm.head | apply Rm.tail)) ?_ ?_; focus rfl) | (refine SelI.ext' (by repeat (first | with_reducible apply Rm.head | apply Rm.tail)) ?_ ?_; focus rfl))); exact SelI.nil))) ?_
  rintro ⟨i, ⟨ia, ic⟩, ⟨ca, cc⟩⟩ hi KL hL2
  dsimp only at hi ⊢
  have hwl := effW_le (o := o) i
  by_cases hlt : i < o.sagas.length
  · as_aux_lemma =>
    obtain ⟨x, hx⟩ : ∃ x, o.sagas[i]? = some x := ⟨_, List.getElem?_eq_getElem hlt⟩
    have hmem := List.mem_of_getElem? hx
    obtain ⟨hid1, hid2, hsk⟩ := hIo.sok x hmem
    by_cases hop : x.2.st < 4
    · have h0 := hsk.at0
      have h1 := hsk.at1 hop
      have hd := OM.Dfn.steps_pos hsk.d
      obtain ⟨sp, hsp⟩ : ∃ sp, x.2.d.steps[x.2.at_.toNat]? = some sp := ⟨_, List.getElem?_eq_getElem (by omega)⟩
      have hse : x.2.stepAt = sp := by unfold OM.Sg.stepAt; rw [hsp]; rfl
      have hkn := OM.stepAt_name hsk hop
      have hks : sp.key.size ≤ 1099511627776 := by rw [← hse]; have h9 := hkn; unfold OM.nmOk at h9; simp only [Bool.and_eq_true, decide_eq_true_eq] at h9; omega
      have hrt1021 := fun w => route1021 (d := d) hIo hkn w
      have hct1026 := fun b2 w => contains1026 (b2 := b2) (key := sp.key) (dl := sp.delta) (L := o.moves) (a := z.ma.1) (cap := z.ma.2) hml hmo hks w
      rw [busy_any] at hct1026
      rw [hse] at hrt1021
      have hn1025 := fun w hg hr => next1025 hsk hop (a := (z.A x.1).1) (cap := (z.A x.1).2) (w := w) hg hr
      by_cases hb : o.busy sp.key = true
      · as_aux_lemma =>
        have hew := effW_none hx (effOf_busy hop (by rw [hse]; exact hb))
        rw [hb] at hct1026
        repeat' (first
 | with_reducible ((first | refine r_seq (fun KS hS => ?_) | (refine hS _ _ ?_; clear hS KS) | (refine hA _ ?_; clear hA KA) | (refine hB _ ?_; clear hB KB) | refine r_block ?_))
 | ((with_reducible (first | refine r_region ?_ | refine r_cond (fun KA hA KB hB => ?_) | refine r_skip ?_ | refine r_exit ?_ | refine And.intro rfl ?_ | intro b)); conv => whnf)
 | ((with_reducible refine WrapK.i64 ?_ ?_); (focus omega); conv => whnf)
 | ((with_reducible refine OpK.id ?_); (first | refine OpK.idx (k := 11) rfl rfl rfl rfl rfl rfl rfl (Sees.ext (by repeat (first | with_reducible apply At.head | apply At.tail))) (by omega) (by omega) (nm_at hx) (fun b off hp => ?_) | refine OpK.idx (k := 2) rfl rfl rfl rfl rfl rfl rfl (StA.sees (by repeat (first | with_reducible apply At.head | apply At.tail)) hmem) (by omega) (by omega) (step_int hsp) (fun b off hp => ?_) | refine OpK.ldp rfl rfl hp (List.cons_ne_nil _ _) ?_); conv => whnf)
 | ((with_reducible refine CallK.id ?_); (first | refine CallK.pure (.tup [.agg [.v (.int .i64 0), .v (.int .i64 x.2.at_), .v (.int .i64 (OM.phaseOf x.2.st))], .v (.bool true), .v (.int .i64 0)]) (fun ms w hk => hn1025 _ (KO.gl hko (by repeat (first | with_reducible apply At.head | apply At.tail)) hk) (Sees.rd (StA.sees (by repeat (first | with_reducible apply At.head | apply At.tail)) hmem) hk)) ?_ | (refine CallK.selV (by apply Sel.cons; (case h => repeat (first | with_reducible apply Rm.head | apply Rm.tail)); apply Sel.cons; (case h => repeat (first | with_reducible apply Rm.head | apply Rm.tail)); exact Sel.nil) (fun ms w hk => hct1026 _ w) ?_; dsimp only [layF])); conv => whnf)
 | (refine hL2 (i + 1, (ia, ic), (ca, cc)) _ _ (by show i + 1 ≤ _; omega) (by show _ - (i + 1) < _ - i; omega) (by rw [hew]; exact (by repeat' (first | exact Sub.nil | (refine Sub.cons rfl rfl ?_)))) (by rw [hew]; exact (by (try dsimp only [List.cons_append, List.nil_append, den, denL]); refine SelI.spec ?_; (repeat (first | refine SelI.blk (by repeat (first | with_reducible apply Rm.head | apply Rm.tail)) ?_ | refine SelI.ext (by repeat (first | with_reducible apply Rm.head | apply Rm.tail)) ?_ | (refine SelI.blk' (by repeat (first | with_reducible apply Rm.head | apply Rm.tail)) ?_ ?_; focus rfl) | (refine SelI.ext' (by repeat (first | with_reducible apply Rm.head | apply Rm.tail)) ?_ ?_; focus rfl))); exact SelI.nil)))
 | ((first | refine if_decT (by omega) ?_ | refine if_decF (by omega) ?_); conv => whnf)
 | with_reducible apply_assumption -symm -exfalso)
        skip
      · as_aux_lemma =>
        have hb : o.busy sp.key = false := by simpa using hb
        have hew := effW_some hx (effOf_open hop (by rw [hse]; exact hb))
        rw [hse] at hew
        rw [hb] at hct1026
        repeat' (first
 | with_reducible ((first | refine r_seq (fun KS hS => ?_) | (refine hS _ _ ?_; clear hS KS) | (refine hA _ ?_; clear hA KA) | (refine hB _ ?_; clear hB KB) | refine r_block ?_))
 | ((with_reducible (first | refine r_region ?_ | refine r_cond (fun KA hA KB hB => ?_) | refine r_skip ?_ | refine And.intro rfl ?_ | intro b)); conv => whnf)
 | ((with_reducible refine WrapK.i64 ?_ ?_); (focus omega); conv => whnf)
 | ((with_reducible refine OpK.id ?_); (first | refine OpK.idx (k := 11) rfl rfl rfl rfl rfl rfl rfl (Sees.ext (by repeat (first | with_reducible apply At.head | apply At.tail))) (by omega) (by omega) (nm_at hx) (fun b off hp => ?_) | refine OpK.idx (k := 2) rfl rfl rfl rfl rfl rfl rfl (StA.sees (by repeat (first | with_reducible apply At.head | apply At.tail)) hmem) (by omega) (by omega) (step_int hsp) (fun b off hp => ?_) | refine OpK.ldp rfl rfl hp (List.cons_ne_nil _ _) ?_); conv => whnf)
 | ((with_reducible refine CallK.id ?_); (first | refine CallK.pure (.tup [.agg [.v (.int .i64 0), .v (.int .i64 x.2.at_), .v (.int .i64 (OM.phaseOf x.2.st))], .v (.bool true), .v (.int .i64 0)]) (fun ms w hk => hn1025 _ (KO.gl hko (by repeat (first | with_reducible apply At.head | apply At.tail)) hk) (Sees.rd (StA.sees (by repeat (first | with_reducible apply At.head | apply At.tail)) hmem) hk)) ?_ | (refine CallK.selV (by apply Sel.cons; (case h => repeat (first | with_reducible apply Rm.head | apply Rm.tail)); apply Sel.cons; (case h => repeat (first | with_reducible apply Rm.head | apply Rm.tail)); exact Sel.nil) (fun ms w hk => hct1026 _ w) ?_; dsimp only [layF]) | refine CallK.s1V (by repeat (first | with_reducible apply Rm.head | apply Rm.tail)) (fun ms w hk => hrt1021 w) ?_); conv => whnf)
 | ((with_reducible refine OpK.id ?_); (first | refine OpK.app (k := 6) rfl rfl rfl rfl rfl rfl rfl rfl (by repeat (first | with_reducible apply At.head | apply At.tail)) (SrcK.slc rfl rfl (by repeat (first | constructor | apply List.Mem.tail)) (Nat.le_refl _) rfl) (big_ok (by omega) (by decide)) (fun a' cap' => ?_) | refine OpK.app (k := 24) rfl rfl rfl rfl rfl rfl rfl rfl (by repeat (first | with_reducible apply At.head | apply At.tail)) (SrcK.slc rfl rfl (by repeat (first | constructor | apply List.Mem.tail)) (Nat.le_refl _) rfl) (big_ok (by omega) (by decide)) (fun a2' cap2' => ?_)); conv => whnf)
 | (refine hL2 (i + 1, (a', cap'), (a2', cap2')) _ _ (by show i + 1 ≤ _; omega) (by show _ - (i + 1) < _ - i; omega) (by rw [hew, List.length_append]; exact (by repeat' (first | exact Sub.nil | (refine Sub.cons rfl rfl ?_)))) (by rw [hew, List.length_append, fm_snoc, fm_snoc]; exact (by (try dsimp only [List.cons_append, List.nil_append, den, denL]); refine SelI.spec ?_; (repeat (first | refine SelI.blk (by repeat (first | with_reducible apply Rm.head | apply Rm.tail)) ?_ | refine SelI.ext (by repeat (first | with_reducible apply Rm.head | apply Rm.tail)) ?_ | (refine SelI.blk' (by repeat (first | with_reducible apply Rm.head | apply Rm.tail)) ?_ ?_; focus rfl) | (refine SelI.ext' (by repeat (first | with_reducible apply Rm.head | apply Rm.tail)) ?_ ?_; focus rfl))); exact SelI.nil)))
 | ((first | refine if_decT (by omega) ?_ | refine if_decF (by omega) ?_); conv => whnf)
 | with_reducible apply_assumption -symm -exfalso)
        skip
    · as_aux_lemma =>
      have hew := effW_none hx (effOf_closed hop)
      repeat' (first
 | with_reducible ((first | refine r_seq (fun KS hS => ?_) | (refine hS _ _ ?_; clear hS KS) | (refine hA _ ?_; clear hA KA) | (refine hB _ ?_; clear hB KB) | refine r_block ?_))
 | ((with_reducible (first | refine r_region ?_ | refine r_cond (fun KA hA KB hB => ?_) | refine r_skip ?_ | refine r_exit ?_ | refine And.intro rfl ?_ | intro b)); conv => whnf)
 | ((with_reducible refine WrapK.i64 ?_ ?_); (focus omega); conv => whnf)
 | ((with_reducible refine OpK.id ?_); (first | refine OpK.idx (k := 11) rfl rfl rfl rfl rfl rfl rfl (Sees.ext (by repeat (first | with_reducible apply At.head | apply At.tail))) (by omega) (by omega) (nm_at hx) (fun b off hp => ?_) | refine OpK.ldp rfl rfl hp (List.cons_ne_nil _ _) ?_); conv => whnf)
 | ((with_reducible refine CallK.id ?_); refine CallK.pure (.tup [.agg [.v (.int .i64 0), .v (.int .i64 0), .v (.int .i64 0)], .v (.bool false), .v (.int .i64 0)]) (fun ms w hk => ended1025 hsk hop (Sees.rd (StA.sees (by repeat (first | with_reducible apply At.head | apply At.tail)) hmem) hk)) ?_; conv => whnf)
 | (refine hL2 (i + 1, (ia, ic), (ca, cc)) _ _ (by show i + 1 ≤ _; omega) (by show _ - (i + 1) < _ - i; omega) (by rw [hew]; exact (by repeat' (first | exact Sub.nil | (refine Sub.cons rfl rfl ?_)))) (by rw [hew]; exact (by (try dsimp only [List.cons_append, List.nil_append, den, denL]); refine SelI.spec ?_; (repeat (first | refine SelI.blk (by repeat (first | with_reducible apply Rm.head | apply Rm.tail)) ?_ | refine SelI.ext (by repeat (first | with_reducible apply Rm.head | apply Rm.tail)) ?_ | (refine SelI.blk' (by repeat (first | with_reducible apply Rm.head | apply Rm.tail)) ?_ ?_; focus rfl) | (refine SelI.ext' (by repeat (first | with_reducible apply Rm.head | apply Rm.tail)) ?_ ?_; focus rfl))); exact SelI.nil)))
 | (refine if_decT (by omega) ?_; conv => whnf)
 | with_reducible apply_assumption -symm -exfalso)
      skip
  · obtain rfl : i = o.sagas.length := by omega
    clear hL2
    rw [← allW_zero]
    repeat' (first
 | with_reducible ((first | refine r_seq (fun KS hS => ?_) | (refine hS _ _ ?_; clear hS KS) | (refine hB _ ?_; clear hB KB) | refine r_block ?_))
 | ((with_reducible (first | refine r_region ?_ | refine r_cond (fun KA hA KB hB => ?_) | refine r_exit ?_ | refine And.intro rfl ?_)); conv => whnf)
 | (refine if_decF (by omega) ?_; conv => whnf)
 | with_reducible apply_assumption -symm -exfalso)
    refine r_loop (α := Nat × (Option Addr × Nat) × (Option Addr × Nat)) (fun x => [(3, .v (pv d)), (5, .v (.slice x.2.2.1 (allW o x.1).length x.2.2.2)), (6, .v (.slice x.2.1.1 (allW o x.1).length x.2.1.2)), (102, .v (.slice z.ma.1 o.moves.length z.ma.2)), (103, .v (.int .i64 (o.moves.length : Nat))), (104, .v (.int .i64 (x.1 : Nat)))]) (fun x => [.ext 12 (OrchA d o), .ext 9 (GlA o0 o1), .ext 22 (SlA 83 6 z.ma.1 o.moves.length z.ma.2 (o.moves.flatMap mvC)), .ext 60 (SlA 31 6 x.2.1.1 (allW o x.1).length x.2.1.2 ((allW o x.1).flatMap iwC)), .ext 61 (SlA 42 24 x.2.2.1 (allW o x.1).length x.2.2.2 ((allW o x.1).flatMap cmC))]) (fun x => x.1 ≤ o.moves.length) (fun x => o.moves.length - x.1) (0, (ia, ic), (ca, cc)) (Nat.zero_le _) (by repeat' (first | exact Sub.nil | (refine Sub.cons rfl rfl ?_))) (by (try dsimp only [List.cons_append, List.nil_append, den, denL]); refine SelI.spec ?_; (repeat (first | refine SelI.blk (by repeat (first | with_reducible apply Rm.head | apply Rm.tail)) ?_ | refine SelI.ext (by repeat (first | with_reducible apply Rm.head | apply Rm.tail)) ?_ | (refine SelI.blk' (by repeat (first | with_reducible apply Rm.head | apply Rm.tail)) ?_ ?_; focus rfl) | (refine SelI.ext' (by repeat (first | with_reducible apply Rm.head | apply Rm.tail)) ?_ ?_; focus rfl))); exact SelI.nil) ?_
    clear hwl hlt hi
    rintro ⟨j, ⟨ia, ic⟩, ⟨ca, cc⟩⟩ hj KL2 hL3
    dsimp only at hj ⊢
    have hwl := allW_le (o := o) j
    by_cases hlt : j < o.moves.length
    · as_aux_lemma =>
      obtain ⟨⟨⟨lo, hi⟩, fr, to_, st, dat⟩, hx⟩ : ∃ x, o.moves[j]? = some x := ⟨_, List.getElem?_eq_getElem hlt⟩
      have hst := (hIo.mok _ (List.mem_of_getElem? hx)).2.2.2.2.2.2
      dsimp only at hst
      have e : st = 1 ∨ st = 2 ∨ st = 3 := by omega
      rcases e with rfl | rfl | rfl
      · have hew := allW_some hx (by show (1 : Int) ≠ 3; decide)
        repeat' (first
 | with_reducible ((first | refine r_seq (fun KS hS => ?_) | (refine hS _ _ ?_; clear hS KS) | (refine hA _ ?_; clear hA KA) | refine r_block ?_))
 | ((with_reducible (first | refine r_region ?_ | refine r_cond (fun KA hA KB hB => ?_) | refine r_skip ?_ | refine And.intro rfl ?_ | intro b)); conv => whnf)
 | ((with_reducible refine WrapK.i64 ?_ ?_); (focus omega); conv => whnf)
 | ((with_reducible refine OpK.id ?_); (first | refine OpK.idx (k := 6) rfl rfl rfl rfl rfl rfl rfl (Sees.ext (by repeat (first | with_reducible apply At.head | apply At.tail))) (by omega) (by omega) (mv_at hx) (fun b off hp => ?_) | refine OpK.ldp rfl rfl hp (List.cons_ne_nil _ _) ?_ | refine OpK.app (k := 6) rfl rfl rfl rfl rfl rfl rfl rfl (by repeat (first | with_reducible apply At.head | apply At.tail)) (SrcK.slc rfl rfl (by repeat (first | constructor | apply List.Mem.tail)) (Nat.le_refl _) rfl) (big_ok (by omega) (by decide)) (fun a' cap' => ?_) | refine OpK.app (k := 24) rfl rfl rfl rfl rfl rfl rfl rfl (by repeat (first | with_reducible apply At.head | apply At.tail)) (SrcK.slc rfl rfl (by repeat (first | constructor | apply List.Mem.tail)) (Nat.le_refl _) rfl) (big_ok (by omega) (by decide)) (fun a2' cap2' => ?_)); conv => whnf)
 | (refine hL3 (j + 1, (a', cap'), (a2', cap2')) _ _ (by show j + 1 ≤ _; omega) (by show _ - (j + 1) < _ - j; omega) (by rw [hew, List.length_append]; exact (by repeat' (first | exact Sub.nil | (refine Sub.cons rfl rfl ?_)))) (by rw [hew, List.length_append, fm_snoc, fm_snoc]; exact (by (try dsimp only [List.cons_append, List.nil_append, den, denL]); refine SelI.spec ?_; (repeat (first | refine SelI.blk (by repeat (first | with_reducible apply Rm.head | apply Rm.tail)) ?_ | refine SelI.ext (by repeat (first | with_reducible apply Rm.head | apply Rm.tail)) ?_ | (refine SelI.blk' (by repeat (first | with_reducible apply Rm.head | apply Rm.tail)) ?_ ?_; focus rfl) | (refine SelI.ext' (by repeat (first | with_reducible apply Rm.head | apply Rm.tail)) ?_ ?_; focus rfl))); exact SelI.nil)))
 | (refine if_decT (by omega) ?_; conv => whnf)
 | with_reducible apply_assumption -symm -exfalso)
        skip
      · have hew := allW_some hx (by show (2 : Int) ≠ 3; decide)
        repeat' (first
 | with_reducible ((first | refine r_seq (fun KS hS => ?_) | (refine hS _ _ ?_; clear hS KS) | (refine hA _ ?_; clear hA KA) | (refine hB _ ?_; clear hB KB) | refine r_block ?_))
 | ((with_reducible (first | refine r_region ?_ | refine r_cond (fun KA hA KB hB => ?_) | refine r_skip ?_ | refine And.intro rfl ?_ | intro b)); conv => whnf)
 | ((with_reducible refine WrapK.i64 ?_ ?_); (focus omega); conv => whnf)
 | ((with_reducible refine OpK.id ?_); (first | refine OpK.idx (k := 6) rfl rfl rfl rfl rfl rfl rfl (Sees.ext (by repeat (first | with_reducible apply At.head | apply At.tail))) (by omega) (by omega) (mv_at hx) (fun b off hp => ?_) | refine OpK.ldp rfl rfl hp (List.cons_ne_nil _ _) ?_ | refine OpK.app (k := 6) rfl rfl rfl rfl rfl rfl rfl rfl (by repeat (first | with_reducible apply At.head | apply At.tail)) (SrcK.slc rfl rfl (by repeat (first | constructor | apply List.Mem.tail)) (Nat.le_refl _) rfl) (big_ok (by omega) (by decide)) (fun a' cap' => ?_) | refine OpK.app (k := 24) rfl rfl rfl rfl rfl rfl rfl rfl (by repeat (first | with_reducible apply At.head | apply At.tail)) (SrcK.slc rfl rfl (by repeat (first | constructor | apply List.Mem.tail)) (Nat.le_refl _) rfl) (big_ok (by omega) (by decide)) (fun a2' cap2' => ?_)); conv => whnf)
 | (refine hL3 (j + 1, (a', cap'), (a2', cap2')) _ _ (by show j + 1 ≤ _; omega) (by show _ - (j + 1) < _ - j; omega) (by rw [hew, List.length_append]; exact (by repeat' (first | exact Sub.nil | (refine Sub.cons rfl rfl ?_)))) (by rw [hew, List.length_append, fm_snoc, fm_snoc]; exact (by (try dsimp only [List.cons_append, List.nil_append, den, denL]); refine SelI.spec ?_; (repeat (first | refine SelI.blk (by repeat (first | with_reducible apply Rm.head | apply Rm.tail)) ?_ | refine SelI.ext (by repeat (first | with_reducible apply Rm.head | apply Rm.tail)) ?_ | (refine SelI.blk' (by repeat (first | with_reducible apply Rm.head | apply Rm.tail)) ?_ ?_; focus rfl) | (refine SelI.ext' (by repeat (first | with_reducible apply Rm.head | apply Rm.tail)) ?_ ?_; focus rfl))); exact SelI.nil)))
 | (refine if_decT (by omega) ?_; conv => whnf)
 | with_reducible apply_assumption -symm -exfalso)
        skip
      · have hew := allW_none hx rfl
        repeat' (first
 | with_reducible ((first | refine r_seq (fun KS hS => ?_) | (refine hS _ _ ?_; clear hS KS) | (refine hA _ ?_; clear hA KA) | (refine hB _ ?_; clear hB KB) | refine r_block ?_))
 | ((with_reducible (first | refine r_region ?_ | refine r_cond (fun KA hA KB hB => ?_) | refine r_skip ?_ | refine And.intro rfl ?_ | intro b)); conv => whnf)
 | ((with_reducible refine WrapK.i64 ?_ ?_); (focus omega); conv => whnf)
 | ((with_reducible refine OpK.id ?_); (first | refine OpK.idx (k := 6) rfl rfl rfl rfl rfl rfl rfl (Sees.ext (by repeat (first | with_reducible apply At.head | apply At.tail))) (by omega) (by omega) (mv_at hx) (fun b off hp => ?_) | refine OpK.ldp rfl rfl hp (List.cons_ne_nil _ _) ?_); conv => whnf)
 | (refine hL3 (j + 1, (ia, ic), (ca, cc)) _ _ (by show j + 1 ≤ _; omega) (by show _ - (j + 1) < _ - j; omega) (by rw [hew]; exact (by repeat' (first | exact Sub.nil | (refine Sub.cons rfl rfl ?_)))) (by rw [hew]; exact (by (try dsimp only [List.cons_append, List.nil_append, den, denL]); refine SelI.spec ?_; (repeat (first | refine SelI.blk (by repeat (first | with_reducible apply Rm.head | apply Rm.tail)) ?_ | refine SelI.ext (by repeat (first | with_reducible apply Rm.head | apply Rm.tail)) ?_ | (refine SelI.blk' (by repeat (first | with_reducible apply Rm.head | apply Rm.tail)) ?_ ?_; focus rfl) | (refine SelI.ext' (by repeat (first | with_reducible apply Rm.head | apply Rm.tail)) ?_ ?_; focus rfl))); exact SelI.nil)))
 | (refine if_decT (by omega) ?_; conv => whnf)
 | with_reducible apply_assumption -symm -exfalso)
        skip
    · obtain rfl : j = o.moves.length := by omega
      clear hL3
      rw [allW_end, show o.wanted.length = o.items.length from items_len.symm, show o.wanted.flatMap iwC = imC o by unfold imC OM.St.items; rw [List.flatMap_map]]
      repeat' (first
 | (refine Run.weakenD (items_rest (w := w) (S := S) (d := d) (ia := ia) (ic := ic) (ca := ca) (cc := cc) hko hIo) (by repeat' (first | exact SubD.nil | (refine SubD.cons rfl rfl ?_))) (by (try dsimp only [List.cons_append, List.nil_append, den, denL]); refine SelI.spec ?_; (repeat (first | refine SelI.blk (by repeat (first | with_reducible apply Rm.head | apply Rm.tail)) ?_ | refine SelI.ext (by repeat (first | with_reducible apply Rm.head | apply Rm.tail)) ?_ | (refine SelI.blk' (by repeat (first | with_reducible apply Rm.head | apply Rm.tail)) ?_ ?_; focus rfl) | (refine SelI.ext' (by repeat (first | with_reducible apply Rm.head | apply Rm.tail)) ?_ ?_; focus rfl))); exact SelI.nil))
 | with_reducible ((first | refine r_seq (fun KS hS => ?_) | (refine hS _ _ ?_; clear hS KS) | (refine hB _ ?_; clear hB KB)))
 | ((with_reducible (first | refine r_region ?_ | refine r_cond (fun KA hA KB hB => ?_) | refine r_exit ?_)); conv => whnf)
 | (refine if_decF (by omega) ?_; conv => whnf)
 | with_reducible apply_assumption -symm -exfalso)
end Go.Proofs.YtjkmpaggfbghiaaGreatDoor
